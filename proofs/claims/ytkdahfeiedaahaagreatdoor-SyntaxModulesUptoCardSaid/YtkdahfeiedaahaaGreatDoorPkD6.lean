/- PROVED: a part of the proof. Conditions: none. -/
import Derived.Test.YtkdahfeiedaahaaGreatDoorPkD5
noncomputable section
namespace Go.Proofs.YtkdahfeiedaahaaGreatDoor
open Go
def Ua(τ:Si)(rs:List Rs):Prop:=eh τ∈rs\/(τ.1=true/\(false,τ.2.1.1,1)∈rs)
def M3(rw:List Nat)(o:Oper):Bool:=match o.op,o.dst with
 |.load _ _,some d=>rw.contains (8 * d+5)
 |_,_=>false
def qc(P:Program)(rw:List Nat)(o:Oper):Nat:=if M3 rw o=true then 0 else bO P rw o
inductive pM(P:Program)(GE:List (Nat×List PVal))(bi:Option (Nat×aC))(rw:List Nat)(o:Oper)(id:Nat)(s:aB):aB->List Rs->Prop where
 |old {s':aB} {rs:List Rs} (h:jR P GE bi rw o id s s' rs) (hu:M3 rw o=false):pM P GE bi rw o id s s' rs
 |ldE (d:Nat) (T:TypeId) (x:Operand) (cs:List PVal) (p:PVal) (ho:o.op=.load T x) (hd:o.dst=some d) (hi:rw.contains (8 * d+5)=true) (hx:opv GE s.tmps x=.eptr cs) (hp:bo P T cs=some p):pM P GE bi rw o id s ⟨s.tmps.set d p,s.boxes,bT d s.own⟩ [(false,d,0)]
 | callG (d:Nat) (f:Operand) (args:Array Operand) (tys:Array TypeId) (r:PVal) (ro:List (Nat×TypeId)) (oa:List OA) (ρ:List Nat) (F:List aC→List aC) (ho:o.op = .call { callee := .value f,args,argTypes:=tys }) (hd:o.dst = some d) (hi:rw.contains (8 * d + 1) = true)
   (F1:∀(H:List aC) (i:Nat),i∉ρ->(F H)[i]? =H[i]?) (F3:∀(H H2:List aC) (i:Nat),H2.map bh=H.map bh->i∈ρ->(F H2)[i]? =(F H)[i]?)
   (hg:∀st:aB,(∀x,x=f\/x∈args.toList->opv GE s.tmps x=opv GE st.tmps x)->(∀x∈oa,((x.t,x.k),x.e)∈s.own->((x.t,x.k),x.e)∈st.own)->st.boxes.map bh=s.boxes.map bh->(∀i∈ρ,∀k e,jT s (true,(i,k),e)->jT st (true,(i,k),e))->KD P GE f args.toList st r ro (F st.boxes) oa):
   pM P GE bi rw o id s ⟨s.tmps.set d r,F s.boxes,(ro.map fun x=>((d,x.1),x.2))++bT d (s.own.filter fun z=>!oa.any fun x=>z.1==(x.t,x.k))⟩ (((false,d,0)::oa.map fun x=>(false,x.t,0))++ρ.map fun i=>(false,i,1))
section
variable{P:Program}{GE:List (Nat×List PVal)}
theorem jR.nw{bi:Option (Nat×aC)}{rw:List Nat}{o:Oper}{id:Nat}{s s':aB}{rs:List Rs}(h:jR P GE bi rw o id s s' rs)(i:Nat):(false,i,1)∉rs:=by
 cases h<;>simp[yb]
theorem jR.rs_of{bi:Option (Nat×aC)}{rw:List Nat}{o:Oper}{id:Nat}{s s':aB}{rs:List Rs}(h:jR P GE bi rw o id s s' rs){τ:Si}(ht:Ua τ rs):eh τ∈rs:=ht.elim (fun x=>x) fun hx=>absurd hx.2 (h.nw _)
structure Ul(P:Program)(rw:List Nat)(o:Oper)(s s':aB)(rs:List Rs):Prop where
 tm:match o.dst with
  |some d=>∃p,s'.tmps=s.tmps.set d p
  |none=>s'.tmps=s.tmps
 bx:qc P rw o≠3->s'.boxes.map bh=s.boxes.map bh
 back:∀τ,¬Ua τ rs->jT s' τ->jT s τ
theorem HP{rw:List Nat}{o:Oper}(hu:M3 rw o=false):qc P rw o=bO P rw o:=by unfold qc;rw[hu];rfl
theorem tH{rw:List Nat}{o:Oper}{f:Operand}{args:Array Operand}{tys:Array TypeId}{d:Nat}(ho:o.op=.call {callee:=.value f,args,argTypes:=tys})(hd:o.dst=some d)(hi:rw.contains (8 * d+1)=true):qc P rw o=3:=by
 rw[HP (by unfold M3;rw[ho])]
 unfold bO
 rw[ho,hd]
 simp only[Option.any_some,hi,if_true]
theorem Wk{rw:List Nat}{o:Oper}{T:TypeId}{x:Operand}{d:Nat}(ho:o.op=.load T x)(hd:o.dst=some d)(hi:rw.contains (8 * d+5)=true):qc P rw o=0:=by
 unfold qc M3
 rw[ho,hd]
 simp only[hi,if_true]
theorem pM.eff{bi:Option (Nat×aC)}{rw:List Nat}{o:Oper}{id:Nat}{s s':aB}{rs:List Rs}(h:pM P GE bi rw o id s s' rs):Ul P rw o s s' rs:=by
 cases h with
 |old h hu=>exact⟨h.eff.tm,by rw[HP hu];exact h.eff.bx,fun τ ht hh=>h.eff.back τ (fun hx=>ht (.inl hx)) hh⟩
 |ldE d T x cs p ho hd hi hx hp=>
  refine⟨by rw[hd];exact⟨_,rfl⟩,fun _=>rfl,?_⟩
  rintro⟨b,⟨t',k⟩,e'⟩ hr hh
  cases b with
  |true=>exact hh
  |false=>exact(dS hh).1
 | callG d f args tys r ro oa ρ F ho hd hi F1 F3 hg =>
  refine⟨by rw[hd];exact⟨r,rfl⟩,fun hc=>absurd (tH ho hd hi) hc,?_⟩
  rintro⟨b,⟨t',k⟩,e'⟩ hr hh
  cases b with
  |true=>
   have hn:t'∉ρ:=fun hx=>hr (.inr ⟨rfl,vaV _ (vah.2 ⟨t',hx,rfl⟩)⟩)
   obtain⟨cs,own,h1,h2⟩:=fa.1 hh
   simp only at h1
   rw[F1 _ _ hn]at h1
   exact⟨cs,own,h1,h2⟩
  | false =>
   rcases vaw.1 (de.1 hh)with hh|hh
   ·simp only[vah,Prod.mk.injEq]at hh
    obtain⟨x,_,⟨rfl,_⟩,_⟩:=hh
    exact absurd (.inl (by simp[eh])) hr
   ·exact(ch (dS hh).1).1
theorem pM.cls{bi:Option (Nat×aC)}{rw:List Nat}{o:Oper}{id:Nat}{s s':aB}{rs:List Rs}(h:pM P GE bi rw o id s s' rs){i k:Nat}(hr:(true,i,k)∈rs):2<=qc P rw o:=by
 cases h with
 |ldE d T x cs p ho hd hi hx hp=>simp at hr
 |old h hu=>
  rw[HP hu]
  cases h with
  |ld d T x i off cs own L p hd ho hx hB h hm=>simp[bO,ce,ho]
  |st T x y i off vs cs own hd ho hx hvs hB hp=>simp[bO,ce,ho]
  |sto T x t i off vs cs own L hd ho hx hvs hB hp hk hm hn hl=>simp[bO,ce,ho]
  |_=>simp at hr
 |callG d f args tys r ro oa ρ F ho hd hi F1 F3 hg=>rw[tH ho hd hi];decide
theorem pM.whole{bi:Option (Nat×aC)}{rw:List Nat}{o:Oper}{id:Nat}{s s':aB}{rs:List Rs}(h:pM P GE bi rw o id s s' rs){i:Nat}(hr:(false,i,1)∈rs):qc P rw o=3:=by
 cases h with
 |ldE d T x cs p ho hd hi hx hp=>simp at hr
 |old h hu=>exact absurd hr (h.nw i)
 |callG d f args tys r ro oa ρ F ho hd hi F1 F3 hg=>exact tH ho hd hi
theorem Mh{o:Oper}{rs:List Rs}(h:rs=match o.dst with
 |some d=>[(false,d,0)]
 |none=>[]) {τ:Si} (ht:Ua τ rs):eh τ∈rs/\τ.1=false:=by
 subst h
 cases hd:o.dst with
 |none=>rw[hd]at ht;rcases ht with hx|hx<;>simp at hx
 | some d =>
  rw[hd]at ht
  rcases ht with hx|hx
  ·refine⟨hx,?_⟩
   obtain⟨b,⟨t,k⟩,e⟩:=τ
   cases b with
   |false=>rfl
   |true=>simp[eh]at hx
  ·simp at hx
structure Un(P:Program)(bs:bD)(rw:List Nat)(o:Oper)(st st' s s':aB)(rs:List Rs):Prop where
 tm:match o.dst with
  |some d=>∃p,st'.tmps=st.tmps.set d p/\s'.tmps=s.tmps.set d p
  |none=>st'.tmps=st.tmps/\s'.tmps=s.tmps
 b1:qc P rw o≠3->st'.boxes.map bh=st.boxes.map bh
 b2:qc P rw o=3->st'.boxes.map bh=s'.boxes.map bh
 keep:∀τ,¬Ua τ rs->(τ.1=true->2 * τ.2.1.1∉rw)->jT st τ->jT st' τ
 got:∀τ,Ua τ rs->jT s' τ->jT st' τ
 un:∀i:Nat,bs[i]? =some none->(false,i,1)∉rs->st'.boxes[i]? =st.boxes[i]?
end
section
variable{P:Program}{E:rD}{Γ:aU}{bs:bD}{ow:Nat->Option lX}{w:World}{a:Act}{st:aB}
theorem pM.sound(h:SR P E Γ bs ow w a.tmps st){bi:Option (Nat×aC)}{rw:List Nat}{o:Oper}{id:Nat}{s s':aB}{rs:List Rs}(hs:pM P E.GE bi rw o id s s' rs)(hid:aK o.op=true->bs[id]? =some none/\st.boxes[id]? =og P o)(hbi:∀i B,bi=some (i,B)->bs[i]? =some none/\st.boxes[i]? =some B)
    (hopv:∀x∈o.op.operands.toList,opv E.GE s.tmps x=opv E.GE st.tmps x) (hbx:2<=qc P rw o->st.boxes.map bh=s.boxes.map bh) (htok:∀τ,Ua τ rs->jT s τ->jT st τ) (hdd:∀d,o.dst=some d->d<st.tmps.length)
    (Q:Exit->Act->World->Prop):
    o.wp P a w (fun a' w'=>a'.defers=a.defers/\∃Γ' bs' ow' st',SR P E Γ' bs' ow' w' a'.tmps st'/\Un P bs rw o st st' s s' rs/\(bs'=bs\/(aK o.op=true/\∃b,bs'=bs.set id (some b))\/∃i B x,bi=some (i,B)/\bs'=bs.set i x)) Q:=by
  cases hs with
  | ldE d T x cs p ho hd hi hx hp =>
    have hx':opv E.GE st.tmps x=.eptr cs:=(hopv x (by rw[ho];simp[Op.operands])).symm.trans hx
    have hw:o.wp P a w (ib P E bs id (aK o.op) a.defers (·=⟨st.tmps.set d p,st.boxes,bT d st.own⟩)) Q:=by
      refine ib.of h (fun hm=>by rw[ho]at hm;cases hm) (by simp[oc,ho]) ?_ Q
      unfold Na
      rw[ho]
      simp only[tz,hx',kV,hp,vag]
      rw[hd];rfl
    refine Oper.wp_mono (fun a' w' hA=>?_) hw
    obtain⟨h1,Γ',bs',ow',st2,h2,rfl,h3⟩:=hA
    exact⟨h1,Γ',bs',ow',_,h2,⟨by rw[hd];exact⟨_,rfl,rfl⟩,fun _=>rfl,fun hc=>absurd ((Wk (P:=P) ho hd hi).symm.trans hc) (by decide),fun τ hr _ hh=>I7 (st:=st) (tm:=st.tmps.set d p) (R:=fun _=>True) (rs:=[(false,d,0)]) (d:=d) (L:=[]) (by simp) τ (fun hx=>hr (.inl hx)) trivial hh,
      fun τ hr hh=>Qc (L:=[]) (tm:=st.tmps.set d p) τ (hr.elim (fun x=>x) fun hx=>by simp at hx) hh,fun _ _ _=>rfl⟩,h3.imp_right .inl⟩
  | old hs hu =>
    rw[HP hu]at hbx
    refine Oper.wp_mono (fun a' w' hA=>?_) (hs.sound h hid hbi hopv hbx (fun τ ht=>htok τ (.inl ht)) hdd Q)
    obtain⟨h1,Γ',bs',ow',st',h2,h3,h4⟩:=hA
    exact⟨h1,Γ',bs',ow',st',h2,⟨h3.tm,by rw[HP hu];exact h3.b1,by rw[HP hu];exact h3.b2,fun τ ht=>h3.keep τ fun hx=>ht (.inl hx),fun τ ht=>h3.got τ (hs.rs_of ht),fun i hi _=>h3.un i hi⟩,h4⟩
  | callG d f args tys r ro oa ρ F ho hd hi F1 F3 hg =>
    have hop:∀x,x=f\/x∈args.toList->opv E.GE s.tmps x=opv E.GE st.tmps x:=fun x hx=>hopv x (by rw[ho];simp[Op.operands,Call.operands];simpa using hx)
    have hown:∀x∈oa,((x.t,x.k),x.e)∈s.own->((x.t,x.k),x.e)∈st.own:=fun x hx hm=>htok (false,(x.t,x.k),x.e) (.inl (va0 _ (vaU _ (vah.2 ⟨x,hx,rfl⟩)))) hm
    have hst:=hbx (by rw[tH ho hd hi];decide)
    have hbox:∀i∈ρ,∀k e,jT s (true,(i,k),e)->jT st (true,(i,k),e):=fun i hi k e hh=>htok _ (.inr ⟨rfl,vaV _ (vah.2 ⟨i,hi,rfl⟩)⟩) hh
    have hF:(F st.boxes).map bh=(F s.boxes).map bh:=by
      refine va2 fun i=>?_
      rw[var,var]
      by_cases hi:i∈ρ
      ·rw[F3 _ _ i hst hi]
      ·rw[F1 _ _ hi,F1 _ _ hi];exact P9 hst i
    refine Oper.wp_mono (fun a' w' hA=>?_) (Ck (id:=id) (K:=(·=⟨st.tmps.set d r,F st.boxes,(ro.map fun x=>((d,x.1),x.2))++bT d (st.own.filter fun z=>!oa.any fun x=>z.1==(x.t,x.k))⟩)) h ho hd (hdd d hd) (hg st hop hown hst hbox) rfl Q)
    obtain⟨h1,Γ',bs',ow',st2,h2,rfl,h3⟩:=hA
    refine⟨h1,Γ',bs',ow',_,h2,⟨by rw[hd];exact⟨_,rfl,rfl⟩,fun hc=>absurd (tH ho hd hi) hc,fun _=>hF,?_,?_,fun i hb hn=>F1 _ _ fun hx=>hn (vaV _ (vah.2 ⟨i,hx,rfl⟩))⟩,h3.imp_right .inl⟩
    · rintro ⟨b,⟨t',k⟩,e'⟩ hr _ hh
      cases b with
      | true =>
        have hn:t'∉ρ:=fun hx=>hr (.inr ⟨rfl,vaV _ (vah.2 ⟨t',hx,rfl⟩)⟩)
        obtain⟨cs,own,k1,k2⟩:=fa.1 hh
        exact⟨cs,own,by simp only;rw[F1 _ _ hn];exact k1,k2⟩
      | false =>
        have hr':eh (false,(t',k),e')∉((false,d,0)::oa.map fun x=>(false,x.t,0)):=fun hx=>hr (.inl (va0 _ hx))
        simp only[eh,vay,Prod.mk.injEq,vb7,vcj,vah,not_or,not_exists,not_and]at hr'
        refine vaV _ (gp (vaJ.2 ⟨de.1 hh,?_⟩) hr'.1)
        simp only[vaT,vbn,vaZ,Prod.mk.injEq,not_and]
        exact fun x hx e=>absurd e.symm (hr'.2 x hx)
    · rintro ⟨b,⟨t',k⟩,e'⟩ hr hh
      cases b with
      | true =>
        have hin:t'∈ρ:=by
          rcases hr with hx|⟨_,hx⟩
          ·simp[eh]at hx
          · rcases vaw.1 hx with hx | hx
            ·simp at hx
            · obtain ⟨i,hi,he⟩:=vah.1 hx
              simp only[Prod.mk.injEq,vcj,vb7]at he
              subst he;exact hi
        obtain⟨cs,own,k1,k2⟩:=fa.1 hh
        exact⟨cs,own,by simp only at k1 ⊢;rw[F3 _ _ t' hst hin];exact k1,k2⟩
      | false =>
        rcases vaw.1 (de.1 hh)with hh|hh
        ·exact va0 _ hh
        · obtain ⟨h1,h2⟩:=dS hh
          obtain⟨h3,h4⟩:=ch h1
          have h5:((t',k),e')∈st.own:=htok (false,(t',k),e') hr h3
          exact vaV _ (gp (vaJ.2 ⟨h5,h4⟩) h2)
end
def AG(o:Oper):List Rs:=match o.dst with
 |some d=>[(false,d,0)]
 |none=>[]
def xr(P:Program)(GE:List (Nat×List PVal))(bi:Option (Nat×aC))(rw:List Nat)(ops:Array Oper)(o:Oper)(id:Nat)(s s':aB)(rs:List Rs):Prop:=
 match o.guard with
 |none=>pM P GE bi rw o id s s' rs
 |some (j,want)=>∃x,wL ops s.tmps j=some x/\(x=some want->pM P GE bi rw o id s s' rs)/\(x≠some want->s'=yO s o.dst (.val undef) [] s.boxes/\rs=AG o)
def my(P:Program)(GE:List (Nat×List PVal))(bid:Nat->Option (Nat×aC))(rw:List Nat)(ops:Array Oper)(K:List (List Rs)->aB->Prop):List Oper->Nat->List (List Rs)->aB->Prop
 |[],_,lg,st=>K lg st
 | o :: rest,id,lg,st =>
  match o.guard with
  |none=>∃s' rs,pM P GE (bid lg.length) rw o id st s' rs/\my P GE bid rw ops K rest (id+if aK o.op then 1 else 0) (lg++[rs]) s'
  |some (j,want)=>match wL ops st.tmps j with
   | some x => (x = some want→∃ s' rs,pM P GE (bid lg.length) rw o id st s' rs∧my P GE bid rw ops K rest (id + if aK o.op then 1 else 0) (lg ++ [rs]) s') ∧
     (x≠some want->my P GE bid rw ops K rest (id+if aK o.op then 1 else 0) (lg++[AG o]) (yO st o.dst (.val undef) [] st.boxes))
   |none=>False
section
variable{P:Program}{GE:List (Nat×List PVal)}
theorem Ei{bid:Nat->Option (Nat×aC)}{rw:List Nat}{ops:Array Oper}{K:List (List Rs)->aB->Prop}:∀(rest:List Oper) (id:Nat) (lg:List (List Rs)) (st:aB),my P GE bid rw ops K rest id lg st->
  ∃(T:Nat->aB) (R:List (List Rs)),T 0=st/\R.length=rest.length/\K (lg++R) (T rest.length)/\∀(k:Nat) o,rest[k]? =some o->xr P GE (bid (lg.length+k)) rw ops o (id+cf (rest.take k)) (T k) (T (k+1)) (R.getD k [])
 |[],id,lg,st,h=>⟨fun _=>st,[],rfl,rfl,by simpa[my]using h,by simp⟩
 | o :: rest,id,lg,st,h => by
  have hcnt:cf [o]=if aK o.op then 1 else 0:=by unfold cf;simp only[vbs,List.filter_nil];split<;>rfl
  have fin:∀st' rs,xr P GE (bid lg.length) rw ops o id st st' rs->my P GE bid rw ops K rest (id+if aK o.op then 1 else 0) (lg++[rs]) st'->
    ∃(T:Nat->aB) (R:List (List Rs)),T 0=st/\R.length=rest.length+1/\K (lg++R) (T (rest.length+1))/\∀(k:Nat) o',(o::rest)[k]? =some o'->xr P GE (bid (lg.length+k)) rw ops o' (id+cf ((o::rest).take k)) (T k) (T (k+1)) (R.getD k []):=by
   intro st' rs h1 h2
   obtain⟨T,R,t0,tl,t1,t2⟩:=Ei rest _ _ st' h2
   refine⟨fun k=>match k with|0=>st|k+1=>T k,rs::R,rfl,by simp[tl],by simpa using t1,fun k o' ho'=>?_⟩
   cases k with
   |zero=>simp at ho';subst ho';simp only[List.getD_cons_zero];rw[t0];simpa[cf]using h1
   | succ k =>
    have:=t2 k o' (by simpa using ho')
    have he:id+(if aK o.op then 1 else 0)+cf (rest.take k)=id+cf ((o::rest).take (k+1)):=by
     simp only[List.take_succ_cons]
     have:cf (o::rest.take k)=cf [o]+cf (rest.take k):=by
      unfold cf;simp only[vbs,List.filter_nil];split<;>simp<;>omega
     rw[this,hcnt];omega
    rw[he,show(lg++[rs]).length+k=lg.length+(k+1) by simp;omega]at this
    simpa using this
  simp only[my]at h
  simp only[vaO]
  split at h
  ·rename_i hg
   obtain⟨s',rs,h1,h2⟩:=h
   exact fin s' rs (by unfold xr;rw[hg];exact h1) h2
  ·rename_i j want hg
   split at h
   ·rename_i x hx
    by_cases hw:x=some want
    ·obtain⟨s',rs,h1,h2⟩:=h.1 hw
     exact fin s' rs (by unfold xr;rw[hg];exact⟨x,hx,fun _=>h1,fun hn=>absurd hw hn⟩) h2
    ·exact fin _ _ (by unfold xr;rw[hg];exact⟨x,hx,fun hy=>absurd hy hw,fun _=>⟨rfl,rfl⟩⟩) (h.2 hw)
   ·exact h.elim
end
def drawD(P:Program)(rw:List Nat)(l:List Oper)(n:Nat)(an:List Nat):Bool:=
 let before (i j:Nat):Bool:=(an.getD j 0).testBit i
 let eT:=List.range l.length
 (an.length==l.length&&eT.all fun j=>jk an (l.getD j default)==an.getD j 0)&&
 (l.all (fun o=>o.dst.all fun d=>decide (d<n))&&
 eT.all (fun j=>(l.getD j default).after.all fun e=>!Region.binds .any e||decide (e.on<j))&&
 eT.all (fun j=>eT.all fun i=>i==j||(l.getD i default).dst==none||(l.getD i default).dst !=(l.getD j default).dst)&&
 eT.all (fun j=>(looks l.toArray (l.getD j default)).all fun t=>eT.all fun i=>i==j||(l.getD i default).dst !=some t||(if i<j then before i j else before j i))&&
 eT.all (fun j=>eT.all fun i=>!(decide (i<j))||qc P rw (l.getD i default)<2||qc P rw (l.getD j default)<2||(qc P rw (l.getD i default)!=3&&qc P rw (l.getD j default)!=3)||before i j))
def Ty(an:List Nat)(lg:List (List Rs)):Bool:=
 let eT:=List.range lg.length
 eT.all fun j=>(lg.getD j []).all fun r=>eT.all fun i=>!(decide (i<j))||!((lg.getD i []).contains r)||(an.getD j 0).testBit i
structure KC(P:Program)(rw:List Nat)(ops:Array Oper)(n:Nat):Prop where
 f1:∀(k:Nat) o d,ops[k]? =some o->o.dst=some d->d<n
 f2:∀(k:Nat) o,ops[k]? =some o->∀e∈o.after.toList,Region.binds .any e=true->e.on<k
 f3:∀(i j:Nat) oi oj d,ops[i]? =some oi->ops[j]? =some oj->i≠j->oi.dst=some d->oj.dst≠some d
 f4:∀(j:Nat) oj t,ops[j]? =some oj->t∈looks ops oj->∀(i:Nat) oi,ops[i]? =some oi->i≠j->oi.dst=some t->(i<j/\bf ops i j)\/(j<i/\bf ops j i)
 f5:∀(i j:Nat) oi oj,ops[i]? =some oi->ops[j]? =some oj->i<j->qc P rw oi<2\/qc P rw oj<2\/(qc P rw oi≠3/\qc P rw oj≠3)\/bf ops i j
theorem MQ{an an':List Nat}{o:Oper}(h:∀e∈o.after.toList,Region.binds .any e=true->an.getD e.on 0=an'.getD e.on 0):jk an o=jk an' o:=by
 unfold jk
 have key:∀(l:List Edge) (s:Nat),(∀e∈l,Region.binds .any e=true->an.getD e.on 0=an'.getD e.on 0)->
   l.foldl (fun s e=>if Region.binds .any e then s|||2 ^ e.on|||an.getD e.on 0 else s) s=l.foldl (fun s e=>if Region.binds .any e then s|||2 ^ e.on|||an'.getD e.on 0 else s) s:=by
  intro l
  induction l with
  |nil=>intro s _;rfl
  | cons e l ih =>
   intro s h
   simp only[List.foldl_cons]
   rw[ih _ fun e he=>h e (by simp[he])]
   by_cases hb:Region.binds .any e=true
   ·rw[vax hb,vax hb,h e (by simp) hb]
   ·rw[vaz hb,vaz hb]
 exact key _ _ h
theorem V8{l:List Oper}{an:List Nat}(hlen:an.length=l.length)(ha:∀j,j<l.length->jk an (l.getD j default)=an.getD j 0)
  (hedge:∀j,j<l.length->∀e∈(l.getD j default).after.toList,Region.binds .any e=true->e.on<j):E2 l=an:=by
 have key:∀k,k<=l.length->E2 (l.take k)=an.take k:=by
  intro k
  induction k with
  |zero=>intro _;simp[E2]
  | succ k ih =>
   intro hk
   have ih:=ih (by omega)
   have hl:l.take (k+1)=l.take k++[l.getD k default]:=by
    rw[vcg,van]
    simp[show k<l.length by omega]
   have han:an.take (k+1)=an.take k++[an.getD k 0]:=by
    rw[vcg,van]
    simp[show k<an.length by omega]
   have hstep:E2 (l.take k++[l.getD k default])=E2 (l.take k)++[jk (E2 (l.take k)) (l.getD k default)]:=by
    unfold E2;rw[vbS];rfl
   rw[hl,hstep,ih,han,<-ha k (by omega)]
   congr 2
   refine MQ fun e he hb=>?_
   have:=hedge k (by omega) e he hb
   rw[van,van,vak this]
 have:=key l.length (vam _)
 rwa[vaP,<-hlen,vaP]at this
theorem Lk{P:Program}{rw:List Nat}{ops:Array Oper}{n:Nat}{an:List Nat}(h:drawD P rw ops.toList n an=true):KC P rw ops n/\E2 ops.toList=an:=by
 unfold drawD at h
 simp only[vad,vau,vbu,va4,vaT,vai,bne_iff_ne,ne_eq,vaZ,vbl,Option.all_eq_true]at h
 obtain⟨⟨ha1,ha2⟩,⟨⟨⟨h1,h2⟩,h3⟩,h4⟩,h5⟩:=h
 have hl:∀{k:Nat} {o},ops[k]? =some o->ops.toList[k]? =some o:=fun hk=>by simpa using hk
 have han:E2 ops.toList=an:=by
  refine V8 ha1 ha2 fun j hj e he hb=>?_
  rcases h2 j hj e (by simpa using he)with hx|hx
  ·rw[hb]at hx;cases hx
  ·exact hx
 refine⟨⟨fun k o d hk hd=>?_,fun k o hk e he hb=>?_,fun i j oi oj d hi hj hij hd hd'=>?_,fun j oj t hj ht i oi hi hij hd=>?_,fun i j oi oj hi hj hij=>?_⟩,han⟩
 ·exact h1 o (vaC (hl hk)) d hd
 ·have:=h2 k (aq (hl hk)) e (by rw[At (hl hk)];simpa using he)
  rcases this with hx|hx
  ·rw[hb]at hx;cases hx
  ·exact hx
 ·have:=h3 j (aq (hl hj)) i (aq (hl hi))
  rw[At (hl hi),At (hl hj)]at this
  rcases this with(hx|hx)|hx
  ·exact hij hx
  ·rw[hd]at hx;cases hx
  ·exact hx (hd.trans hd'.symm)
 ·have:=h4 j (aq (hl hj)) t (by rw[At (hl hj)];exact ht) i (aq (hl hi))
  rw[At (hl hi)]at this
  unfold bf
  rw[han]
  rcases this with(hx|hx)|hx
  ·exact absurd hx hij
  ·exact absurd hd hx
  ·by_cases hlt:i<j
   ·rw[vax hlt]at hx;exact .inl ⟨hlt,hx⟩
   ·rw[vaz hlt]at hx;exact .inr ⟨by omega,hx⟩
 ·have:=h5 j (aq (hl hj)) i (aq (hl hi))
  rw[At (hl hi),At (hl hj)]at this
  unfold bf
  rw[han]
  rcases this with(((hx|hx)|hx)|hx)|hx
  ·rw[vbD]at hx;exact absurd hij hx
  ·exact .inl hx
  ·exact .inr (.inl hx)
  ·exact .inr (.inr (.inl hx))
  ·exact .inr (.inr (.inr hx))
theorem Tz{an:List Nat}{lg:List (List Rs)}(h:Ty an lg=true){i j:Nat}{r:Rs}(hij:i<j)(hi:r∈lg.getD i [])(hj:r∈lg.getD j []):(an.getD j 0).testBit i=true:=by
 unfold Ty at h
 simp only[vau,vbu,va4,vaT,vbD,vcw]at h
 have hjl:j<lg.length:=by
  by_cases hx:j<lg.length
  ·exact hx
  ·rw[van,vaE (by omega)]at hj;simp at hj
 rcases h j hjl r hj i (by omega)with(hx|hx)|hx
 ·exact absurd hij hx
 ·exact absurd hi hx
 ·exact hx
section
variable{P:Program}{GE:List (Nat×List PVal)}{bid:Nat->Option (Nat×aC)}{rw:List Nat}{ops:Array Oper}{n base:Nat}{T:Nat->aB}{R:Nat->List Rs}
structure mY(P:Program)(GE:List (Nat×List PVal))(bid:Nat->Option (Nat×aC))(rw:List Nat)(ops:Array Oper)(n base:Nat)(T:Nat->aB)(R:Nat->List Rs):Prop where
 len:(T 0).tmps.length=n
 step:∀(k:Nat) o,ops[k]? =some o->xr P GE (bid k) rw ops o (base+cf (ops.toList.take k)) (T k) (T (k+1)) (R k)
 log:∀(i j:Nat) r,i<j->r∈R i->r∈R j->bf ops i j
 row0:∀i,2 * i∈rw->∀k e,¬jT (T 0) (true,(i,k),e)
 rowl:∀j,j<ops.size->∀i,2 * i∈rw->∀k,(true,i,k)∉R j
 roww:∀j,j<ops.size->∀i,2 * i∈rw->(false,i,1)∉R j
 wl:∀j,j<ops.size->∀i,(false,i,1)∈R j->i<base/\∀k B,bid k≠some (i,B)
 binj:∀(j k i:Nat) B B',bid j=some (i,B)->bid k=some (i,B')->j=k
theorem VE{o:Oper}{s:aB}:Ul P rw o s (yO s o.dst (.val undef) [] s.boxes) (AG o):=by
 unfold AG
 cases hd:o.dst with
 |none=>exact⟨by rw[hd];rfl,fun _=>rfl,fun τ _ h=>h⟩
 |some d=>
  refine⟨by rw[hd];exact⟨_,rfl⟩,fun _=>rfl,?_⟩
  rintro⟨b,⟨t,k⟩,e⟩ hr hh
  cases b with
  |true=>exact hh
  |false=>exact(dS (by simpa[yO]using de.1 hh)).1
theorem xr.cls{bi:Option (Nat×aC)}{o:Oper}{id:Nat}{s s':aB}{rs:List Rs}(h:xr P GE bi rw ops o id s s' rs){τ:Si}(ht:τ.1=true)(hr:Ua τ rs):2<=qc P rw o/\((false,τ.2.1.1,1)∈rs->qc P rw o=3):=by
 have key:pM P GE bi rw o id s s' rs->2<=qc P rw o/\((false,τ.2.1.1,1)∈rs->qc P rw o=3):=fun hs=>by
  refine⟨?_,fun hx=>hs.whole hx⟩
  rcases hr with hr|hr
  ·obtain⟨b,⟨t,k⟩,e⟩:=τ
   simp only at ht;subst ht
   exact hs.cls hr
  ·rw[hs.whole hr.2];decide
 unfold xr at h
 split at h
 ·exact key h
 ·obtain⟨x,_,h1,h2⟩:=h
  by_cases hx:x=some ‹Bool›
  ·exact key (h1 hx)
  ·obtain⟨_,rfl⟩:=h2 hx
   have:=(Mh (o:=o) rfl hr).2
   rw[ht]at this;cases this
theorem xr.eff{bi:Option (Nat×aC)}{o:Oper}{id:Nat}{s s':aB}{rs:List Rs}(h:xr P GE bi rw ops o id s s' rs):Ul P rw o s s' rs:=by
 unfold xr at h
 split at h
 ·exact h.eff
 ·obtain⟨x,_,h1,h2⟩:=h
  by_cases hx:x=some ‹Bool›
  ·exact(h1 hx).eff
  ·obtain⟨rfl,rfl⟩:=h2 hx;exact VE
theorem mY.all(hT:mY P GE bid rw ops n base T R):∀k,k<=ops.size->(T k).tmps.length=n:=by
 intro k
 induction k with
 |zero=>intro _;exact hT.len
 | succ k ih =>
  intro hk
  have h1:=ih (by omega)
  have hok:ops[k]? =some ops[k]:=by simp[show k<ops.size by omega]
  have he:=(hT.step k _ hok).eff.tm
  split at he
  ·obtain⟨p,he⟩:=he;rw[he];simp[h1]
  ·rw[he];exact h1
theorem mY.between(hT:mY P GE bid rw ops n base T R){t:Nat}:∀(m k:Nat),k+m<=ops.size->(∀(i:Nat) o,k<=i->i<k+m->ops[i]? =some o->o.dst≠some t)->(T (k+m)).tmps[t]? =(T k).tmps[t]?:=by
 intro m
 induction m with
 |zero=>intro k _ _;rfl
 | succ m ih =>
  intro k hk hne
  have hok:ops[k+m]? =some ops[k+m]:=by simp[show k+m<ops.size by omega]
  have he:=(hT.step _ _ hok).eff.tm
  have hn:=hne (k+m) _ (by omega) (by omega) hok
  have ih:=ih k (by omega) fun i o h1 h2=>hne i o h1 (by omega)
  rw[<-ih,show k+(m+1)=k+m+1 from rfl]
  split at he
  ·rename_i d hd
   obtain⟨p,he⟩:=he
   rw[he,vap (fun e=>hn (by rw[hd,e]))]
  ·rw[he]
theorem mY.boxes(hT:mY P GE bid rw ops n base T R):∀(m k:Nat),k+m<=ops.size->(∀(i:Nat) o,k<=i->i<k+m->ops[i]? =some o->qc P rw o≠3)->(T (k+m)).boxes.map bh=(T k).boxes.map bh:=by
 intro m
 induction m with
 |zero=>intro k _ _;rfl
 |succ m ih=>
  intro k hk hne
  have hok:ops[k+m]? =some ops[k+m]:=by simp[show k+m<ops.size by omega]
  rw[show k+(m+1)=k+m+1 from rfl,(hT.step _ _ hok).eff.bx (hne (k+m) _ (by omega) (by omega) hok)]
  exact ih k (by omega) fun i o h1 h2=>hne i o h1 (by omega)
theorem mY.boxes_eq(hT:mY P GE bid rw ops n base T R){k m:Nat}(hk:k<=ops.size)(hm:m<=ops.size)(h:∀(i:Nat) o,ops[i]? =some o->qc P rw o=3->(i<k↔i<m)):(T k).boxes.map bh=(T m).boxes.map bh:=by
 rcases Nat.le_total k m with hle|hle
 ·have:=hT.boxes (m - k) k (by omega) fun i o h1 h2 ho hc=>by have:=(h i o ho hc);omega
  rw[show k+(m - k)=m from by omega]at this
  exact this.symm
 ·have:=hT.boxes (k - m) m (by omega) fun i o h1 h2 ho hc=>by have:=(h i o ho hc);omega
  rw[show m+(k - m)=k from by omega]at this
  exact this
theorem mY.back(hT:mY P GE bid rw ops n base T R){τ:Si}:∀(m k:Nat),k+m<=ops.size->(∀i,k<=i->i<k+m->¬Ua τ (R i))->jT (T (k+m)) τ->jT (T k) τ:=by
 intro m
 induction m with
 |zero=>intro k _ _ h;exact h
 |succ m ih=>
  intro k hk hne h
  have hok:ops[k+m]? =some ops[k+m]:=by simp[show k+m<ops.size by omega]
  exact ih k (by omega) (fun i h1 h2=>hne i h1 (by omega)) ((hT.step _ _ hok).eff.back τ (hne _ (by omega) (by omega)) h)
theorem mY.norow(hT:mY P GE bid rw ops n base T R){q i k:Nat}{e:TypeId}(hq:q<=ops.size)(hi:2 * i∈rw):¬jT (T q) (true,(i,k),e):=fun h=>by
 have:=hT.back (τ:=(true,(i,k),e)) q 0 (by omega) (fun j _ h2 hr=>hr.elim (fun hr=>hT.rowl j (by omega) i hi k (by simpa[eh]using hr)) (fun hr=>hT.roww j (by omega) i hi hr.2)) (by rw[vaI];exact h)
 exact hT.row0 i hi k e this
theorem mY.tlog(hD:KC P rw ops n)(hT:mY P GE bid rw ops n base T R){i j:Nat}{τ:Si}(hij:i<j)(hj:j<ops.size)(hi':Ua τ (R i))(hj':Ua τ (R j)):bf ops i j:=by
 have hoi:ops[i]? =some ops[i]:=vaM (by omega)
 have hoj:ops[j]? =some ops[j]:=vaM hj
 by_cases hb:eh τ∈R i/\eh τ∈R j
 ·exact hT.log i j _ hij hb.1 hb.2
 ·have ht:τ.1=true:=by
   rcases hi' with hi'|hi'
   ·rcases hj' with hj'|hj'
    ·exact absurd ⟨hi',hj'⟩ hb
    ·exact hj'.1
   ·exact hi'.1
  obtain⟨a1,a2⟩:=(hT.step i _ hoi).cls ht hi'
  obtain⟨b1,b2⟩:=(hT.step j _ hoj).cls ht hj'
  rcases hD.f5 i j _ _ hoi hoj hij with h|h|h|h
  ·omega
  ·omega
  ·rcases hi' with hi'|hi'
   ·rcases hj' with hj'|hj'
    ·exact absurd ⟨hi',hj'⟩ hb
    ·exact absurd (b2 hj'.2) h.2
   ·exact absurd (a2 hi'.2) h.1
  ·exact h
variable{E:rD}{bs0:bD}{ds:List Deferred}
structure FV(P:Program)(E:rD)(bid:Nat->Option (Nat×aC))(rw:List Nat)(ops:Array Oper)(n base:Nat)(T:Nat->aB)(R:Nat->List Rs)(bs0:bD)(ds:List Deferred)(listed:Array Bool)(a:Act)(w:World):Prop where
 size:listed.size=ops.size
 defers:a.defers=ds
 down:Xn ops listed
 ex:∃Γ bs ow st,SR P E Γ bs ow w a.tmps st/\Up bs0 bs/\st.tmps.length=n/\
  (∀(k:Nat) o d,ops[k]? =some o->o.dst=some d->cZ listed k->st.tmps[d]? =(T ops.size).tmps[d]?)/\
  (∀t,(∀(k:Nat) o,ops[k]? =some o->cZ listed k->o.dst≠some t)->st.tmps[t]? =(T 0).tmps[t]?)/\
  (∃m,m<=ops.size/\(∀(i:Nat) o,ops[i]? =some o->qc P rw o=3->(cZ listed i↔i<m))/\st.boxes.map bh=(T m).boxes.map bh)/\
  (∀(i:Nat) o,ops[i]? =some o->aK o.op=true->¬cZ listed i->bs[DI ops base i]? =some none/\st.boxes[DI ops base i]? =og P o)/\
  (∀(τ:Si) (m:Nat),m<=ops.size->(∀k,k<ops.size->Ua τ (R k)->(cZ listed k↔k<m))->jT (T m) τ->jT st τ)/\
  (∀(k i:Nat) B,k<ops.size->bid k=some (i,B)->¬cZ listed k->bs[i]? =some none/\st.boxes[i]? =some B)
theorem Ry(hD:KC P rw ops n)(hT:mY P E.GE bid rw ops n base T R)(hbase:bs0.length<=base)(hbd:∀(k i:Nat) B,bid k=some (i,B)->bs0.length<=i/\i<base){listed:Array Bool}{a:Act}{w:World}(hI:FV P E bid rw ops n base T R bs0 ds listed a w){j:Nat}(hj:j∈Region.ready .any ops listed)
  (Q:Exit->Act->World->Prop):wpOp P ops Q j (FV P E bid rw ops n base T R bs0 ds (listed.setIfInBounds j true)) a w:=by
 obtain⟨hj0,oj,hoj,hja⟩:=mem_ready.1 hj
 have hjs:j<ops.size:=(vae.1 hoj).1
 have hnl:¬cZ listed j:=by
  unfold cZ
  have:j<listed.size:=by rw[hI.size];exact hjs
  simp[this]at hj0 ⊢
  exact hj0
 have haft:∀e∈oj.after.toList,Region.binds .any e=true->cZ listed e.on:=fun e he hb=>hja e (by simpa using he) hb
 have hbf:∀i,bf ops i j->cZ listed i:=HN hI.down j oj hoj haft
 have hbf':∀(i:Nat) oi,ops[i]? =some oi->bf ops j i->¬cZ listed i:=fun i oi hi hb hli=>hnl (HN hI.down i oi hi (hI.down i oi hi hli) j hb)
 obtain⟨Γ,bs,ow,st,hS,hK,hlen,ht1,ht2,⟨m,hm,hmw,hmb⟩,hun,htk,hub⟩:=hI.ex
 have hop:∀k,k<ops.size->∃o,ops[k]? =some o:=fun k hk=>⟨_,vaM hk⟩
 have hlook:∀t,t∈looks ops oj->st.tmps[t]? =(T j).tmps[t]?:=by
  intro t ht
  by_cases hex:∃i oi,ops[i]? =some oi/\i≠j/\oi.dst=some t
  ·obtain⟨i,oi,hoi,hij,hdi⟩:=hex
   have honly:∀(k:Nat) o,ops[k]? =some o->o.dst=some t->k=i:=fun k o ho hdk=>by
    by_cases hki:k=i
    ·exact hki
    ·exact absurd hdi (hD.f3 k i o oi t ho hoi hki hdk)
   rcases hD.f4 j oj t hoj ht i oi hoi hij hdi with⟨hlt,hb⟩|⟨hlt,hb⟩
   ·rw[ht1 i oi t hoi hdi (hbf i hb)]
    have:=hT.between (t:=t) (ops.size - j) j (by omega) fun k o h1 h2 ho hk=>by have:=honly k o ho hk;omega
    rwa[show j+(ops.size - j)=ops.size from by omega]at this
   ·rw[ht2 t fun k o ho hlk hk=>by have:=honly k o ho hk;subst this;exact hbf' k o ho hb hlk]
    have:=hT.between (t:=t) j 0 (by omega) fun k o h1 h2 ho hk=>by have:=honly k o ho hk;omega
    rw[vaI]at this
    exact this.symm
  ·rw[ht2 t fun k o ho hlk hk=>hex ⟨k,o,ho,fun e=>by subst e;exact hnl hlk,hk⟩]
   have:=hT.between (t:=t) j 0 (by omega) fun k o h1 h2 ho hk=>hex ⟨k,o,ho,by omega,hk⟩
   rw[vaI]at this
   exact this.symm
 have hopv:∀x∈oj.op.operands.toList,opv E.GE (T j).tmps x=opv E.GE st.tmps x:=by
  intro x hx
  cases x with
  |tmp t=>
   have:t∈looks ops oj:=va0 _ (vbP.2 ⟨.tmp t,hx,rfl⟩)
   show(T j).tmps.getD t .undef=st.tmps.getD t .undef
   rw[van,van,hlook t this]
  |const v=>rfl
  |global g=>rfl
  |func f=>rfl
 have hboxes:2<=qc P rw oj->st.boxes.map bh=(T j).boxes.map bh:=by
  intro hc
  rw[hmb]
  refine hT.boxes_eq hm (by omega) fun i o ho hco=>?_
  rw[<-hmw i o ho hco]
  rcases vch i j with hlt|rfl|hlt
  ·rcases hD.f5 i j o oj ho hoj hlt with h|h|h|h
   ·omega
   ·omega
   ·exact absurd hco h.1
   ·exact⟨fun _=>hlt,fun _=>hbf i h⟩
  ·exact⟨fun h=>absurd h hnl,fun h=>absurd h (vbO _)⟩
  ·rcases hD.f5 j i oj o hoj ho hlt with h|h|h|h
   ·omega
   ·omega
   ·exact absurd hco h.2
   ·exact⟨fun hl=>absurd hl (hbf' i o ho h),fun hx=>by omega⟩
 have hjl:j<listed.size:=by rw[hI.size];exact hjs
 have hwr:qc P rw oj=3->∀(i:Nat) o,ops[i]? =some o->qc P rw o=3->(cZ (listed.setIfInBounds j true) i↔i<j+1):=by
  intro hc i o ho hco
  rw[fA hjl]
  rcases vch i j with hlt|rfl|hlt
  ·rcases hD.f5 i j o oj ho hoj hlt with h|h|h|h
   ·omega
   ·omega
   ·exact absurd hco h.1
   ·exact⟨fun _=>by omega,fun _=>.inr (hbf i h)⟩
  ·exact⟨fun _=>by omega,fun _=>.inl rfl⟩
  ·rcases hD.f5 j i oj o hoj ho hlt with h|h|h|h
   ·omega
   ·omega
   ·exact absurd hco h.2
   ·refine⟨fun hl=>?_,fun hx=>by omega⟩
    rcases hl with hl|hl
    ·omega
    ·exact absurd hl (hbf' i o ho h)
 have htok:∀τ,Ua τ (R j)->jT (T j) τ->jT st τ:=fun τ hr=>htk τ j (by omega) fun k hk hkr=>by
  rcases vch k j with hlt|rfl|hlt
  ·exact⟨fun _=>hlt,fun _=>hbf k (hT.tlog hD hlt hjs hkr hr)⟩
  ·exact⟨fun h=>absurd h hnl,fun h=>absurd h (vbO _)⟩
  ·obtain⟨o,ho⟩:=hop k hk
   exact⟨fun hl=>absurd hl (hbf' k o ho (hT.tlog hD hlt hk hr hkr)),fun hx=>by omega⟩
 have hTl:=hT.all j (by omega)
 have fin:∀{Γ':aU} {bs':bD} {ow':Nat->Option lX} {w':World} {a':Act} {st':aB},a'.defers=ds->SR P E Γ' bs' ow' w' a'.tmps st'->Un P bs rw oj st st' (T j) (T (j+1)) (R j)->
   (bs'=bs\/(aK oj.op=true/\∃b,bs'=bs.set (DI ops base j) (some b))\/∃i B x,bid j=some (i,B)/\bs'=bs.set i x)->FV P E bid rw ops n base T R bs0 ds (listed.setIfInBounds j true) a' w':=by
  intro Γ' bs' ow' w' a' st' hda hS' hP hbs'
  refine⟨by simp[hI.size],hda,fun k o ho hk e he hb=>?_,Γ',bs',ow',st',hS',?_,?_,?_,?_,?_,?_,?_,?_⟩
  ·rw[fA hjl]at hk ⊢
   rcases hk with rfl|hk
   ·rw[hoj]at ho;cases ho
    exact .inr (haft e he hb)
   ·exact .inr (hI.down k o ho hk e he hb)
  ·rcases hbs' with rfl|⟨_,b,rfl⟩|⟨i',B,x,hb,rfl⟩
   ·exact hK
   ·intro i hi
    rw[vap (by unfold DI;omega)]
    exact hK i hi
   ·intro i hi
    rw[vap (by have:=(hbd _ _ _ hb).1;omega)]
    exact hK i hi
  ·have:=hP.tm
   split at this
   ·obtain⟨p,h1,_⟩:=this;rw[h1];simp[hlen]
   ·rw[this.1];exact hlen
  ·intro k o dk ho hdk hk
   rw[fA hjl]at hk
   have hPt:=hP.tm
   by_cases hkj:k=j
   ·subst hkj
    rw[hoj]at ho;cases ho
    rw[hdk]at hPt
    obtain⟨p,h1,h2⟩:=hPt
    have:=hT.between (t:=dk) (ops.size - (k+1)) (k+1) (by omega) fun i o h1 h2 ho hk=>hD.f3 k i oj o dk hoj ho (by omega) hdk hk
    rw[show k+1+(ops.size - (k+1))=ops.size from by omega]at this
    have hdn:=hD.f1 k oj dk hoj hdk
    rw[this,h1,h2,vaj (by rw[hlen];exact hdn),vaj (by rw[hTl];exact hdn)]
   ·have hold:=ht1 k o dk ho hdk (hk.resolve_left hkj)
    split at hPt
    ·rename_i d hd
     obtain⟨p,h1,_⟩:=hPt
     have hne:d≠dk:=fun e=>by subst e;exact hD.f3 j k oj o d hoj ho (Ne.symm hkj) hd hdk
     rw[h1,vap hne];exact hold
    ·rw[hPt.1];exact hold
  ·intro t hnt
   have hold:=ht2 t fun k o ho hk=>hnt k o ho ((fA hjl).2 (.inr hk))
   have hPt:=hP.tm
   split at hPt
   ·rename_i d hd
    obtain⟨p,h1,_⟩:=hPt
    have hne:d≠t:=fun e=>by subst e;exact hnt j oj hoj ((fA hjl).2 (.inl rfl)) hd
    rw[h1,vap hne];exact hold
   ·rw[hPt.1];exact hold
  ·by_cases hc:qc P rw oj=3
   ·exact⟨j+1,by omega,hwr hc,hP.b2 hc⟩
   ·refine⟨m,hm,fun i o ho hco=>?_,(hP.b1 hc).trans hmb⟩
    rw[fA hjl,<-hmw i o ho hco]
    constructor
    ·rintro(rfl|hx)
     ·rw[hoj]at ho;cases ho;exact absurd hco hc
     ·exact hx
    ·exact .inr
  ·intro i o ho hmk hni
   have hij:i≠j:=fun e=>by subst e;exact hni ((fA hjl).2 (.inl rfl))
   obtain⟨u1,u2⟩:=hun i o ho hmk fun hx=>hni ((fA hjl).2 (.inr hx))
   refine⟨?_,(hP.un _ u1 fun hx=>by have:=(hT.wl j hjs _ hx).1;unfold DI at this;omega).trans u2⟩
   rcases hbs' with rfl|⟨hmj,b,rfl⟩|⟨i',B,x,hb,rfl⟩
   ·exact u1
   ·have hne:DI ops base j≠DI ops base i:=by
     rcases Nat.lt_or_gt_of_ne hij with hlt|hlt
     ·have:=Su (base:=base) ho hmk hlt;omega
     ·have:=Su (base:=base) hoj hmj hlt;omega
    rw[vap hne];exact u1
   ·rw[vap (by have:=(hbd _ _ _ hb).2;unfold DI;omega)];exact u1
  ·intro τ q hq hqk hh
   by_cases hr:Ua τ (R j)
   ·have hjq:j<q:=(hqk j hjs hr).1 ((fA hjl).2 (.inl rfl))
    refine hP.got τ hr ?_
    have:=hT.back (τ:=τ) (q - (j+1)) (j+1) (by omega) fun i h1 h2 hir=>by
     have hi:i<ops.size:=by omega
     obtain⟨o,ho⟩:=hop i hi
     have hli:=(hqk i hi hir).2 (by omega)
     rcases(fA hjl).1 hli with hx|hx
     ·omega
     ·exact hbf' i o ho (hT.tlog hD (by omega) hi hr hir) hx
    rw[show j+1+(q - (j+1))=q from by omega]at this
    exact this hh
   ·refine hP.keep τ hr (fun h1 h2=>?_) (htk τ q hq (fun k hk hkr=>?_) hh)
    ·obtain⟨b,⟨t,k⟩,e⟩:=τ
     simp only at h1 h2
     subst h1
     exact hT.norow hq h2 hh
    rw[<-hqk k hk hkr,fA hjl]
    constructor
    ·exact .inr
    ·rintro(rfl|hx)
     ·exact absurd hkr hr
     ·exact hx
  ·intro k i B hk hb hnk
   have hkj:k≠j:=fun e=>by subst e;exact hnk ((fA hjl).2 (.inl rfl))
   obtain⟨u1,u2⟩:=hub k i B hk hb fun hx=>hnk ((fA hjl).2 (.inr hx))
   refine⟨?_,(hP.un _ u1 fun hx=>(hT.wl j hjs _ hx).2 k B hb).trans u2⟩
   rcases hbs' with rfl|⟨_,b,rfl⟩|⟨i',B',x,hb',rfl⟩
   ·exact u1
   ·rw[vap (by have:=(hbd _ _ _ hb).2;unfold DI;omega)];exact u1
   ·rw[vap (fun e=>by subst e;exact hkj (hT.binj _ _ _ _ _ hb hb'))];exact u1
 have hbi:∀i B,bid j=some (i,B)->bs[i]? =some none/\st.boxes[i]? =some B:=fun i B hb=>hub j i B hjs hb hnl
 have hid:aK oj.op=true->bs[DI ops base j]? =some none/\st.boxes[DI ops base j]? =og P oj:=fun hmk=>hun j oj hoj hmk hnl
 have hdd:∀d,oj.dst=some d->d<st.tmps.length:=fun d hd=>by rw[hlen];exact hD.f1 j oj d hoj hd
 have run:pM P E.GE (bid j) rw oj (DI ops base j) (T j) (T (j+1)) (R j)->oj.wp P a w (FV P E bid rw ops n base T R bs0 ds (listed.setIfInBounds j true)) Q:=by
  intro hs
  refine Oper.wp_mono (fun a' w' hA=>?_) (hs.sound hS hid hbi hopv hboxes htok hdd Q)
  obtain⟨hda,Γ',bs',ow',st',hS',hP,hb⟩:=hA
  exact fin (hda.trans hI.defers) hS' hP hb
 have skip:T (j+1)=yO (T j) oj.dst (.val undef) [] (T j).boxes->R j=AG oj->FV P E bid rw ops n base T R bs0 ds (listed.setIfInBounds j true) (a.put oj.dst undef) w:=by
  intro hT1 hR1
  refine fin ((bu _ _ _).trans hI.defers) (hS.putv_nil (.val undef) oj.dst rfl) ?_ (.inl rfl)
  rw[hT1,hR1]
  cases hd:oj.dst with
  |none=>exact⟨by rw[hd];exact⟨rfl,rfl⟩,fun _=>rfl,fun hc=>hboxes (by omega),fun τ _ _ h=>h,fun τ hr=>by have:=(Mh (o:=oj) rfl hr).1;simp[hd]at this,fun _ _ _=>rfl⟩
  |some d=>
   refine⟨by rw[hd];exact⟨_,rfl,rfl⟩,fun _=>rfl,fun hc=>hboxes (by omega),fun τ hr _ hh=>I7 (st:=st) (tm:=st.tmps.set d (.val undef)) (R:=fun _=>True) (rs:=AG oj) (d:=d) (L:=[]) (by simp[AG,hd]) τ (fun hx=>hr (.inl hx)) trivial hh,?_,fun _ _ _=>rfl⟩
   intro τ hr hh
   exact Qc (L:=[]) τ (by simpa[AG,hd]using(Mh (o:=oj) rfl hr).1) hh
 have hstep:=hT.step j oj hoj
 unfold wpOp
 rw[hoj]
 simp only
 unfold xr at hstep
 have hgo:(Region.wanted oj (yielded ops a.tmps)=true->oj.wp P a w (FV P E bid rw ops n base T R bs0 ds (listed.setIfInBounds j true)) Q)/\
   (¬Region.wanted oj (yielded ops a.tmps)=true->FV P E bid rw ops n base T R bs0 ds (listed.setIfInBounds j true) (a.put oj.dst undef) w):=by
  split at hstep
  ·rename_i hg
   exact⟨fun _=>run hstep,fun hn=>absurd (by simp[Region.wanted,hg]) hn⟩
  ·rename_i jg want hg
   obtain⟨x,hx,h1,h2⟩:=hstep
   have hx':wL ops st.tmps jg=some x:=by
    rw[<-hx]
    unfold wL
    cases hdg:(ops[jg]?).bind (·.dst)with
    |none=>rfl
    |some t=>
     have:t∈looks ops oj:=vaV _ (by rw[hg];simp[hdg])
     simp only[hlook t this]
   have hw:Region.wanted oj (yielded ops a.tmps)=(x==some want):=by simp[Region.wanted,hg,Jd hS hx']
   rw[hw]
   refine⟨fun hy=>run (h1 (by simpa using hy)),fun hy=>?_⟩
   obtain⟨k1,k2⟩:=h2 (by simpa using hy)
   exact skip k1 k2
 by_cases hw:Region.wanted oj (yielded ops a.tmps)=true
 ·rw[vax hw];exact .inl (hgo.1 hw)
 ·rw[vaz hw];exact hgo.2 hw
theorem R6(hD:KC P rw ops n){listed:Array Bool}(hs:listed.size=ops.size)(hr:Region.ready .any ops listed=[]):∀j,j<ops.size->cZ listed j:=by
 intro j
 induction j using Nat.strongRecOn with
 | _ j ih =>
  intro hj
  by_cases hl:cZ listed j
  ·exact hl
  ·exfalso
   have hoj:ops[j]? =some ops[j]:=by simp[hj]
   have:j∈Region.ready .any ops listed:=mem_ready.2 ⟨by
    unfold cZ at hl
    have:j<listed.size:=by omega
    simp[this]at hl ⊢;exact hl,_,hoj,fun e he hb=>by
    have hlt:=hD.f2 j _ hoj e (by simpa using he) hb
    exact ih e.on hlt (by omega)⟩
   rw[hr]at this;cases this
theorem SR.rights{Γ:aU}{bs:bD}{ow:Nat->Option lX}{w:World}{a:Array Value}{st st2:aB}(h:SR P E Γ bs ow w a st)(h1:st2.tmps=st.tmps)(h2:st2.boxes.map bh=st.boxes.map bh)(h3:∀τ,jT st2 τ->jT st τ):SR P E Γ bs ow w a st2:=
 { h with
  sz:=by rw[h1];exact h.sz
  tm:=by rw[h1];exact h.tm
  bl:=by have:=va6 List.length h2;simp at this;rw[h.bl,this]
  bx:=fun i b B hb hB=>by
   have hg:=P9 h2 i
   rw[hB]at hg
   cases hB1:st.boxes[i]? with
   |none=>rw[hB1]at hg;cases hg
   | some B1 =>
    rw[hB1]at hg
    obtain⟨k1,k2,k3⟩:=h.bx i b B1 hb hB1
    refine⟨k1,k2,?_⟩
    cases B<;>cases B1<;>simp[bh]at hg
    ·subst hg;exact k3
    ·subst hg;exact k3
    ·trivial
  ot:=fun t k e he=>h.ot t k e (h3 (false,(t,k),e) he)
  ob:=fun i j e cs own b hB hj hb=>by
   obtain⟨cs',own',e1,e2⟩:=fa.1 (h3 (true,(i,j),e) ⟨cs,own,hB,hj⟩)
   exact h.ob i j e cs' own' b e1 e2 hb}
theorem Te(hD:KC P rw ops n)(hT:mY P E.GE bid rw ops n base T R)(hbase:bs0.length<=base)(hbd:∀(k i:Nat) B,bid k=some (i,B)->bs0.length<=i/\i<base){Q:Exit->Act->World->Prop}
  (hQ:∀a w,a.defers=ds->Oo P E bs0 (T ops.size) a w->Q .normal a w):∀(fuel:Nat) (listed:Array Bool) (a:Act) (w:World),FV P E bid rw ops n base T R bs0 ds listed a w->zM ops.size listed<=fuel->wpAny P .any ops Q fuel listed a w:=by
 have hend:∀(listed:Array Bool) (a:Act) (w:World),FV P E bid rw ops n base T R bs0 ds listed a w->(∀j,j<ops.size->cZ listed j)->Q .normal a w:=by
  intro listed a w hI hall
  obtain⟨Γ,bs,ow,st,hS,hK,hlen,ht1,ht2,⟨m,hm,hmw,hmb⟩,_,htk,_⟩:=hI.ex
  have e1:st.tmps=(T ops.size).tmps:=by
   apply va2
   intro t
   by_cases hex:∃(k:Nat) (o:Oper),ops[k]? =some o/\o.dst=some t
   ·obtain⟨k,o,ho,hd⟩:=hex
    exact ht1 k o t ho hd (hall k (vae.1 ho).1)
   ·rw[ht2 t fun k o ho _ hd=>hex ⟨k,o,ho,hd⟩]
    have:=hT.between (t:=t) ops.size 0 (by omega) fun k o _ _ ho hd=>hex ⟨k,o,ho,hd⟩
    rw[vaI]at this
    exact this.symm
  have e2:st.boxes.map bh=(T ops.size).boxes.map bh:=by
   rw[hmb]
   refine hT.boxes_eq hm (vam _) fun i o ho hco=>?_
   rw[<-hmw i o ho hco]
   have hi:=(vae.1 ho).1
   exact⟨fun _=>hi,fun _=>hall i hi⟩
  exact hQ a w hI.defers ⟨Γ,bs,ow,hS.rights e1.symm e2.symm fun τ hh=>htk τ ops.size (vam _) (fun k hk _=>⟨fun _=>hk,fun _=>hall k hk⟩) hh,hK⟩
 intro fuel
 induction fuel with
 | zero =>
  intro listed a w hI hu
  have hall:∀j,j<ops.size->cZ listed j:=by
   intro j hj
   by_cases hl:cZ listed j
   ·exact hl
   ·exfalso
    have:j∈(List.range ops.size).filter fun i=>!listed.getD i false:=by
     rw[vaJ,vbu]
     exact⟨hj,by unfold cZ at hl;simpa using hl⟩
    have:=List.length_pos_of_mem this
    unfold zM at hu
    omega
  refine⟨?_,hend listed a w hI hall⟩
  rw[vbq]
  intro j hj
  obtain⟨h0,o,ho,_⟩:=mem_ready.1 hj
  have hlt:=(vae.1 ho).1
  have:=hall j hlt
  unfold cZ at this
  have hls:j<listed.size:=by rw[hI.size];exact hlt
  simp[hls]at this h0
  rw[this]at h0;cases h0
 | succ fuel ih =>
  intro listed a w hI hu
  refine⟨fun hr=>hend listed a w hI (R6 hD hI.size hr),fun j hj=>?_⟩
  refine wpOp_mono (fun a' w' hI'=>ih _ a' w' hI' ?_) (Ry hD hT hbase hbd hI hj Q)
  obtain⟨h0,o,ho,_⟩:=mem_ready.1 hj
  have hlt:=(vae.1 ho).1
  have hls:j<listed.size:=by rw[hI.size];exact hlt
  have:zM ops.size (listed.setIfInBounds j true)<zM ops.size listed:=by
   unfold zM
   refine P7 (fun i hi=>?_) (vbu.2 hlt) ?_ ?_
   ·have hnl:¬cZ (listed.setIfInBounds j true) i:=by unfold cZ;simpa using hi
    have:¬cZ listed i:=fun hx=>hnl ((fA hls).2 (.inr hx))
    unfold cZ at this;simpa using this
   ·simp[hls]at h0;simp[hls,h0]
   ·simp[hls]
  omega
end
def Nq(br:List (Nat×Nat))(H:List aC)(k:Nat):Option (Nat×aC):=match br.find? (fun x=>x.1==k)with
 |some x=>(H[x.2]?).map fun B=>(x.2,B)
 |none=>none
def XU(rw:List Nat)(br:List (Nat×Nat))(lo n:Nat):Bool:=(br.all (fun x=>decide (lo<=x.2)&&decide (x.2<lo+n))&&br.all fun x=>br.all fun y=>x.2 !=y.2||x.1==y.1)&&rw.all fun x=>x % 8 !=3||decide (x / 8<lo)
def Xd(rw:List Nat)(H:List aC):Bool:=rw.all fun x=>x % 2 !=0||match H[x / 2]? with
 |some (.cells _ [])=>true
 |_=>false
def O7(rw:List Nat)(lg:List (List Rs)):Bool:=lg.all fun l=>l.all fun r=>!(r.1&&rw.contains (2 * r.2.1))&&(r.2.2 !=1||r.1||(!rw.contains (2 * r.2.1)&&rw.contains (8 * r.2.1+3)))
theorem yW{br:List (Nat×Nat)}{H:List aC}{k i:Nat}{B:aC}(h:Nq br H k=some (i,B)):(k,i)∈br/\H[i]? =some B:=by
 unfold Nq at h
 split at h
 ·rename_i x hx
  obtain⟨B',h1,h2⟩:=ff h
  cases h2
  have h3:=vbJ hx
  simp only[vaZ]at h3
  subst h3
  exact⟨vbb hx,h1⟩
 ·cases h
def Pk(P:Program)(GE:List (Nat×List PVal))(ops:Array Oper)(an:List Nat)(X:List aC)(br:List (Nat×Nat))(rw:List Nat)(K:aB->Prop)(st:aB):Prop:=
 drawD P rw ops.toList st.tmps.length an=true/\(XU rw br st.boxes.length X.length&&Xd rw (st.boxes++X))=true/\
  my P GE (Nq br (st.boxes++X)) rw ops (fun lg st'=>(Ty an lg&&O7 rw lg)=true/\K st') ops.toList (st.boxes.length+X.length) [] {st with boxes:=st.boxes++X++gb P ops.toList}
section
variable{P:Program}{E:rD}{w:World}{a:Act}{st:aB}
theorem Gj{bs0:bD}{ops:Array Oper}{an:List Nat}{X:List aC}{br:List (Nat×Nat)}{rw:List Nat}{K:aB->Prop}{Q:Exit->Act->World->Prop}(hR:Oo P E bs0 st a w)(hl:bs0.length<=st.boxes.length)
  (hQ:∀a' w' st',a'.defers=a.defers->Oo P E bs0 st' a' w'->K st'->Q .normal a' w') (hp:Pk P E.GE ops an X br rw K st):wpAny P .any ops Q ops.size (Array.replicate ops.size false) a {w with drawn:=w.drawn+1}:=by
 obtain⟨hok,hbr,hp⟩:=hp
 rw[vad]at hbr
 obtain⟨hbr,hrow⟩:=hbr
 obtain⟨hD,han⟩:=Lk hok
 obtain⟨T,R,t0,tl,⟨tlog,t1⟩,t2⟩:=Ei ops.toList _ _ _ hp
 rw[vaL,vad]at tlog
 obtain⟨tlog,tlr⟩:=tlog
 obtain⟨Γ,bs,ow,h,hk⟩:=hR
 have hxl:(st.boxes++X).length=st.boxes.length+X.length:=by simp
 unfold XU at hbr
 simp only[vad,vau,vai,va4,bne_iff_ne,ne_eq,vaZ]at hbr
 obtain⟨hbr,hhd⟩:=hbr
 have hlg:∀j,j<ops.size->∀r∈R.getD j [],(!(r.1&&rw.contains (2 * r.2.1))&&(r.2.2 !=1||r.1||(!rw.contains (2 * r.2.1)&&rw.contains (8 * r.2.1+3))))=true:=fun j hj r hr=>by
  have hjl:j<R.length:=by rw[tl];simpa using hj
  have hm:R.getD j []∈R:=by
   rw[van,vaa hjl];exact vaN hjl
  exact vau.1 (vau.1 tlr _ hm) _ hr
 have hT:mY P E.GE (Nq br (st.boxes++X)) rw ops st.tmps.length (st.boxes.length+X.length) T (fun k=>R.getD k []):={
  len:=by rw[t0]
  step:=fun k o ho=>by have:=t2 k o (by simpa using ho);simpa using this
  log:=fun i j r hij hi hj=>by unfold bf;rw[han];exact Tz tlog hij hi hj
  row0:=fun i hi k e hh=>by
   rw[t0]at hh
   obtain⟨cs,own,e1,e2⟩:=fa.1 hh
   have hri:=vau.1 hrow _ hi
   rw[va4,show 2 * i / 2=i by omega]at hri
   rcases hri with hri|hri
   ·rw[show 2 * i % 2=0 by omega]at hri;cases hri
   split at hri
   ·rename_i cs' heq
    simp only at e1
    rw[vac (aq heq),heq]at e1
    cases e1;cases e2
   ·cases hri
  rowl:=fun j hj i hi k hr=>by
   have:=hlg j hj _ hr
   simp[hi]at this
  roww:=fun j hj i hi hr=>by
   have:=hlg j hj _ hr
   simp[hi]at this
  wl:=fun j hj i hr=>by
   have:=hlg j hj _ hr
   simp only[bne_self_eq_false,Bool.false_or,vad,vaT]at this
   have h4:=hhd _ (vcv.1 this.2.2)
   have h5:i<st.boxes.length:=by omega
   refine⟨by omega,fun k B hb=>?_⟩
   have:=hbr.1 _ (yW hb).1
   simp only at this
   omega
  binj:=fun j k i B B' h1 h2=>by
   have m1:=(yW h1).1
   have m2:=(yW h2).1
   rcases hbr.2 _ m1 _ m2 with hx|hx
   ·exact absurd rfl hx
   ·exact hx}
 have hbd:∀(k i:Nat) B,Nq br (st.boxes++X) k=some (i,B)->bs0.length<=i/\i<st.boxes.length+X.length:=fun k i B hb=>by
  have:=hbr.1 _ (yW hb).1
  simp only at this
  omega
 have hS0:=(h.drew).extend X
 have hS:=hS0.extend (gb P ops.toList)
 refine Te hD hT (by omega) hbd (ds:=a.defers) (fun a' w' hd hR'=>hQ a' w' _ hd hR' (by simpa using t1)) ops.size _ a _ ?_ ?_
 ·refine⟨by simp,rfl,fun j o ho hj=>?_,Γ,_,ow,_,hS,fun i hi=>?_,rfl,fun k o d ho hd hk'=>?_,fun t _=>by rw[t0],⟨0,va1 _,fun i o ho hc=>?_,by rw[t0]⟩,fun i o ho hm _=>?_,fun τ m hm hmk hh=>?_,fun k i B _ hb _=>?_⟩
  ·unfold cZ at hj
   rw[tL]at hj;cases hj
  ·rw[vac (by rw[vav,h.bl];omega),vac (by rw[h.bl];omega)];exact hk i hi
  ·unfold cZ at hk'
   rw[tL]at hk';cases hk'
  ·unfold cZ
   rw[tL]
   constructor
   ·intro hx;cases hx
   ·intro hx;exact absurd hx (vaK _)
  ·have hl':ops.toList[i]? =some o:=by simpa using ho
   have hget:=GS (P:=P) ops.toList i o hl' hm
   have hlt:cf (ops.toList.take i)<(gb P ops.toList).length:=by
    have:∃B,og P o=some B:=by cases hx:o.op<;>simp[aK,hx]at hm<;>exact⟨_,by simp[og,hx];rfl⟩
    obtain⟨B,hB⟩:=this
    rw[hB]at hget
    exact aq hget
   have hbl2:(bs++List.replicate X.length none).length=st.boxes.length+X.length:=by simp[h.bl]
   unfold DI
   refine⟨?_,?_⟩
   ·rw[vaf (by rw[hbl2];omega),vaW,vax (by rw[hbl2];omega)]
   ·show(st.boxes++X++gb P ops.toList)[_]? =_
    rw[vaf (by omega),hxl,vbt]
    exact hget
  ·have:=hT.back (τ:=τ) m 0 (by omega) fun i h1 h2 hir=>by
    have:=(hmk i (by omega) hir).2 (by omega)
    unfold cZ at this
    rw[tL]at this;cases this
   rw[vaI,t0]at this
   exact this hh
  ·obtain⟨m1,m2⟩:=yW hb
   have:=hbr.1 _ m1
   simp only at this
   have hbl2:(bs++List.replicate X.length none).length=st.boxes.length+X.length:=by simp[h.bl]
   refine⟨?_,?_⟩
   ·rw[vac (by omega),vaf (by rw[h.bl];omega),vaW,vax (by rw[h.bl];omega)]
   ·show(st.boxes++X++gb P ops.toList)[_]? =_
    rw[vac (by omega)];exact m2
 ·unfold zM
  have:=vby (fun i=>!(Array.replicate ops.size false).getD i false) (List.range ops.size)
  simpa using this
end
def Vs(P:Program)(op:Op):Bool:=!NK op&&!aK op&&ce P op !=3
def tK(P:Program)(GE:List (Nat×List PVal))(o:Oper)(sc:List It)(st:aB)(K:List It->List Rs->aB->Prop):Prop:=
 match o.dst with
 |some d=>match Vs P o.op with
  |true=>Sp P GE o.op st.tmps st.boxes sc fun p _ sc'=>gW st.tmps d p fun tm=>bI (bT d st.own) fun ow=>K sc' [(false,d,0)] ⟨tm,st.boxes,ow⟩
  |false=>False
 |none=>False
def qx(st:aB)(d:Nat)(p:PVal)(L:List (Nat×TypeId))(sc:List It)(K:List It->List Rs->aB->Prop):Prop:=
 gW st.tmps d p fun tm=>bI ((L.map fun x=>((d,x.1),x.2))++bT d st.own) fun ow=>K sc [(false,d,0)] ⟨tm,st.boxes,ow⟩
def Ek (P:Program) (GE:List (Nat×List PVal)) (T:TypeId) (x:Operand) (vt:PVal) (vs:List PVal) (own:Option (Nat×List (Nat×TypeId))) (sc:List It) (st:aB) (K:List It→List Rs→aB→Prop):Prop :=
 pQ GE st.tmps x fun vx=>match vx with
 | .bptr i off => ct vt = some vs∧mz st.boxes i fun B => match B with
  | .cells cs ow => match decide (vs.length = P.cellsOf T) && (P.info? T).isSome && decide (off + vs.length ≤ cs.length) && vs.all PVal.one with
   | true => bI (cs.take off ++ vs ++ cs.drop (off + vs.length)) fun cs' => bI (yb i off vs.length) fun rg => match own with
    |none=>bI (ow.filter fun y=>y.1<off||off+vs.length<=y.1) fun ow'=>gW st.boxes i (.cells cs' ow') fun H=>K sc rg ⟨st.tmps,H,st.own⟩
    |some (t,L)=>match ug (L.map (·.1))&&L.all (fun y=>decide (y.1<vs.length))with
     | true => bI ((L.map fun y => (off + y.1,y.2)).reverse ++ ow.filter fun y => y.1 < off || off + vs.length ≤ y.1) fun ow' => gW st.boxes i (.cells cs' ow') fun H =>
       bI (st.own.filter fun x=>!L.any fun y=>x.1==(t,y.1)) fun so=>K sc ((false,t,0)::rg) ⟨st.tmps,H,so⟩
     |false=>False
   |false=>False
  |_=>False
 |_=>False
def Zo(L:List (Nat×TypeId)):Bool:=match L with
 |[(0,_)]=>true
 |_=>false
def So(P:Program)(GE:List (Nat×List PVal))(rw:List Nat)(T:TypeId)(x:Operand)(vt:PVal)(cs':List PVal)(sc:List It)(st:aB)(K:List It->List Rs->aB->Prop):Prop:=
 pQ GE st.tmps x fun vx=>match vx with
 | .bptr i off => match rw.contains (2 * i) with
  |true=>mz st.boxes i fun B=>match B with
   |.cells cs []=>fo P T (.bptr 0 off) vt [.cells cs []]=some [.cells cs' []]/\gW st.boxes i (.cells cs' []) fun H=>K sc [] ⟨st.tmps,H,st.own⟩
   |_=>False
  |false=>False
 |_=>False
def Dq (P:Program) (GE:List (Nat×List PVal)) (A:List Nat) (bi:Option (Nat×aC)) (rw:List Nat) (o:Oper) (id:Nat) (sc:List It) (st:aB) (K:List It→List Rs→aB→Prop):Prop :=
 match o.op,o.dst with
 | .call { callee := .value f,args,.. },some d => match sc with
  |.c r ro::sc'=>pQ GE st.tmps f fun vf=>match vf with
   |.func (.func g) first cap=>LU GE st.tmps args.toList fun as=>CC P GE g (first++as++cap) r ro/\qx st d r ro sc' K
   |_=>False
  | .cg c :: sc' => match c.ρ with
   | [] => nx P GE f args.toList c st fun _ => gW st.tmps d c.r fun tm => bI ((c.ro.map fun x => ((d,x.1),x.2)) ++ bT d (st.own.filter fun z => !c.oa.any fun x => z.1 == (x.t,x.k))) fun ow =>
     bI ((false,d,0)::c.oa.map fun x=>(false,x.t,0)) fun rs=>K sc' rs ⟨tm,st.boxes,ow⟩
   |_=>False
  | .ar i e n _ :: sc' => match bi,args with
   |some (j,.cells cs0 []),⟨[x]⟩=>pQ GE st.tmps f fun vf=>pQ GE st.tmps x fun vx=>match vf,vx,i==j with
    | .func (.func g) [] [],.slice ns,true => tZ P g e∧(0 < P.cellsOf e∧(∀ x ∈ ns,x.length = P.cellsOf e∧∀ q ∈ x,q.one = true)∧ns.length ≤ dw)∧(n = ns.length∧cs0 = ns.flatten) ∧
      gW st.tmps d (.bsl i 0 n) fun tm=>bI (bT d st.own) fun ow=>K sc' [(false,d,0)] ⟨tm,st.boxes,ow⟩
    |_,_,_=>False
   |_,_=>False
  |_=>False
 |.alloc t,some d=>match(fM P t).isSome with
  |true=>qx st d (.bptr id 0) [] sc K
  |false=>False
 |.makeMap _ none,some d=>qx st d (.mapr id) [] sc K
 |.buildSlice T len parts,some d=>yN GE st.tmps parts.toList fun ps=>match sc,P.underlying T with
  |.v p::sc',some (.slice e)=>gV P T len ps=some p/\qx st d p [(0,e)] sc' K
  |_,_=>False
 | .build T parts,some d => match sc with
  |.b p L::sc'=>yN GE st.tmps parts.toList fun ps=>dG P T ps=some p/\Fp P T ps L/\qx st d p L sc' K
  | .ar t k _ _ :: .v p :: sc' => match decide (d ≠ t) && (parts.toList.any fun x => Fb t x.2) with
   |true=>yJ st.tmps t fun vt=>match vt with
    | .slice _ => yN GE st.tmps parts.toList fun ps => dG P T ps = some p∧qbn P T (QQ GE st.tmps parts.toList t) k ∧
      gW st.tmps d p fun tm=>bI (kG d (fun x=>if x=(t,0)then(d,k)else x) st.own) fun ow=>K sc' [(false,d,0),(false,t,0)] ⟨tm,st.boxes,ow⟩
    |_=>False
   |false=>False
  |_=>tK P GE o sc st K
 |.assign (.const v),some d=>match vD P o.type v with
  |some e=>qx st d (.slice []) [(0,e)] sc K
  |none=>tK P GE o sc st K
 |.move (.const v),some d=>match vD P o.type v with
  |some e=>qx st d (.slice []) [(0,e)] sc K
  |none=>tK P GE o sc st K
 |.assign (.tmp t),some d=>match decide (d≠t)with
  |true=>yJ st.tmps t fun p=>gW st.tmps d p fun tm=>bI (kG d (fun x=>if x.1=t then(d,x.2)else x) st.own) fun ow=>K sc [(false,d,0),(false,t,0)] ⟨tm,st.boxes,ow⟩
  |false=>False
 |.move (.tmp t),some d=>match decide (d∈A)&&decide (d≠t)with
  |true=>yJ st.tmps t fun p=>gW st.tmps d p fun tm=>bI (kG d (fun x=>if x.1=t then(d,x.2)else x) st.own) fun ow=>K sc [(false,d,0),(false,t,0)] ⟨tm,st.boxes,ow⟩
  |false=>tK P GE o sc st K
 | .call { callee := .builtin .append,args:=⟨[.tmp t,y]⟩,argTypes:=⟨[T,T']⟩ },some d => yJ st.tmps t fun ve => pQ GE st.tmps y fun vn => match ve,vn,sc,P.underlying T with
  |.slice es,.slice ns,.v p::sc',some (.slice e)=>match decide (T=T')&&decide (((t,0),e)∈st.own)with
   |true=>nD P T es ns=some p/\gW st.tmps d p fun tm=>bI (((d,0),e)::bT d (st.own.filter fun x=>x.1 !=(t,0))) fun ow=>K sc' [(false,d,0),(false,t,0)] ⟨tm,st.boxes,ow⟩
   |false=>False
  |_,_,_,_=>False
 | .load T x,some d => match sc,P.underlying T,decide (d ∈ A) with
  | .z l :: sc',some (.struct _),_ => pQ GE st.tmps x fun vx => match vx with
   | .bptr i off => mz st.boxes i fun B => match B with
    | .cells cs own => bo P T (cs.drop off) = some (.agg l)∧bI (SF off (P.cellsOf T) own) fun L => match ug (L.map (·.1)) with
     | true => gW st.tmps d (.agg l) fun tm => bI (own.filter fun x => !L.any fun y => x.1 == off + y.1) fun own' => gW st.boxes i (.cells cs own') fun H =>
       bI ((L.map fun y=>((d,y.1),y.2)).reverse++bT d st.own) fun ow=>bI ((false,d,0)::L.map fun y=>(true,i,off+y.1)) fun rs=>K sc' rs ⟨tm,H,ow⟩
     |false=>False
    |_=>False
   |_=>False
  | _,some (.slice e),true => pQ GE st.tmps x fun vx => match vx with
   | .bptr i off => mz st.boxes i fun B => match B with
    | .cells cs own => match decide ((off,e) ∈ own) && decide (off < cs.length) with
     | true => yJ cs off fun p => gW st.tmps d p fun tm => bI (own.filter fun x => !([((0:Nat),e)].any fun y => x.1 == off + y.1)) fun own' => gW st.boxes i (.cells cs own') fun H =>
       bI (([((0:Nat),e)].map fun y=>((d,y.1),y.2)).reverse++bT d st.own) fun ow=>bI ((false,d,0)::[((0:Nat),e)].map fun y=>(true,i,off+y.1)) fun rs=>K sc rs ⟨tm,H,ow⟩
     |false=>False
    |_=>False
   |_=>False
  |_,_,_=>tK P GE o sc st K
 | .store T x (.tmp t),none => yJ st.tmps t fun vt => match sc with
  |.y vs::sc'=>bI (NS t st.own) fun L=>match vt with
   |.agg l=>Ek P GE T x (.agg l) vs (some (t,L)) sc' st K
   |_=>False
  | .s :: sc' => match vt.one with
   |true=>bI (NS t st.own) fun L=>match Zo L with
    |true=>Ek P GE T x vt [vt] (some (t,L)) sc' st K
    |false=>Ek P GE T x vt [vt] none sc' st K
   |false=>False
  |.x vs::sc'=>Ek P GE T x vt vs none sc' st K
  |.w _ (.cells cs' [])::sc'=>So P GE rw T x vt cs' sc' st K
  |_=>False
 | .store T x y,none => pQ GE st.tmps y fun vt => match sc with
  |.s::sc'=>match vt.one with
   |true=>Ek P GE T x vt [vt] none sc' st K
   |false=>False
  |.x vs::sc'=>Ek P GE T x vt vs none sc' st K
  |.w _ (.cells cs' [])::sc'=>So P GE rw T x vt cs' sc' st K
  |_=>False
 | .mapUpdate t m k x,none => pQ GE st.tmps m fun vm => pQ GE st.tmps k fun vk => pQ GE st.tmps x fun vx => match vm,sc with
  |.mapr i,.w _ (.map es')::sc'=>mz st.boxes i fun B=>match B with
   |.map es=>NZ P t es vk vx=some es'/\gW st.boxes i (.map es') fun H=>K sc' [] ⟨st.tmps,H,st.own⟩
   |_=>False
  |_,_=>False
 |_,_=>tK P GE o sc st K
def Kp(P:Program)(GE:List (Nat×List PVal))(A:List Nat)(bi:Option (Nat×aC))(rw:List Nat)(o:Oper)(id:Nat)(sc:List It)(st:aB)(K:List It->List Rs->aB->Prop):Prop:=
 match o.op,o.dst,sc with
 | .call { callee := .value f,args,.. },some d,.cg c :: sc' => match c.ρ with
  |[]=>Dq P GE A bi rw o id sc st K
  |_::_=>match rw.contains (8 * d+1)with
   | true => nx P GE f args.toList c st fun H => gW st.tmps d c.r fun tm => bI ((c.ro.map fun x => ((d,x.1),x.2)) ++ bT d (st.own.filter fun z => !c.oa.any fun x => z.1 == (x.t,x.k))) fun ow =>
     bI (((false,d,0)::c.oa.map fun x=>(false,x.t,0))++c.ρ.map fun i=>(false,i,1)) fun rs=>K sc' rs ⟨tm,H,ow⟩
   |false=>False
 | .load T x,some d,.v p :: sc' => match rw.contains (8 * d + 5) with
  |true=>pQ GE st.tmps x fun vx=>match vx with
   |.eptr cs=>bo P T cs=some p/\gW st.tmps d p fun tm=>bI (bT d st.own) fun ow=>K sc' [(false,d,0)] ⟨tm,st.boxes,ow⟩
   |_=>False
  |false=>Dq P GE A bi rw o id sc st K
 |_,_,_=>match M3 rw o with
  |true=>False
  |false=>Dq P GE A bi rw o id sc st K
def E7(P:Program)(GE:List (Nat×List PVal))(bid:Nat->Option (Nat×aC))(rw:List Nat)(A:List Nat)(ops:Array Oper)(an:List Nat)(K:List It->aB->Prop):List Oper->Nat->Nat->List It->List (List Rs)->aB->Prop
 |[],_,_,sc,lg,st=>match Ty an lg&&O7 rw lg with
  |true=>K sc st
  |false=>False
 | o :: rest,pos,id,sc,lg,st =>
  let step (sc:List It) (st:aB):Prop:=Kp P GE A (bid lg.length) rw o id sc st fun sc' rs st'=>bI (lg++[rs]) fun lg'=>E7 P GE bid rw A ops an K rest (pos+1) (id+if aK o.op then 1 else 0) sc' lg' st'
  match o.guard with
  |none=>step sc st
  |some (j,want)=>Ko ops j want pos sc st fun b sc' st'=>match b with
   |true=>step sc' st'
   |false=>Nh st' o.dst (.val undef) [] st'.boxes fun st''=>bI (lg++[AG o]) fun lg'=>E7 P GE bid rw A ops an K rest (pos+1) (id+if aK o.op then 1 else 0) sc' lg' st''
section
variable{P:Program}{GE:List (Nat×List PVal)}{A:List Nat}{ops:Array Oper}
theorem ky{bi:Option (Nat×aC)}{rw:List Nat}{o:Oper}{id:Nat}{sc:List It}{st:aB}{K:List It->List Rs->aB->Prop}(h:tK P GE o sc st K):∃s' rs,jR P GE bi rw o id st s' rs/\∃sc',K sc' rs s':=by
 unfold tK at h
 split at h
 ·rename_i d hd
  split at h
  ·rename_i hp
   unfold Vs at hp
   simp only[vad,vaT,bne_iff_ne,ne_eq]at hp
   obtain⟨⟨p1,p2⟩,p3⟩:=hp
   obtain⟨p,H',sc',k1,k2,_⟩:=I3 (id:=id) h
   simp only[bL,aP]at k2
   have:=TN p3 p2 k1
   subst this
   exact⟨_,_,.ev d p hd p1 p2 p3 k1,sc',k2⟩
  ·exact h.elim
 ·exact h.elim
theorem xQ{bi:Option (Nat×aC)}{rw:List Nat}{o:Oper}{id:Nat}{T:TypeId}{x y:Operand}{vs:List PVal}{sc:List It}{st:aB}{K:List It->List Rs->aB->Prop}(ho:o.op=.store T x y)(hd:o.dst=none)(h:Ek P GE T x (opv GE st.tmps y) vs none sc st K):∃s' rs,jR P GE bi rw o id st s' rs/\∃sc',K sc' rs s':=by
 unfold Ek at h
 rw[b7]at h
 split at h
 ·rename_i i off hx
  obtain⟨hvs,h⟩:=h
  obtain⟨B,hB,h⟩:=eO h
  split at h
  ·rename_i cs own
   split at h
   ·rename_i hc
    simp only[aP,bL]at h
    simp only[vad,vai]at hc
    exact⟨_,_,.st T x y i off vs cs own hd ho hx hvs hB (by simp only[fo,hvs,hB];rw[vax ⟨hc.1.1.1,hc.1.1.2,hc.1.2,hc.2⟩]),sc,h⟩
   ·exact h.elim
  ·exact h.elim
 ·exact h.elim
theorem Gm{bi:Option (Nat×aC)}{rw:List Nat}{o:Oper}{id:Nat}{T:TypeId}{x:Operand}{t:Nat}{vt:PVal}{vs:List PVal}{L:List (Nat×TypeId)}{sc:List It}{st:aB}{K:List It->List Rs->aB->Prop}(ho:o.op=.store T x (.tmp t))(hd:o.dst=none)
  (hvt:st.tmps.getD t .undef=vt) (hk:(∃l,vt=.agg l)\/(vt.one=true/\∃e,L=[(0,e)])) (hm:∀y∈L,((t,y.1),y.2)∈st.own) (h:Ek P GE T x vt vs (some (t,L)) sc st K):
  ∃s' rs,jR P GE bi rw o id st s' rs/\∃sc',K sc' rs s':=by
 subst hvt
 unfold Ek at h
 rw[b7]at h
 split at h
 ·rename_i i off hx
  obtain⟨hvs,h⟩:=h
  obtain⟨B,hB,h⟩:=eO h
  split at h
  ·rename_i cs own
   split at h
   ·rename_i hc
    simp only[aP]at h
    split at h
    ·rename_i hl
     simp only[bL]at h
     simp only[vad,vai,vau]at hc hl
     exact⟨_,_,.sto T x t i off vs cs own L hd ho hx hvs hB (by simp only[fo,hvs,hB];rw[vax ⟨hc.1.1.1,hc.1.1.2,hc.1.2,vau.2 hc.2⟩]) hk hm (pP hl.1) (fun y hy=>by simpa using hl.2 y hy),sc,h⟩
    ·exact h.elim
   ·exact h.elim
  ·exact h.elim
 ·exact h.elim
theorem I2{bi:Option (Nat×aC)}{rw:List Nat}{o:Oper}{id:Nat}{T:TypeId}{x y:Operand}{cs':List PVal}{sc:List It}{st:aB}{K:List It->List Rs->aB->Prop}(ho:o.op=.store T x y)(hd:o.dst=none)(h:So P GE rw T x (opv GE st.tmps y) cs' sc st K):∃s' rs,jR P GE bi rw o id st s' rs/\∃sc',K sc' rs s':=by
 unfold So at h
 rw[b7]at h
 split at h
 ·rename_i i off hx
  split at h
  ·rename_i hi
   obtain⟨B,hB,h⟩:=eO h
   split at h
   ·rename_i cs
    obtain⟨h1,h2⟩:=h
    rw[bL]at h2
    exact⟨_,_,.stR T x y i off cs cs' hd ho hx hB h1 (by simpa using hi),sc,h2⟩
   ·exact h.elim
  ·exact h.elim
 ·exact h.elim
theorem NR{n:Nat}{args:List Operand}{own own':List ((Nat×Nat)×TypeId)}{oa:List OA}(h:RP n args own oa=true)(hs:∀x∈oa,((x.t,x.k),x.e)∈own->((x.t,x.k),x.e)∈own'):RP n args own' oa=true:=by
 unfold RP at h ⊢
 rw[vad]at h ⊢
 refine⟨vau.2 fun x hx=>?_,h.2⟩
 have:=vau.1 h.1 x hx
 simp only[vad,va4,vai]at this ⊢
 exact⟨this.1,this.2.imp_right fun⟨k1,k2⟩=>⟨hs x hx k1,k2⟩⟩
theorem Ll{f:Operand}{args:List Operand}{c:GC}{s:aB}{K:List aC->Prop}(hρ:c.ρ=[])(h:nx P GE f args c s K):K s.boxes/\∀st:aB,(∀x,x=f\/x∈args->opv GE s.tmps x=opv GE st.tmps x)->(∀x∈c.oa,((x.t,x.k),x.e)∈s.own->((x.t,x.k),x.e)∈st.own)->KD P GE f args st c.r c.ro st.boxes c.oa:=by
 have h0:=h
 unfold nx at h
 rw[b7]at h
 split at h
 ·rename_i g first cap hf
  rw[pl]at h
  split at h
  ·rename_i hb
   obtain⟨h1,h2,h3,h4,h5,h6⟩:=h
   rw[vV]at h6
   have hs:∀(H:List aC),rX H c.ρ c.Bs'=H:=fun H=>by rw[hρ];cases c.Bs'<;>rfl
   rw[hs]at h6
   refine⟨h6,fun st ho how=>?_⟩
   have key:nx P GE f args c st (fun H=>H=st.boxes):=by
    unfold nx
    rw[b7,<-ho f (.inl rfl),hf]
    simp only
    rw[pl,show args.map (opv GE st.tmps)=args.map (opv GE s.tmps)from va8 fun x hx=>(ho x (.inr hx)).symm]
    have hb2:(ug c.ρ&&RP first.length args st.own c.oa&&c.Bs.all Pb&&decide (c.Bs'.length=c.ρ.length))=true:=by
     simp only[vad]at hb ⊢
     exact⟨⟨⟨hb.1.1.1,NR hb.1.1.2 how⟩,hb.1.2⟩,hb.2⟩
    rw[hb2]
    simp only
    refine⟨h1,h2,?_,h4,h5,?_⟩
    ·rw[hρ]at h3 ⊢
     cases hBs:c.Bs<;>cases hHc:c.Hc<;>rw[hBs,hHc]at h3<;>first|exact h3.elim|trivial
    ·rw[vV,hs]
   obtain⟨H',k1,rfl⟩:=yI key
   exact k1
  ·exact h.elim
 ·exact h.elim
theorem MY{bi:Option (Nat×aC)}{rw:List Nat}{o:Oper}{id:Nat}{sc:List It}{st:aB}{K:List It->List Rs->aB->Prop}(h:Dq P GE A bi rw o id sc st K):∃s' rs,jR P GE bi rw o id st s' rs/\∃sc',K sc' rs s':=by
 unfold Dq at h
 split at h
 ·rename_i f args tys d ho hd
  split at h
  ·rename_i r ro sc'
   rw[b7]at h
   split at h
   ·rename_i g first cap hf
    rw[pl]at h
    obtain⟨⟨h1,h2⟩,h3⟩:=h
    simp only[qx,bL,aP]at h3
    exact⟨_,_,.call d f args tys g first cap r ro ho hd hf h1 h2,sc',h3⟩
   ·exact h.elim
  ·rename_i c sc'
   split at h
   ·rename_i hρ
    obtain⟨h1,h2⟩:=Ll hρ h
    simp only[bL,aP]at h1
    exact⟨_,_,.callR d f args tys c.r c.ro c.oa ho hd h2,sc',h1⟩
   ·exact h.elim
  ·rename_i i e n cs sc'
   split at h
   ·rename_i j cs0 x
    simp only[b7]at h
    split at h
    ·rename_i g ns hf hx hij
     simp only[vaZ]at hij
     subst hij
     obtain⟨h1,⟨h2,h3,h4⟩,⟨rfl,rfl⟩,h5⟩:=h
     simp only[bL,aP]at h5
     exact⟨_,_,.cl d i f x tys g e ns ho hd rfl hf hx h1 h2 h3 h4,sc',h5⟩
    ·exact h.elim
   ·exact h.elim
  ·exact h.elim
 ·rename_i t d ho hd
  split at h
  ·rename_i hz
   obtain⟨zs,hz⟩:=vaG.1 hz
   simp only[qx,bL,aP]at h
   exact⟨_,_,.alloc d t zs ho hd hz,sc,h⟩
  ·exact h.elim
 ·rename_i t d ho hd
  simp only[qx,bL,aP]at h
  exact⟨_,_,.mkmap d t ho hd,sc,h⟩
 ·rename_i T len parts d ho hd
  rw[pR]at h
  split at h
  ·rename_i p sc' e hu
   obtain⟨h1,h2⟩:=h
   simp only[qx,bL,aP]at h2
   exact⟨_,_,.res d p [(0,e)] hd (.inl ⟨T,len,parts,e,ho,h1,hu,rfl⟩),sc',h2⟩
  ·exact h.elim
 ·rename_i T parts d ho hd
  split at h
  ·rename_i p L sc'
   rw[pR]at h
   obtain⟨h1,h2,h3⟩:=h
   simp only[qx,bL,aP]at h3
   exact⟨_,_,.res d p L hd (.inr (.inl ⟨T,parts,ho,h1,h2⟩)),sc',h3⟩
  ·rename_i t k _ _ p sc'
   split at h
   ·rename_i hc
    rw[jS]at h
    split at h
    ·rename_i es hes
     rw[pR]at h
     obtain⟨h1,h2,h3⟩:=h
     simp only[bL,aP]at h3
     simp only[vad,vai]at hc
     exact⟨_,_,.bmv d t k T parts p es hd ho hc.1 hes hc.2 h1 h2,sc',h3⟩
    ·exact h.elim
   ·exact h.elim
  ·exact ky h
 ·rename_i v d ho hd
  split at h
  ·rename_i e he
   simp only[qx,bL,aP]at h
   exact⟨_,_,.res d (.slice []) [(0,e)] hd (.inr (.inr ⟨v,e,.inl ho,he,rfl,rfl⟩)),sc,h⟩
  ·exact ky h
 ·rename_i v d ho hd
  split at h
  ·rename_i e he
   simp only[qx,bL,aP]at h
   exact⟨_,_,.res d (.slice []) [(0,e)] hd (.inr (.inr ⟨v,e,.inr ho,he,rfl,rfl⟩)),sc,h⟩
  ·exact ky h
 ·rename_i t d ho hd
  split at h
  ·rename_i hdt
   simp only[jS,bL,aP]at h
   exact⟨_,_,.mv d t hd (.inl ho) (by simpa using hdt),sc,h⟩
  ·exact h.elim
 ·rename_i t d ho hd
  split at h
  ·rename_i hdt
   simp only[vad,vai]at hdt
   simp only[jS,bL,aP]at h
   exact⟨_,_,.mv d t hd (.inr ho) hdt.2,sc,h⟩
  ·exact ky h
 ·rename_i t y T T' d ho hd
  rw[jS,b7]at h
  split at h
  ·rename_i es ns p sc' e he hn hu
   split at h
   ·rename_i hc
    simp only[vad,vai]at hc
    obtain⟨rfl,hm⟩:=hc
    obtain⟨h1,h2⟩:=h
    simp only[bL,aP]at h2
    exact⟨_,_,.app d t T e y es ns p hd ho hu he hn h1 hm,sc',h2⟩
   ·exact h.elim
  ·exact h.elim
 ·rename_i T x d ho hd
  split at h
  ·rename_i l sc' fs hu
   rw[b7]at h
   split at h
   ·rename_i i off hx
    obtain⟨B,hB,h⟩:=eO h
    split at h
    ·rename_i cs own
     obtain⟨h1,h2⟩:=h
     rw[aP]at h2
     split at h2
     ·rename_i hn
      simp only[bL,aP]at h2
      have hlen:l.length=P.cellsOf T:=by
       have hp:=h1
       unfold bo at hp
       rw[hu]at hp
       simp only at hp
       split at hp
       ·rename_i hh;cases hp;rw[vbk];omega
       ·cases hp
      exact⟨_,_,.ld d T x i off cs own _ (.agg l) hd ho hx hB (.inr ⟨fs,l,hu,h1,rfl,pP hn,fun y hy=>by rw[hlen];exact(Dw hy).2⟩) (fun y hy=>(Dw hy).1),sc',h2⟩
     ·exact h2.elim
    ·exact h.elim
   ·exact h.elim
  ·rename_i e hu _
   rw[b7]at h
   split at h
   ·rename_i i off hx
    obtain⟨B,hB,h⟩:=eO h
    split at h
    ·rename_i cs own
     split at h
     ·rename_i hc
      simp only[vad,vai]at hc
      simp only[jS,bL,aP]at h
      have hget:cs[off]? =some (cs.getD off .undef):=by
       rw[van,vaa hc.2];rfl
      refine⟨_,_,.ld d T x i off cs own [(0,e)] (cs.getD off .undef) hd ho hx hB (.inl ⟨e,hu,hget,rfl⟩) (fun y hy=>?_),_,h⟩
      rw[vaX.1 hy];exact hc.1
     ·exact h.elim
    ·exact h.elim
   ·exact h.elim
  ·exact ky h
 ·rename_i T x t ho hd
  rw[jS]at h
  split at h
  ·rename_i vs sc'
   rw[aP]at h
   split at h
   ·rename_i l hl
    exact Gm ho hd hl (.inl ⟨l,rfl⟩) (fun y hy=>Ih hy) h
   ·exact h.elim
  ·rename_i sc'
   split at h
   ·rename_i hone
    rw[aP]at h
    split at h
    ·rename_i hL
     refine Gm ho hd rfl (.inr ⟨hone,?_⟩) (fun y hy=>Ih hy) h
     unfold Zo at hL
     split at hL
     ·rename_i e heq;exact⟨e,heq⟩
     ·cases hL
    ·exact xQ ho hd h
   ·exact h.elim
  ·exact xQ ho hd h
  ·exact I2 ho hd h
  ·exact h.elim
 ·rename_i T x y _ ho hd
  rw[b7]at h
  split at h
  ·split at h
   ·exact xQ ho hd h
   ·exact h.elim
  ·exact xQ ho hd h
  ·exact I2 ho hd h
  ·exact h.elim
 ·rename_i t m k x ho hd
  simp only[b7]at h
  split at h
  ·rename_i i j es' sc' hv
   obtain⟨B,hB,h⟩:=eO h
   split at h
   ·rename_i es
    obtain⟨h1,h2⟩:=h
    rw[bL]at h2
    exact⟨_,_,.mu t m k x _ hd ho (by rw[hv];exact QN hB h1),sc',h2⟩
   ·exact h.elim
  ·exact h.elim
 ·exact ky h
theorem Wx{p p' q:aC}(h:Cj p q=q)(hs:bh p'=bh p)(hm:∀cs own,p=.cells cs own->∀cs' own',p'=.cells cs' own'->∀x∈own,x∈own'):Cj p' q=q:=by
 cases q with
 |dead=>cases p'<;>rfl
 | map es =>
  cases p with
  |cells cs own=>simp[Cj]at h
  |dead=>simp[Cj]at h
  |map es0=>
   cases p' with
   |map es1=>simp only[bh,aC.map.injEq]at hs;subst hs;exact h
   |cells cs own=>simp[bh]at hs
   |dead=>simp[bh]at hs
 | cells cs own =>
  cases p with
  |map es0=>simp[Cj]at h
  |dead=>simp[Cj]at h
  | cells cs0 own0 =>
   cases p' with
   |map es1=>simp[bh]at hs
   |dead=>simp[bh]at hs
   | cells cs1 sG =>
    simp only[bh,aC.cells.injEq,vcj]at hs
    subst hs
    have hm:=hm _ _ rfl _ _ rfl
    simp only[Cj,aC.cells.injEq]at h ⊢
    refine⟨h.1,?_⟩
    have hall:own.all (fun x=>decide (x∈sG))=true:=vau.2 fun x hx=>by
     have h2:=h.2
     split at h2
     ·rename_i ha
      have:=vau.1 ha x hx
      simp only[vai]at this ⊢
      exact hm x this
     ·subst h2;simpa using hm x hx
    rw[hall]
theorem UM{l:List aC}:∀{n:Nat} {k:aC->Prop} {B:aC},l[n]? =some B->k B->mz l n k:=by
 induction l with
 |nil=>intro n k B h;simp at h
 |cons x l ih=>
  intro n k B h hk
  cases n with
  |zero=>simp at h;subst h;exact hk
  |succ n=>exact ih (by simpa using h) hk
theorem Lv{ρ:List Nat}{H H2:List aC}(hs:H2.map bh=H.map bh):∀{js:List Nat} {Bs Hc:List aC},(∀i∈js,∀cs own,H[i]? =some (.cells cs own)->∀cs' own',H2[i]? =some (.cells cs' own')->∀x∈own,x∈own')->vB ρ H js Bs Hc->vB ρ H2 js Bs Hc
 |[],[],[],_,_=>trivial
 |[],_::_,_,_,h=>h.elim
 |[],[],_::_,_,h=>h.elim
 |_::_,[],_,_,h=>h.elim
 |_::_,_::_,[],_,h=>h.elim
 | j :: js,B :: Bs,Bc :: Hc,hm,h => by
  obtain⟨h1,h2⟩:=h
  obtain⟨B0,e1,e2,e3⟩:=eO h1
  have hg:=P9 hs j
  rw[e1]at hg
  cases hB:H2[j]? with
  |none=>rw[hB]at hg;cases hg
  |some B1=>
   rw[hB]at hg
   simp only[vag,vat]at hg
   exact⟨UM hB ⟨Wx e2 hg fun cs own hp cs' own' hp'=>hm j (by simp) cs own (by rw[e1,hp]) cs' own' (by rw[hB,hp']),e3⟩,Lv hs (fun i hi=>hm i (vaU _ hi)) h2⟩
theorem Me:∀(js:List Nat) (Bs:List aC) (H H2:List aC),H2.length=H.length->js.length=Bs.length->∀i∈js,(rX H2 js Bs)[i]? =(rX H js Bs)[i]?
 |[],_,_,_,_,_,i,hi=>by cases hi
 |_::_,[],_,_,_,hl,_,_=>by simp at hl
 | j :: js,B :: Bs,H,H2,hl,hn,i,hi => by
  simp only[rX]
  by_cases hin:i∈js
  ·exact Me js Bs (H.set j B) (H2.set j B) (by simp[hl]) (by simpa using hn) i hin
  ·have:i=j:=(vay.1 hi).resolve_right hin
   subst this
   rw[pU _ _ _ hin,pU _ _ _ hin,vbm,vbm]
   simp[hl]
theorem MW{f:Operand}{args:List Operand}{c:GC}{s:aB}{K:List aC->Prop}(h:nx P GE f args c s K):K (rX s.boxes c.ρ c.Bs')/\c.Bs'.length=c.ρ.length/\∀st:aB,(∀x,x=f\/x∈args->opv GE s.tmps x=opv GE st.tmps x)->(∀x∈c.oa,((x.t,x.k),x.e)∈s.own->((x.t,x.k),x.e)∈st.own)->st.boxes.map bh=s.boxes.map bh->(∀i∈c.ρ,∀k e,jT s (true,(i,k),e)->jT st (true,(i,k),e))->
   KD P GE f args st c.r c.ro (rX st.boxes c.ρ c.Bs') c.oa:=by
 unfold nx at h
 rw[b7]at h
 split at h
 ·rename_i g first cap hf
  rw[pl]at h
  split at h
  ·rename_i hb
   obtain⟨h1,h2,h3,h4,h5,h6⟩:=h
   rw[vV]at h6
   refine⟨h6,?_,fun st ho how hs hbx=>?_⟩
   ·simp only[vad,vai]at hb
    exact hb.2
   have key:nx P GE f args c st (fun H=>H=rX st.boxes c.ρ c.Bs'):=by
    unfold nx
    rw[b7,<-ho f (.inl rfl),hf]
    simp only
    rw[pl,show args.map (opv GE st.tmps)=args.map (opv GE s.tmps)from va8 fun x hx=>(ho x (.inr hx)).symm]
    have hb2:(ug c.ρ&&RP first.length args st.own c.oa&&c.Bs.all Pb&&decide (c.Bs'.length=c.ρ.length))=true:=by
     simp only[vad]at hb ⊢
     exact⟨⟨⟨hb.1.1.1,NR hb.1.1.2 how⟩,hb.1.2⟩,hb.2⟩
    rw[hb2]
    simp only
    refine⟨h1,h2,Lv hs (fun i hi cs own e1 cs' own' e2 x hx=>?_) h3,h4,h5,?_⟩
    ·obtain⟨cs2,own2,q1,q2⟩:=fa.1 (hbx i hi x.1 x.2 (fa.2 ⟨cs,own,e1,hx⟩))
     rw[e2]at q1;cases q1
     exact q2
    ·rw[vV]
   obtain⟨H',k1,rfl⟩:=yI key
   exact k1
  ·exact h.elim
 ·exact h.elim
theorem MZ{bi:Option (Nat×aC)}{rw:List Nat}{o:Oper}{id:Nat}{sc:List It}{st:aB}{K:List It->List Rs->aB->Prop}(h:Kp P GE A bi rw o id sc st K):∃s' rs,pM P GE bi rw o id st s' rs/\∃sc',K sc' rs s':=by
 have old:M3 rw o=false->Dq P GE A bi rw o id sc st K->∃s' rs,pM P GE bi rw o id st s' rs/\∃sc',K sc' rs s':=fun hu h=>by
  obtain⟨s',rs,h1,h2⟩:=MY h
  exact⟨s',rs,.old h1 hu,h2⟩
 unfold Kp at h
 split at h
 ·rename_i f args tys d c sc' ho hd
  have hu:M3 rw o=false:=by unfold M3;rw[ho]
  split at h
  ·exact old hu h
  ·split at h
   ·rename_i hi
    obtain⟨h1,h2,h3⟩:=MW h
    simp only[bL,aP]at h1
    exact⟨_,_,.callG d f args tys c.r c.ro c.oa c.ρ (fun H=>rX H c.ρ c.Bs') ho hd hi (fun H i hn=>pU _ _ _ hn) (fun H H2 i hs hn=>Me c.ρ c.Bs' H H2 (by simpa using va6 List.length hs) h2.symm i hn) h3,sc',h1⟩
   ·exact h.elim
 ·rename_i T x d p sc' ho hd
  split at h
  ·rename_i hi
   rw[b7]at h
   split at h
   ·rename_i cs hx
    obtain⟨h1,h2⟩:=h
    simp only[bL,aP]at h2
    exact⟨_,_,.ldE d T x cs p ho hd hi hx h1,sc',h2⟩
   ·exact h.elim
  ·rename_i hi
   refine old ?_ h
   unfold M3
   rw[ho,hd]
   simpa using hi
 ·split at h
  ·exact h.elim
  ·rename_i hu
   exact old hu h
theorem vw{bid:Nat->Option (Nat×aC)}{rw:List Nat}{an:List Nat}{K:List It->aB->Prop}:∀(rest:List Oper) (pos id:Nat) (sc:List It) (lg:List (List Rs)) (st:aB),E7 P GE bid rw A ops an K rest pos id sc lg st->
  my P GE bid rw ops (fun lg st'=>(Ty an lg&&O7 rw lg)=true/\∃sc,K sc st') rest id lg st
 | [],_,_,sc,lg,st,h => by
  simp only[E7]at h
  split at h
  ·rename_i hl;exact⟨hl,sc,h⟩
  ·exact h.elim
 | o :: rest,pos,id,sc,lg,st,h => by
  simp only[E7]at h
  have step:∀sc st,Kp P GE A (bid lg.length) rw o id sc st (fun sc' rs st'=>bI (lg++[rs]) fun lg'=>E7 P GE bid rw A ops an K rest (pos+1) (id+if aK o.op then 1 else 0) sc' lg' st')->
    ∃s' rs,pM P GE (bid lg.length) rw o id st s' rs/\my P GE bid rw ops (fun lg st'=>(Ty an lg&&O7 rw lg)=true/\∃sc,K sc st') rest (id+if aK o.op then 1 else 0) (lg++[rs]) s':=by
   intro sc st hs
   obtain⟨s',rs,h1,sc',h2⟩:=MZ (id:=id) hs
   rw[aP]at h2
   exact⟨s',rs,h1,vw rest _ _ sc' _ s' h2⟩
  unfold my
  split at h
  ·rename_i hg;try simp only[hg]
   exact step _ _ h
  ·rename_i j want hg
   obtain⟨x,hx,hc⟩:=Ej h
   simp only[hg,hx]
   rcases hc with⟨rfl,sc',hc⟩|⟨hne,sc',hc⟩
   ·exact⟨fun _=>step _ _ hc,fun hn=>absurd rfl hn⟩
   ·refine⟨fun he=>absurd he hne,fun _=>?_⟩
    simp only[vG,aP]at hc
    exact vw rest _ _ sc' _ _ hc
theorem aW.drawD{m:Nat}(hf:P.follows .mixedOrders=true){id:Nat}{an:List Nat}{X:List aC}{br:List (Nat×Nat)}{rw:List Nat}{Q:Exit->aB->Prop}{st:aB}(hnd:ops.toList.all ft=true)(h:Pk P GE ops an X br rw (Q .normal) st):aW P GE m (.region id ops true) Q st:=by
 intro ro E bs0 a w hE hb hR
 obtain⟨rfl,_,_,_⟩:=hE
 refine lA (Ci (Q:=fun e a' w'=>e=.normal/\Nm P E bs0 a.defers Q .normal a' w') hf hnd (by rintro⟨_,_,h,_⟩;cases h) ?_) fun e a' w' hq=>by obtain⟨rfl,hq⟩:=hq;exact hq
 exact Gj hR hR.len (fun a' w' st' hd hR' hK=>⟨rfl,hd,st',hR',hK⟩) h
def E6(P:Program)(GE:List (Nat×List PVal))(A:List Nat)(ops:Array Oper)(an:List Nat)(X:List aC)(br:List (Nat×Nat))(rw:List Nat)(K:List It->aB->Prop)(sc:List It)(st:aB):Prop:=
 match ops.toList.all ft&&(drawD P rw ops.toList st.tmps.length an&&XU rw br st.boxes.length X.length)with
 |true=>JW st.boxes X fun H0=>match Xd rw H0 with
  |true=>JW H0 (gb P ops.toList) fun H=>E7 P GE (Nq br H0) rw A ops an K ops.toList 0 (st.boxes.length+X.length) sc [] ⟨st.tmps,H,st.own⟩
  |false=>False
 |false=>False
theorem Gl{m:Nat}(hf:P.follows .mixedOrders=true){id:Nat}{an:List Nat}{X:List aC}{br:List (Nat×Nat)}{rw:List Nat}{K:List It->aB->Prop}{sc:List It}{st:aB}{Q:Exit->aB->Prop}(hQ:∀st,(∃sc,K sc st)->Q .normal st)
  (h:E6 P GE A ops an X br rw K sc st):aW P GE m (.region id ops true) Q st:=by
 unfold E6 at h
 split at h
 ·rename_i hd
  rw[vad,vad]at hd
  obtain⟨hnd,hd⟩:=hd
  unfold JW at h
  rw[aP]at h
  split at h
  ·rename_i hr
   rw[aP]at h
   refine(aW.drawD (Q:=fun e st=>e=.normal/\∃sc,K sc st) hf hnd ⟨hd.1,by rw[vad];exact⟨hd.2,hr⟩,?_⟩).imp fun e st hx=>by obtain⟨rfl,hx⟩:=hx;exact hQ st hx
   have:=vw _ _ _ _ _ _ h
   simpa using this
  ·exact h.elim
 ·exact h.elim
end
end Go.Proofs.YtkdahfeiedaahaaGreatDoor
