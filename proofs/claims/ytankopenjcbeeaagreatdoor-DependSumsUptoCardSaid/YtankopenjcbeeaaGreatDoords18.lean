/- PROVED: a part of the proof. Conditions: none. -/
import Derived.Test.YtankopenjcbeeaaGreatDoords17
import Derived.Test.YtankopenjcbeeaaGreatDoords11
set_option linter.unusedSimpArgs false
set_option linter.unusedVariables false
noncomputable section
namespace Go.Proofs.YtankopenjcbeeaaGreatDoor
open Go
set_option linter.unusedSimpArgs false
set_option linter.unusedVariables false
def qci(i:Nat):ax->Prop
 |.cells cs _=>L4 i cs
 |.map es=>∀x∈es,x.1.no i/\x.2.no i
 |.dead=>True
section
variable{P:Program}{E:ko}{Γ:aP}{bs:bg}{ow:Nat->Option fR}{w:World}{st:ay}{a:Array Value}
theorem BR.noi{B:ax}{b i:Nat}{bs':bg}(h:BR Γ bs w B b)(hc:qci i B)(hb:∀(k b:Nat),k≠i->bs[k]? =some (some b)->bs'[k]? =some (some b)):BR Γ bs' w B b:=by
 cases B with
 |cells cs own=>
  obtain⟨c,t,h1,h2,h3,h4⟩:=h
  exact⟨c,t,h1,h2,λj p v hp hv=>(h3 j p v hp hv).noi (lP hc hp) hb,h4⟩
 |map es=>
  obtain⟨ents,clock,h1,h2,h3,h4⟩:=h
  exact⟨ents,clock,h1,h2,λj k u x hk hx=>⟨(h3 j k u x hk hx).1.noi (hc _ (var hk)).1 hb,(h3 j k u x hk hx).2.noi (hc _ (var hk)).2 hb⟩,h4⟩
 |dead=>trivial
theorem iy{i k b:Nat}{x:Option Nat}(h:(bs.set i x)[k]? =some (some b))(hx:x=none):k≠i/\bs[k]? =some (some b):=by
 subst hx
 by_cases hk:i=k
 ·subst hk
  by_cases hl:i<bs.length
  ·rw[vad hl]at h;cases h
  ·rw[vav (by simp;omega)]at h;cases h
 ·rw[vai hk]at h;exact⟨λe=>hk e.symm,h⟩
theorem SR.dropI(h:SR P E Γ bs ow w a st)(i:Nat)(ht:L4 i st.tmps)(hb:∀(j:Nat) B,j≠i->st.boxes[j]? =some B->qci i B):SR P E Γ (bs.set i none) ow w a {st with boxes:=st.boxes.set i .dead}:=by
 have hset:∀(k b:Nat),k≠i->bs[k]? =some (some b)->(bs.set i none)[k]? =some (some b):=λk b hk hb=>by rw[vai (λe=>hk e.symm)];exact hb
 have hbox:∀{k:Nat} {B:ax},k≠i->(st.boxes.set i .dead)[k]? =some B->st.boxes[k]? =some B:=λ{k B} hk hB=>by rwa[vai (λe=>hk e.symm)]at hB
 exact{h with
  tm:=λt p v hp hv=>(h.tm t p v hp hv).noi (lP ht hp) hset
  bl:=by simp[h.bl]
  bx:=λj b B hb' hB=>by
   obtain⟨hj,hb'⟩:=iy hb' rfl
   have hB:=hbox hj hB
   obtain⟨k1,k2,k3⟩:=h.bx j b B hb' hB
   exact⟨k1,k2,k3.noi (hb j B hj hB) hset⟩
  inj:=λj k b hj hk=>h.inj j k b (iy hj rfl).2 (iy hk rfl).2
  bn:=λj b hj=>h.bn j b (iy hj rfl).2
  ob:=λj k e cs own b hB hj hb'=>by
   obtain⟨hji,hb'⟩:=iy hb' rfl
   exact h.ob j k e cs own b (hbox hji hB) hj hb'
  gl:=λg cs hg=>(h.gl g cs hg).clo (show eP 0 cs from h.gc g cs hg)}
theorem SR.addI(h:SR P E Γ bs ow w a st){i b:Nat}{es:List (PVal×PVal)}(hi:bs[i]? =some none)(hB:BR Γ (bs.set i (some b)) w (.map es) b)(hlt:b<w.heap.size)(hT:¬aR bs ow b)(hbn:E.T b\/E.w.heap.size<=b):SR P E Γ (bs.set i (some b)) ow w a {st with boxes:=st.boxes.set i (.map es)}:=by
 have hsub:bs.Sub (bs.set i (some b)):=λk x hx=>yb hi hx
 have hcase:∀{k x:Nat},(bs.set i (some b))[k]? =some (some x)->(k=i/\x=b)\/(k≠i/\bs[k]? =some (some x)):=λ{k x} hk=>by
  by_cases hki:k=i
  ·subst hki
   rw[vad (ah hi)]at hk
   cases hk;exact .inl ⟨rfl,rfl⟩
  ·rw[vai (λe=>hki e.symm)]at hk;exact .inr ⟨hki,hk⟩
 have hbox:∀{k:Nat} {B:ax},k≠i->(st.boxes.set i (.map es))[k]? =some B->st.boxes[k]? =some B:=λ{k B} hk hB=>by rwa[vai (λe=>hk e.symm)]at hB
 have hself:∀{B:ax},(st.boxes.set i (.map es))[i]? =some B->B=.map es:=λ{B} hB=>by
  rw[vad (by rw[<-h.bl];exact ah hi)]at hB;cases hB;rfl
 have hg:Γ b=none:=by
  cases hx:Γ b with
  |none=>rfl
  |some n=>
   obtain⟨c,t,fr,h1,_⟩:=h.wi b n hx
   obtain⟨ents,clock,h2,_⟩:=hB
   rw[h2]at h1;cases h1
 exact{h with
  tm:=λt p v hp hv=>(h.tm t p v hp hv).mono (.refl _ _) hsub
  bl:=by simp[h.bl]
  bx:=λj x B hb' hB'=>by
   rcases hcase hb' with⟨rfl,rfl⟩|⟨hj,hb'⟩
   ·have:=hself hB';subst this
    exact⟨hg,hlt,hB⟩
   ·obtain⟨k1,k2,k3⟩:=h.bx j x B hb' (hbox hj hB')
    exact⟨k1,k2,k3.mono (.refl _ _) hsub rfl⟩
  inj:=λj k x hj hk=>by
   rcases hcase hj with⟨rfl,rfl⟩|⟨hj',hb1⟩<;>rcases hcase hk with⟨rfl,hx⟩|⟨hk',hb2⟩
   ·rfl
   ·exact absurd (.inl ⟨k,hb2⟩) hT
   ·subst hx;exact absurd (.inl ⟨j,hb1⟩) hT
   ·exact h.inj j k x hb1 hb2
  bn:=λj x hj=>by
   rcases hcase hj with⟨rfl,rfl⟩|⟨_,hb1⟩
   ·exact hbn
   ·exact h.bn j x hb1
  ob:=λj k e cs own x hB' hj hb'=>by
   rcases hcase hb' with⟨rfl,rfl⟩|⟨hji,hb'⟩
   ·have:=hself hB';cases this
   ·exact h.ob j k e cs own x (hbox hji hB') hj hb'
  gl:=λg cs hg=>(h.gl g cs hg).mono (.refl _ _) hsub}
theorem SR.retell(h:SR P E Γ bs ow w a st){t:Nat}{p:PVal}(hv:∀v,a[t]? =some v->VR Γ bs w p v):SR P E Γ bs ow w a {st with tmps:=st.tmps.set t p}:=
 { h with
  sz:=by simp[h.sz]
  tm:=λk q v hq hv'=>by
   by_cases hk:t=k
   ·subst hk
    have hl:=ah hq
    rw[vad (by simpa using hl)]at hq
    cases hq;exact hv v hv'
   ·rw[vai hk]at hq
    exact h.tm k q v hq hv'}
theorem SR.unownO(h:SR P E Γ bs ow w a st){r:Nat}{o:Obj}(hr:w.heap[r]? =some o)(hno:∀c t fr,o≠.cells c t fr):Γ r=none/\SR P E Γ bs (λb=>if b=r then none else ow b) w a st:=by
 have hg:Γ r=none:=by
  cases hx:Γ r with
  |none=>rfl
  |some n=>obtain⟨c',t,fr,h1,_⟩:=h.wi r n hx;rw[hr]at h1;cases h1;exact absurd rfl (hno _ _ _)
 have hne:∀{v:Value} {e:TypeId} {b:Nat},de P Γ w v e->v.ownBlock=some b->b≠r:=λ{v e b} ho hb hx=>by
  obtain⟨n,xs,_,o2⟩:=ho
  have:=o2 b hb
  rw[hx,hg]at this;cases this
 refine⟨hg,{h with
  on:=λb L hL=>?_
  ot:=λt k e he=>?_
  ob:=λi j e cs own b hB hj hb=>?_}⟩
 ·split at hL
  ·cases hL
  ·exact h.on b L hL
 ·obtain⟨u,v,h1,h2,h3,h4⟩:=h.ot t k e he
  exact⟨u,v,h1,h2,h3,λb hb=>by rw[vaM (hne h3 hb)];exact h4 b hb⟩
 ·obtain⟨v,h1,h3,h4⟩:=h.ob i j e cs own b hB hj hb
  exact⟨v,h1,h3,λb' hb'=>by rw[vaM (hne h3 hb')];exact h4 b' hb'⟩
end
theorem BE{P:Program}{E:ko}{A:List Nat}{ops:Array Oper}{K:ay->Prop}{rest:List Nat}{ds:List Deferred}{Q:Exit->Act->World->Prop}{bs0:bg}
  (hK:∀Γ bs ow a w st,SR P E Γ bs ow w a st->K st->(∃X,bs=bs0++X)->wpOps P ops Q rest ⟨a,ds⟩ w):
  ∀(L:List Oper) (is:List Nat) (id:Nat) (Γ:aP) (bs:bg) (ow:Nat->Option fR) (a:Array Value) (w:World) (st:ay),is.map (λi=>ops[i]?)=L.map some->(∀o∈L,o.guard=none/\db o=true/\aB o.op=false)->
   SR P E Γ bs ow w a st->(∃X,bs=bs0++X)->b8 P E.GE A ops K L id st->wpOps P ops Q (is++rest) ⟨a,ds⟩ w
 |[],[],id,Γ,bs,ow,a,w,st,_,_,h,hX,hp=>hK Γ bs ow a w st h hp hX
 | o :: L,i :: is,id,Γ,bs,ow,a,w,st,hi,hg,h,hX,hp => by
  obtain⟨g1,g2,g3⟩:=hg o (by simp)
  unfold b8 at hp
  simp only[g1]at hp
  simp only[vaZ,vbC]at hi
  show wpOps P ops Q (i::(is++rest)) _ w
  rw[wpOps_cons]
  unfold wpOp
  rw[hi.1]
  simp only
  rw[vaJ (by simp[Region.wanted,g1])]
  refine .inl (Oper.wp_mono (λa' w' hA=>?_) (zr (a:=⟨a,ds⟩) h (λhm=>by rw[g3]at hm;cases hm) hp Q))
  obtain⟨hd,Γ',bs',ow',st',h1,h2,h3⟩:=hA
  obtain⟨a1,ds1⟩:=a'
  simp only at hd h1
  subst hd
  refine BE (A:=A) hK L is _ Γ' bs' ow' a1 w' st' hi.2 (λo ho=>hg o (vaO _ ho)) h1 ?_ h2
  obtain⟨X,rfl⟩:=hX
  rcases h3 with rfl|⟨hm,_⟩|⟨Y,rfl⟩
  ·exact⟨X,rfl⟩
  ·rw[g3]at hm;cases hm
  ·exact⟨X++Y,vbT _ _ _⟩
def keepV(K:List Nat)(mv:PVal)(tm:List PVal):List PVal:=K.foldl (λtm t=>tm.set t mv) tm
section
variable{P:Program}{E:ko}{Γ:aP}{bs:bg}{ow:Nat->Option fR}{w:World}{st:ay}{a:Array Value}
theorem LX(mv:PVal):∀(K:List Nat) (tm:List PVal) (t:Nat) (p:PVal),(keepV K mv tm)[t]? =some p->(t∈K/\p=mv)\/tm[t]? =some p
 |[],tm,t,p,h=>.inr h
 | k :: K,tm,t,p,h => by
  rcases LX mv K (tm.set k mv) t p h with h|h
  ·exact .inl ⟨vaO _ h.1,h.2⟩
  ·by_cases hk:k=t
   ·subst hk
    have hl:=ah h
    rw[vad (by simpa using hl)]at h
    cases h;exact .inl ⟨by simp,rfl⟩
   ·rw[vai hk]at h;exact .inr h
theorem LY(mv:PVal):∀(K:List Nat) (tm:List PVal),(keepV K mv tm).length=tm.length
 |[],tm=>rfl
 |k::K,tm=>by show(keepV K mv (tm.set k mv)).length=_;rw[LY mv K];simp
theorem SR.keepV(h:SR P E Γ bs ow w a st)(K:List Nat){p:PVal}(hv:∀t∈K,∀v,a[t]? =some v->VR Γ bs w p v):SR P E Γ bs ow w a {st with tmps:=Go.Proofs.YtankopenjcbeeaaGreatDoor.keepV K p st.tmps}:=
 { h with
  sz:=by rw[LY];exact h.sz
  tm:=λt q v hq hv'=>by
   rcases LX p K st.tmps t q hq with⟨h1,rfl⟩|h1
   ·exact hv t h1 v hv'
   ·exact h.tm t q v h1 hv'}
theorem Md{GE:List (Nat×List PVal)}{m:Nat}{σ β:Type}{f:ac->σ->Option σ}{S:PVal->PVal->σ->ay}{F:σ->ay}{s0:σ}{st0 st1:ay}{g:β->PVal}{ma:List (ac×β)}{A:List Nat}{ops:Array Oper}{L:List Oper}{oR:Oper}{K:List Nat}{i tR ti d1 d2 e1 e2 kx i2 i3 i4 b0 b1:Nat}{T kt et:TypeId}{c5:Code}{o10 o11 o12 o13 o4:Oper}{cd:Code}
  (hcd:cd=.seq (.region i2 ops false) (.block b0 (.loop (.seq (.region i3 #[o10,o11] false) (.seq (.cond (.tmp d2) .skip (.exit b0)) (.block b1 (.seq (.region i4 #[o12,o13,o4] false) c5)))))))
  (hrg:List.range ops.size=List.range L.length++[L.length]) (hp1:(List.range L.length).map (λi=>ops[i]?)=L.map some) (hp2:L.all EB=true) (hoR:ops[L.length]? =some oR) (hgR:oR.guard=none) (hR:oR.op=.range T (.tmp tR)) (hRd:oR.dst=some ti) (hnd:ops.toList.all db=true)
  (hT:P.underlying T=some (.map kt et)) (hpre:b8 P GE A ops (λst=>FG st st1) L st0.boxes.length st0)
  (htR:st1.tmps[tR]? =some (.mapr i)) (hbx:st1.boxes[i]? =some (.map (bA g ma))) (hK:∀t∈K,st1.tmps[t]? =some (.mapr i)) (hno:∀p,p.no i->L4 i (keepV K p (st1.tmps.set tR .undef))) (hnoB:∀(j:Nat) B,j≠i->st1.boxes[j]? =some B->qci i B) (hcl:∀x,(g x).cl 0)
  (hti:Fr st1 ti) (hS0:∀iv mv,S iv mv s0=⟨(keepV K mv (st1.tmps.set tR .undef)).set ti iv,st1.boxes.set i .dead,st1.own⟩)
  (hS:∀iv mv s,(S iv mv s).tmps[ti]? =some iv/\(S iv mv s).boxes.length=st1.boxes.length/\Fr (S iv mv s) d1/\Fr (S iv mv s) d2/\Fr (S iv mv s) e1/\Fr (S iv mv s) e2/\bo kx (S iv mv s).own=(S iv mv s).own/\(∀t∈K,(S iv mv s).tmps[t]? =some mv))
  (hF:∀iv mv s,If (keepV K (.mapr i) (S iv mv s).tmps) (F s).tmps=(F s).tmps/\(F s).boxes=(S iv mv s).boxes.set i (.map (bA g ma))/\(F s).own=(S iv mv s).own) (hne:ti≠e1/\e1≠e2)
  (hnb:st1.boxes.length<1000) (hm:m % 1000<=st1.boxes.length) (hfold:Ml f (ma.map (·.1)) s0)
  (hB:∀iv mv s k s',f k s=some s'->cC P GE (1000+st1.boxes.length) c5 (EX .normal (S (.val iv) (.val mv) s')) {S (.val iv) (.val mv) s with tmps:=(S (.val iv) (.val mv) s).tmps.set kx (.str k)})
  (h1:o10.op=.next (.tmp ti) false) (h1d:o10.dst=some d1) (h1g:o10.guard=none) (h2:o11.op=.extract (.tmp d1) 0) (h2d:o11.dst=some d2) (h2g:o11.guard=none)
  (h3:o12.op=.entry (.tmp ti)) (h3d:o12.dst=some e1) (h3g:o12.guard=none) (h4:o13.op=.extract (.tmp e1) 0) (h4d:o13.dst=some e2) (h4g:o13.guard=none) (h5:o4.op=.assign (.tmp e2)) (h5d:o4.dst=some kx) (h5g:o4.guard=none):
  cC P GE m cd (λe st'=>e=.normal/\∃(l:List ac) (s:σ),l.Perm (ma.map (·.1))/\nY f l s0=some s/\st'=F s) st0:=by
 intro ro E bs0 a w hE hb0 hRel
 obtain⟨rfl,hElow,hEnt,hEgl⟩:=hE
 subst hcd
 obtain⟨a,ds⟩:=a
 obtain⟨Γ,bs,ow,h,hk⟩:=hRel
 refine pD (ew (im (Q:=λe a' w'=>e=.normal/\a'.defers=ds/\∃(r bm:Nat) (es:Array MapEntry) (clock:Nat) (Γ1:aP) (bs1:bg) (ow1:Nat->Option fR),
   SR P E Γ1 (bs1.set i none) ow1 w' a'.tmps (S (.val (AJ r)) (.val (.map (some bm))) s0)/\bs1.length=st1.boxes.length/\bs1[i]? =some (some bm)/\LE bs0 bs1/\w'.heap[r]? =some (.mapIter (some bm) clock #[] clock)/\w'.heap[bm]? =some (.map es clock)/\Az es clock/\E.w.heap.size<=r/\
   ¬aR (bs1.set i none) ow1 r/\¬aR (bs1.set i none) ow1 bm/\bm≠r/\(E.T bm\/E.w.heap.size<=bm)/\es.size=(bA g ma).length/\(∀(j:Nat) k u x,(bA g ma)[j]? =some (k,u)->es[j]? =some x->VR Γ1 [] w' k x.key/\VR Γ1 [] w' u x.val)) hnd (by rintro⟨_,_,hx,_⟩;cases hx) ?_) ?_)
 ·rw[hrg]
  refine BE (A:=A) (bs0:=bs) (λΓ1 bs1 ow1 a1 w1 stx hx hfg hX=>?_) L _ st0.boxes.length Γ bs ow a w st0 hp1 (pk hp2) h ⟨[],by simp⟩ hpre
  obtain⟨X,rfl⟩:=hX
  have hkX:LE bs0 (bs++X):=λj hj=>by
   have h1:=hk j hj
   have h2:bs0[j]? =some bs0[j]:=vaa hj
   have h3:j<bs.length:=by rw[h2]at h1;exact ah h1
   rw[vac h3];exact h1
  obtain⟨Γ2,bs2,ow2,hS1,hk2⟩:=(hfg.weak (P:=P) (m:=m)) E bs0 ⟨a1,ds⟩ w1 hb0 ⟨Γ1,bs++X,ow1,hx,hkX⟩
  simp only at hS1
  have htl:tR<a1.size:=by rw[hS1.sz];exact ah htR
  have hvt:=hS1.tm tR _ _ htR (vaC htl)
  generalize hvv:a1[tR]=vt at hvt
  obtain⟨bm,rfl,hib⟩:∃bm,vt=.map (some bm)/\bs2[i]? =some (some bm):=by cases hvt with|mapr _ bm hb=>exact⟨bm,rfl,hb⟩
  obtain⟨hgb,hbl,es,clock,hmap,hsz,hent,hborn⟩:=hS1.bx i bm _ hib hbx
  have hrun:=run_range_map (P:=P) w1 T kt et bm es clock hT hmap
  have hev:(Act.mk a1 ds).eval (.tmp tR)=.map (some bm):=aV (by show a1[tR]? =_;rw[vaC htl,hvv])
  refine cm (o:=oR) hoR hgR (v:=AJ w1.heap.size) (w':=w1.alloc (.mapIter (some bm) clock #[] clock)) (by simp[execOp,hR,hev,hrun]) ?_
  rw[hRd,qH]
  obtain⟨_,hU⟩:=hS1.unownO hmap (λc t fr hx=>by cases hx)
  obtain⟨hA,hle⟩:=hU.allocO (.mapIter (some bm) clock #[] clock)
  have h3:=hA.retell (t:=tR) (p:=.undef) λv _=>.undef v
  have h4:=h3.keepV K (p:=.val (.map (some bm))) λt ht v hv=>by
   have h9:=hS1.tm t _ v (hK t ht) hv
   cases h9 with
   |mapr _ b2 hb2=>rw[hib]at hb2;cases hb2;exact .val _
  have h5:=h4.dropI i (hno _ (by simp[PVal.no])) hnoB
  have h6:=h5.set (d:=ti) (p:=.val (AJ w1.heap.size)) (.val _)
  simp only[hti.o]at h6
  refine⟨rfl,rfl,w1.heap.size,bm,es,clock,Γ2,bs2,λb=>if b=bm then none else ow2 b,?_,by rw[hS1.bl],hib,hk2,World.alloc_heap_new w1 _,(alloc_old w1 _ hbl).trans hmap,hborn,hS1.step.size,?_,?_,by omega,hS1.bn i bm hib,hsz,λj k u x hk hx=>?_⟩
  ·rw[hS0];exact h6
  ·rintro(⟨j,hj⟩|hj)
   ·obtain⟨_,hj⟩:=iy hj rfl
    have hjl:j<st1.boxes.length:=by rw[<-hS1.bl];exact ah hj
    have:=(hS1.bx j _ _ hj (vaa hjl)).2.1
    omega
   ·simp only at hj
    rw[vaM (by omega)]at hj
    cases hL:ow2 w1.heap.size with
    |none=>exact hj hL
    |some L=>have:=(hS1.on _ L hL).1;omega
  ·rintro(⟨j,hj⟩|hj)
   ·obtain⟨hji,hj⟩:=iy hj rfl
    exact hji (hS1.inj _ _ _ hj hib)
   ·simp at hj
  ·have hclE:k.cl 0/\u.cl 0:=by
    obtain⟨y,_,hy⟩:=vak.1 (var hk)
    cases hy
    exact⟨vzz,hcl y.2⟩
   exact⟨((hent j k u x hk hx).1.clo hclE.1).mono hle (.refl _),((hent j k u x hk hx).2.clo hclE.2).mono hle (.refl _)⟩
 ·rintro e ⟨a1,ds1⟩ w1 ⟨rfl,hd1,r,bm,es,clock,Γ1,bs1,ow1,hS1,hbl1,hib,hk1,hit,hhm,hborn,hr,hTr,hTb,hbr,hTE,hsz,hent⟩
  simp only at hd1 hS1;subst hd1
  have hil:i<bs1.length:=ah hib
  have hkey:∀(j:Nat) (x:MapEntry),es[j]? =some x->∃s u,ma[j]? =some (s,u)/\x.key=.string ⟨s.toArray⟩:=λj x hx=>by
   have hj:j<ma.length:=by have:=(vab.1 hx).1;rw[hsz]at this;simpa[bA]using this
   obtain⟨h1,_⟩:=hent j (.str ma[j].1) (g ma[j].2) x (by simp[bA,hj]) hx
   refine⟨ma[j].1,ma[j].2,by simp[hj],?_⟩
   generalize x.key=k at h1
   cases h1;rfl
  have hkk:∀y∈es.toList,y.key=.string ⟨(fT y).toArray⟩:=λy hy=>by
   obtain⟨j,hj⟩:=vaW.1 hy
   obtain⟨s,u,_,h2⟩:=hkey j y (by simpa using hj)
   unfold fT
   rw[h2]
  have hks:es.toList.map fT=ma.map λe=>e.1:=by
   refine vaL λj=>?_
   simp only[vah,vaA]
   cases hj:es[j]? with
   |none=>
    have h1:ma.length<=j:=by have:=vbj.1 hj;rw[hsz]at this;simpa[bA]using this
    simp[h1]
   |some x=>
    obtain⟨s,u,h1,h2⟩:=hkey j x hj
    simp[h1,fT,h2]
  have hmod:(1000+st1.boxes.length) % 1000=st1.boxes.length:=by omega
  show CQ ro P (.block b0 _) _ _ w1
  refine Cv (ew (Ky (ds:=ds1) (S:=S (.val (AJ r)) (.val (.map (some bm)))) (mB:=1000+st1.boxes.length) (kx:=kx) hit hhm hborn hr hTr hTb hbr hS1 (by omega) (by rw[hmod,vb6,hbl1];exact vaj _) hkk (λs=>(hS _ _ s).1) (λs=>(hS _ _ s).2.2.1) (λs=>(hS _ _ s).2.2.2.1) (λs=>(hS _ _ s).2.2.2.2.1) (λs=>(hS _ _ s).2.2.2.2.2.1) (λs=>(hS _ _ s).2.2.2.2.2.2.1) hne
   (by rw[hks];exact hfold) (λs k s' hs=>hB _ _ s k s' hs) h1 h1d h1g h2 h2d h2g h3 h3d h3g h4 h4d h4g h5 h5d h5g) λq a2 w2 hq=>?_)
  obtain⟨rfl,hd2,l,s,Γ2,bs2,ow2,hperm,hfs,hS2,hbs2,hle2,hsz2,hk2⟩:=hq
  rw[hmod]at hbs2
  have hbl2:bs2.length=st1.boxes.length:=by rw[hS2.bl];exact(hS _ _ s).2.1
  have hbs2':bs2=bs1.set i none:=vaL λj=>by
   by_cases hj:j<st1.boxes.length
   ·exact hbs2 j hj
   ·rw[vav (by omega),vav (by simp;omega)]
  subst hbs2'
  obtain⟨q1,q2⟩:=hk2 bm (vab.1 hhm).1 hbr hTb
  have hhm2:=q1.trans hhm
  have hclE:∀x∈bA g ma,x.1.cl 0/\x.2.cl 0:=λx hx=>by
   obtain⟨y,_,rfl⟩:=vak.1 hx
   exact⟨vzz,hcl y.2⟩
  have hi2:(bs1.set i none)[i]? =some none:=vad hil
  have hback:(bs1.set i none).set i (some bm)=bs1:=by
   rw[vby]
   refine vaL λj=>?_
   by_cases hj:i=j
   ·subst hj;rw[vad hil,hib]
   ·rw[vai hj]
  have hA:=hS2.addI (es:=bA g ma) hi2 ⟨es,clock,hhm2,hsz,λj k u x hk hx=>⟨((hent j k u x hk hx).1.mono hle2 (.refl _)).clo (hclE _ (var hk)).1,((hent j k u x hk hx).2.mono hle2 (.refl _)).clo (hclE _ (var hk)).2⟩,hborn⟩ (vab.1 hhm2).1 q2 hTE
  rw[hback]at hA
  have hC:=hA.keepV K (p:=.mapr i) λt ht v hv=>by
   have h9:=hS2.tm t _ v ((hS _ _ s).2.2.2.2.2.2.2 t ht) hv
   cases h9
   exact .mapr i bm hib
  obtain⟨f1,f2,f3⟩:=hF (.val (AJ r)) (.val (.map (some bm))) s
  have hD:=hC.forgetT (tm:=(F s).tmps) f1
  have hFs:F s=⟨(F s).tmps,(S (.val (AJ r)) (.val (.map (some bm))) s).boxes.set i (.map (bA g ma)),(S (.val (AJ r)) (.val (.map (some bm))) s).own⟩:=by rw[<-f2,<-f3]
  simp only[Exit.inBlock,if_true]
  refine⟨hd2,F s,⟨Γ2,bs1,ow2,?_,hk1⟩,rfl,l,s,hks▸hperm,hfs,rfl⟩
  rw[hFs]
  exact hD
end
def xt{α:Type}(m:List (ac×α))(k:ac):List (ac×α):=
 match m with
 |[]=>[]
 |e::r=>if k==e.1 then r else e::xt r k
theorem L3{α:Type}(k k':ac):∀m:List (ac×α),xt (xt m k) k'=xt (xt m k') k
 |[]=>rfl
 | e :: m => by
  have ih:=L3 k k' m
  by_cases h:(k==e.1)=true<;>by_cases h':(k'==e.1)=true
  ·have:k=k':=by rw[va0]at h h';rw[h,h']
   subst this;rfl
  ·simp[xt,h,h']
  ·simp[xt,h,h']
  ·simp[xt,h,h',ih]
theorem P8{α:Type}(f:α->PVal)(k:ac):∀(m:List (ac×α)),bA f (xt m k)=match pg m k with
  |none=>bA f m
  |some _=>(bA f m).eraseIdx (m.findIdx λe=>k==e.1)
 |[]=>by simp[xt,pg,bA]
 | e :: m => by
  have ih:=P8 f k m
  unfold pg at ih ⊢
  unfold bA at ih ⊢
  by_cases h:(k==e.1)=true
  ·simp[xt,h,vbD]
  ·have h':(k==e.1)=false:=by simpa using h
   simp only[xt,h',List.find?_cons,vbD,vaZ]
   simp only[vcA,if_false,vaZ,ih]
   cases(List.find? (λe=>k==e.1) m)with
   |none=>simp
   |some v=>simp
theorem Az.erase{ents:Array MapEntry}{clock j:Nat}(h:Az ents clock):Az (ents.eraseIdxIfInBounds j) clock:=by
 have hl:(ents.eraseIdxIfInBounds j).toList=ents.toList.eraseIdx j:=by simp
 refine⟨?_,λx hx=>?_⟩
 ·rw[hl]
  exact((List.eraseIdx_sublist _ _).map _).nodup h.1
 ·rw[hl]at hx
  exact h.2 x (List.mem_of_mem_eraseIdx hx)
section
variable{P:Program}{E:ko}{Γ:aP}{bs:bg}{ow:Nat->Option fR}{w:World}{st:ay}{a:Array Value}{β:Type}
theorem N9(h:SR P E Γ bs ow w a st){t kt et ty:TypeId}{i:Nat}{s:List (ac×β)}{g:β->PVal}{k:ac}{vm vk:Value}(hT:P.underlying t=some (.map kt et))(hkt:P.underlying kt=some .string)(hm:VR Γ bs w (.mapr i) vm)(hk:VR Γ bs w (.str k) vk)(hB:st.boxes[i]? =some (.map (bA g s))):∃w',(Builtin.delete_ #[t,kt] ty #[vm,vk]).run P w=.ok (.tuple #[]) w'/\SR P E Γ bs ow w' a {st with boxes:=st.boxes.set i (.map (bA g (xt s k)))}:=by
 cases hm with
 | mapr i b hi =>
  obtain⟨hgb,hlt,ents,clock,h1,h2,h3,h4⟩:=h.bx i b _ hi hB
  have hkd:jm .string (.str k)=true:=rfl
  have hch:=zv (P:=P) (w:=w) hkt hkd hk ents.toList.isEmpty
  have hch':(Instr.checkKey ents.isEmpty 10000 kt vk).run P w=.ok () w:=by rw[show ents.isEmpty=ents.toList.isEmpty from by simp];exact hch
  have hset:∀o,(setObj b o).run P w=.ok () {w with heap:=w.heap.setIfInBounds b o}:=by
   intro o;simp[setObj,Sem.run,h1]
  have hheap:∀o,({w with heap:=w.heap.setIfInBounds b o}:World).heap[b]? =some o:=by
   intro o;simp[hlt]
  have hother:∀o b',b'≠b->({w with heap:=w.heap.setIfInBounds b o}:World).heap[b']? =w.heap[b']?:=by
   intro o b' hb';exact vaz (λe=>hb' e.symm)
  have hle:∀o,Γ.Le w Γ ({w with heap:=w.heap.setIfInBounds b o}:World):=λo b' m hb' _=>
   ⟨m,hb',vaj _,λo' _=>bj (hother o b' (λe=>by subst e;rw[hgb]at hb';cases hb')) o'⟩
  have hbox:∀{o:Obj} {B:ax},BR Γ bs ({w with heap:=w.heap.setIfInBounds b o}:World) B b->(∀cs own,B≠.cells cs own)->
    SR P E Γ bs ow ({w with heap:=w.heap.setIfInBounds b o}:World) a {st with boxes:=st.boxes.set i B}:=λ{o B} hB hne=>
   h.box_write hi rfl rfl rfl (by simp) (hother o) hB (λb' L hL _=>hL) h.on (λcs own he=>absurd he (hne cs own))
  have hf:=tu (f:=g) k s 0
  have hfn:=pe hk hkd (bA g s) ents.toList 0 (by simp[h2]) (λj kx u x hj hx=>h3 j kx u x hj (by simpa using hx)) hf
  rw[P8]
  cases hmg:pg s k with
  |none=>
   rw[hmg]at hfn
   simp only at hfn ⊢
   refine⟨{w with heap:=w.heap.setIfInBounds b (.map ents clock)},?_,hbox ⟨_,clock,hheap _,h2,λq kx ux y hq hy=>⟨(h3 q kx ux y hq hy).1.mono (hle _) (.refl _),(h3 q kx ux y hq hy).2.mono (hle _) (.refl _)⟩,h4⟩ (by simp)⟩
   simp[Builtin.delete_,run_underlying hT,gR h1,hch',Instr.findKey,run_underlying hkt,hfn,hset]
  | some v =>
   rw[hmg]at hfn
   simp only[vaD]at hfn ⊢
   obtain⟨vv,x,k1,k2,k3,k4,k5,k6,k7⟩:=hfn
   generalize hj:(s.findIdx λe=>k==e.1)=j at *
   have hl:(ents.eraseIdxIfInBounds j).toList=ents.toList.eraseIdx j:=by simp
   refine⟨{w with heap:=w.heap.setIfInBounds b (.map (ents.eraseIdxIfInBounds j) clock)},?_,hbox ⟨_,clock,hheap _,?_,λq kx ux y hq hy=>?_,h4.erase⟩ (by simp)⟩
   ·simp[Builtin.delete_,run_underlying hT,gR h1,hch',Instr.findKey,run_underlying hkt,k1,hset]
   ·rw[<-Array.length_toList,hl,vcu,vcu,Array.length_toList,h2]
   ·rw[<-vaA,hl]at hy
    rw[List.getElem?_eraseIdx]at hq hy
    split at hq<;>rename_i hc
    ·rw[vaJ hc]at hy
     exact⟨(h3 q kx ux y hq (by simpa using hy)).1.mono (hle _) (.refl _),(h3 q kx ux y hq (by simpa using hy)).2.mono (hle _) (.refl _)⟩
    ·rw[vaM hc]at hy
     exact⟨(h3 _ kx ux y hq (by simpa using hy)).1.mono (hle _) (.refl _),(h3 _ kx ux y hq (by simpa using hy)).2.mono (hle _) (.refl _)⟩
theorem PC{GE:List (Nat×List PVal)}{m:Nat}{st0 st1 st2:ay}{A:List Nat}{ops:Array Oper}{L:List Oper}{oD:Oper}{i tM tK i2:Nat}{T kt et:TypeId}{g:β->PVal}{s:List (ac×β)}{k:ac}{cd:Code}{tys:Array TypeId}
  (hcd:cd=.region i2 ops false) (hrg:List.range ops.size=List.range L.length++[L.length]) (hp1:(List.range L.length).map (λi=>ops[i]?)=L.map some) (hp2:L.all EB=true) (hoD:ops[L.length]? =some oD) (hgD:oD.guard=none)
  (hD:oD.op=.call {callee:=.builtin .delete,args:=#[.tmp tM,.tmp tK],argTypes:=#[T,kt]}) (hDd:oD.dst=none) (hnd:ops.toList.all db=true) (hT:P.underlying T=some (.map kt et)) (hkt:P.underlying kt=some .string)
  (hpre:b8 P GE A ops (λst=>FG st st1) L st0.boxes.length st0) (htM:st1.tmps[tM]? =some (.mapr i)) (htK:st1.tmps[tK]? =some (.str k)) (hbx:st1.boxes[i]? =some (.map (bA g s)))
  (hfin:FG {st1 with boxes:=st1.boxes.set i (.map (bA g (xt s k)))} st2):cC P GE m cd (EX .normal st2) st0:=by
 intro ro E bs0 a w hE hb0 hRel
 obtain⟨rfl,hElow,hEnt,hEgl⟩:=hE
 subst hcd
 obtain⟨a,ds⟩:=a
 obtain⟨Γ,bs,ow,h,hk⟩:=hRel
 refine ew (im (Q:=λe a' w'=>e=.normal/\Jr P E bs0 ds (EX .normal st2) .normal a' w') hnd (by rintro⟨_,_,hx,_⟩;cases hx) ?_) λe a' w' hq=>by obtain⟨rfl,hq⟩:=hq;exact hq
 rw[hrg]
 refine BE (A:=A) (bs0:=bs) (λΓ1 bs1 ow1 a1 w1 stx hx hfg hX=>?_) L _ st0.boxes.length Γ bs ow a w st0 hp1 (pk hp2) h ⟨[],by simp⟩ hpre
 obtain⟨X,rfl⟩:=hX
 have hkX:LE bs0 (bs++X):=λj hj=>by
  have h1:=hk j hj
  have h2:bs0[j]? =some bs0[j]:=vaa hj
  have h3:j<bs.length:=by rw[h2]at h1;exact ah h1
  rw[vac h3];exact h1
 obtain⟨Γ2,bs2,ow2,hS1,hk2⟩:=(hfg.weak (P:=P) (m:=m)) E bs0 ⟨a1,ds⟩ w1 hb0 ⟨Γ1,bs++X,ow1,hx,hkX⟩
 simp only at hS1
 have hgetD:∀{t:Nat} {p:PVal},st1.tmps[t]? =some p->VR Γ2 bs2 w1 p ((Act.mk a1 ds).eval (.tmp t)):=λ{t p} ht=>by
  have:=hS1.opv ds (.tmp t)
  have e:opv E.GE st1.tmps (.tmp t)=p:=by show st1.tmps.getD t .undef=_;rw[vam,ht];rfl
  rw[e]at this;exact this
 obtain⟨w',r1,r2⟩:=N9 (ty:=oD.type) hS1 hT hkt (hgetD htM) (hgetD htK) hbx
 refine cm (o:=oD) hoD hgD (v:=.tuple #[]) (w':=w') (by simp[execOp,hD,resolve,invoke,builtin,r1]) ?_
 rw[hDd]
 show Exit.normal=.normal/\_
 refine⟨rfl,rfl,?_⟩
 obtain⟨Γ3,bs3,ow3,hS3,hk3⟩:=(hfin.weak (P:=P) (m:=m)) E bs0 ⟨a1,ds⟩ w' hb0 ⟨Γ2,bs2,ow2,r2,hk2⟩
 exact⟨st2,⟨Γ3,bs3,ow3,hS3,hk3⟩,rfl,rfl⟩
end
open Go Go.Proofs.Tryz
set_option maxRecDepth 100000
theorem BJ{P:Program}{GE:List (Nat×List PVal)}{A:List Nat}{ops:Array Oper}{L:List Oper}{st st0:ay}{sc:List It}{F:Prop}{n:Nat}(h:PS sc F)(he:F=Fv P GE A ops (λ_ st=>FG st st0) L 0 n sc st):b8 P GE A ops (λst=>FG st st0) L n st:=
 kZ (λst ⟨_,hx⟩=>hx) L n st (pb L 0 n sc st (Eq.mp he h))
abbrev qeQ:Nat:=50
noncomputable def RZ:Code:=f50.body.getD .skip
abbrev Tw:Code:=aC RZ [false]
abbrev Tx:Code:=aC RZ [true,false]
abbrev ME:Code:=aC RZ [true,true,false,false]
abbrev QR:Code:=aC RZ [true,true,false,true,false,false,false]
abbrev NK:Code:=aC RZ [true,true,false,true,false,false,true,true,false,false]
abbrev Vr:Code:=aC RZ [true,true,false,true,false,false,true,true,false,true]
abbrev O6:Code:=aC RZ [true,true,true,false]
abbrev Xh:Code:=aC RZ [true,true,true,true,false]
theorem Vb:RZ=.seq (.region (Hb Tw) #[cx Tw 0] false) (.seq (.region (Hb Tx) #[cx Tx 0] false) (.seq (.seq (.region (Hb ME) #[cx ME 0,cx ME 1] false)
  (.block 0 (.loop (.seq (.region (Hb QR) #[cx QR 0,cx QR 1] false) (.seq (.cond (.tmp 8) .skip (.exit 0)) (.block 1 (.seq (.region (Hb NK) #[cx NK 0,cx NK 1,cx NK 2] false) Vr)))))))
  (.seq (.region (Hb O6) #[cx O6 0,cx O6 1] false) (.seq Xh .ret)))):=by kernel_rfl
abbrev dS(iv:PVal)(l:List ac):ay:=aM 18 [(3,sl cS l),(6,iv)] [] [((3,0),eS)]
theorem qbZ(iv:Value)(l:List ac)(k:ac)(h:l.length+1<=bF):cC Pg GE 1000 Vr (EX .normal (dS (.val iv) (l++[k]))) {dS (.val iv) l with tmps:=(dS (.val iv) l).tmps.set 4 (.str k)}:=by
 have bl:app l [k]=some (l++[k]):=by unfold app;rw[vaJ (by simpa using h)]
 have z:=sv (cz.mk' (v:=PVal.str) VC ([k]:List ac) 1 (by kernel_rfl))<|sv (cz.ap bl)<|eF .normal (dS (.val iv) (l++[k]))
 exact dX (A:=[11]) mixed z (by kernel_rfl)
theorem qb0(l:List ac)(h:l.length<=bF):cC Pg GE 0 (.region (Hb O6) #[cx O6 0,cx O6 1] false) (EX .normal (dL 18 3 (iK l) eS)) (dL 18 3 l eS):=
 cC.inplace (t:=3) (d1:=15) (d2:=16) (tys:=LD (cx O6 1)) Jo Vo h (by kernel_rfl) (by kernel_rfl) (by kernel_rfl) (by kernel_rfl) (by kernel_rfl) (by kernel_rfl) (by decide) (.inl ⟨rfl,iz l⟩)
abbrev qdb(l:List ac):ay:=aM 18 [(2,sl cS l)] [] [((2,0),eS)]
theorem qb1(l:List ac):cC Pg GE 0 (.seq Xh .ret) (EX .ret (qdb l)) (dL 18 3 l eS):=by
 have z:=eF .ret (qdb l)
 exact dX (A:=[17]) mixed z (by kernel_rfl)
theorem Xi:Pg.underlying 84=some (.map 9 4):=by kernel_rfl
theorem Hn(f:ac->List ac->Option (List ac)):∀(l:List ac) (s r:List ac),(∀k s s',f k s=some s'->s'=s++[k])->nY f l s=some r->r=s++l
 |[],s,r,_,h=>by simp[nY]at h;simp[h]
 |k::l,s,r,hf,h=>by
  simp only[nY]at h
  obtain⟨s',h1,h2⟩:=KZ h
  have:=Hn f l s' r hf h2
  rw[this,hf k s s' h1];simp
theorem xl{m:List (ac×Bool)}{r:List ac}(h:pp m=some r):C Pg GE qeQ [.mapr 0] [] [.map (bA PVal.bool m)] (sl cS r) [(0,eS)] [.map (bA PVal.bool m)]:=by
 rcases OB h with⟨hl,h⟩|⟨_,h⟩
 rotate_left
 ·cases h
 obtain rfl:=lf h
 have hlen:m.length<=bF:=by simpa using hl
 refine⟨call50,λΓ bs ow w vs hS=>calls_of_wp func50 (c:=RZ) rfl ?_⟩
 obtain⟨v,rfl⟩:∃v,vs=#[v]:=vbz.1 hS.sz
 have hvr:VR Γ bs w (.mapr 0) v:=hS.tm 0 _ _ rfl rfl
 obtain⟨bm,rfl,hb1⟩:∃bm,v=.map (some bm)/\bs[0]? =some (some bm):=by cases hvr with|mapr _ bm hbm=>exact⟨bm,rfl,hbm⟩
 obtain⟨_,hbml,es,clock,hmap,hsz,hent,hborn⟩:=hS.bx 0 bm _ hb1 rfl
 have hrg:=run_range_map (P:=Pg) w 84 9 4 bm es clock Xi hmap
 have hB:qk GE Γ w:=hS.base
 have hE:mj GE 0 (oW GE Γ w):=hB.good
 have hkey:∀(j:Nat) (x:MapEntry),es[j]? =some x->∃s u,m[j]? =some (s,u)/\x.key=.string ⟨s.toArray⟩:=λj x hx=>by
  have hj:j<m.length:=by have:=(vab.1 hx).1;rw[hsz]at this;simpa[bA]using this
  obtain⟨h1,_⟩:=hent j (.str m[j].1) (.bool m[j].2) x (by simp[bA,hj]) hx
  refine⟨m[j].1,m[j].2,by simp[hj],?_⟩
  generalize x.key=k at h1
  cases h1;rfl
 have hk:∀y∈es.toList,y.key=.string ⟨(fT y).toArray⟩:=λy hy=>by
  obtain⟨j,hj⟩:=vaW.1 hy
  obtain⟨s,u,_,h2⟩:=hkey j y (by simpa using hj)
  unfold fT
  rw[h2]
 have hks:es.toList.map fT=m.map λe=>e.1:=by
  refine vaL λj=>?_
  simp only[vah,vaA]
  cases hj:es[j]? with
  |none=>
   have h1:m.length<=j:=by have:=vbj.1 hj;rw[hsz]at this;simpa[bA]using this
   simp[h1]
  |some x=>
   obtain⟨s,u,h1,h2⟩:=hkey j x hj
   simp[h1,fT,h2]
 have hn:f50.ntmps=18:=by kernel_rfl
 refine(λ(key:∀A0:Act,A0.tmps.size=18->A0.tmps[0]? =some (.map (some bm))->A0.defers=[]->RZ.wp Pg _ A0 w)=>key _ ?_ ?_ rfl) ?_
 ·rw[hn];simp
 ·rw[hn];simp
 rintro⟨a0,ds0⟩ z0 z1 z2
 simp only at z0 z1 z2
 subst z2
 rw[Vb]
 have d00:(cx Tw 0).dst=some 2:=by kernel_rfl
 have d10:(cx Tx 0).dst=some 3:=by kernel_rfl
 have o20:(cx ME 0).op=.move (.tmp 0):=by kernel_rfl
 have d20:(cx ME 0).dst=some 5:=by kernel_rfl
 have o21:(cx ME 1).op=.range 84 (.tmp 5):=by kernel_rfl
 have d21:(cx ME 1).dst=some 6:=by kernel_rfl
 refine wp_seq (uo (cm (o:=cx Tw 0) (by kernel_rfl) (by kernel_rfl) (v:=.slice none 0 0) (w':=w) (by kernel_rfl) ?_))
 rw[d00,qH]
 show Code.wp Pg _ _ _ w
 refine wp_seq (uo (cm (o:=cx Tx 0) (by kernel_rfl) (by kernel_rfl) (v:=.slice none 0 0) (w':=w) (by kernel_rfl) ?_))
 rw[d10,qH]
 show Code.wp Pg _ _ _ w
 refine wp_seq (wp_seq (uo (cm (o:=cx ME 0) (by kernel_rfl) (by kernel_rfl) (v:=.map (some bm)) (w':=w) ?_ ?_)))
 ·have:(Act.mk ((a0.setIfInBounds 2 (.slice none 0 0)).setIfInBounds 3 (.slice none 0 0)) []).eval (.tmp 0)=.map (some bm):=aV (by simp only[vaR];exact z1)
  simp[execOp,o20,this]
 rw[d20,qH]
 refine cm (o:=cx ME 1) (by kernel_rfl) (by kernel_rfl) (v:=AJ w.heap.size) (w':=w.alloc (.mapIter (some bm) clock #[] clock)) ?_ ?_
 ·have:(Act.mk (((a0.setIfInBounds 2 (.slice none 0 0)).setIfInBounds 3 (.slice none 0 0)).setIfInBounds 5 (.map (some bm))) []).eval (.tmp 5)=.map (some bm):=xm (by simp;omega)
  simp[execOp,o21,this,hrg]
 rw[d21,qH]
 generalize hA1:(((a0.setIfInBounds 2 (.slice none 0 0)).setIfInBounds 3 (.slice none 0 0)).setIfInBounds 5 (.map (some bm))).setIfInBounds 6 (AJ w.heap.size)=A1
 have y0:A1.size=18:=by rw[<-hA1];simp[z0]
 have y3:A1[3]? =some (.slice none 0 0):=by rw[<-hA1];simp[vaR,z0]
 have y6:A1[6]? =some (AJ w.heap.size):=by rw[<-hA1];simp[z0]
 clear hA1
 have h0:SR Pg (oW GE Γ w) Γ [] (λ_=>none) w A1 ⟨(dS (.val (AJ w.heap.size)) []).tmps,[],[]⟩:=by
  refine hB.fresh 0 y0 λt p v hp hv=>?_
  by_cases h3:t=3
  ·subst h3
   rw[y3]at hv
   cases hp;cases hv
   exact .sliceNil
  ·by_cases h6:t=6
   ·subst h6
    rw[y6]at hv
    cases hp;cases hv
    exact .val _
   ·have:p=.undef:=by
     have ht:t<18:=ah hp
     clear hv
     rcases(show t=0\/t=1\/t=2\/t=4\/t=5\/t=7\/t=8\/t=9\/t=10\/t=11\/t=12\/t=13\/t=14\/t=15\/t=16\/t=17 by omega)with h|h|h|h|h|h|h|h|h|h|h|h|h|h|h|h<;>subst h<;>cases hp<;>rfl
    rw[this]
    exact .undef v
 have h1:SR Pg (oW GE Γ w) Γ [] (λ_=>none) w A1 (dS (.val (AJ w.heap.size)) []):={h0 with
  ot:=λt k e he=>by
   simp[dS]at he
   obtain⟨⟨rfl,rfl⟩,rfl⟩:=he
   exact⟨_,_,y3,rfl,⟨0,[],World.ownsRow_nil _ _ _ _,λb hb=>by simp[Value.ownBlock]at hb⟩,λb hb=>by simp[Value.ownBlock]at hb⟩
  ob:=λi j e cs own b hB=>by simp[dS]at hB}
 obtain⟨h2,hle2⟩:=h1.allocO (.mapIter (some bm) clock #[] clock)
 have hnt:∀b,¬aR [] (λ_=>(none:Option fR)) b:=λb hb=>hb.elim (λ⟨i,hi⟩=>by simp at hi) (λhx=>hx rfl)
 have hfa:Ml (λk (s:List ac)=>if s.length<bF then some (s++[k])else none) (es.toList.map fT) []:=λl k ⟨r,hr⟩ s' hs=>by
  have h1:=Hn _ l [] s' (λk s s' h=>by split at h<;>simp at h;exact h.symm) hs
  have h2:=hr.length_eq
  rw[hks]at h2
  simp at h1 h2
  subst h1
  exact⟨_,vaJ (by omega)⟩
 have hlp:=Ky (P:=Pg) (E:=oW GE Γ w) (ro:=none) (ti:=6) (d1:=7) (d2:=8) (e1:=9) (e2:=10) (S:=λl=>dS (.val (AJ w.heap.size)) l) (s0:=[]) (mB:=1000) (kx:=4) (ds:=[]) (i3:=Hb QR) (i4:=Hb NK) (b0:=0) (b1:=1) (o10:=cx QR 0) (o11:=cx QR 1) (o12:=cx NK 0) (o13:=cx NK 1) (o4:=cx NK 2) (c5:=Vr)
  (World.alloc_heap_new w _) ((alloc_old w _ hbml).trans hmap) hborn (vaj _) (hnt _) (hnt _) (by omega) h2 (by decide) (vaj _) hk (λs=>rfl) (λs=>⟨rfl,rfl,vaB rfl⟩) (λs=>⟨rfl,rfl,vaB rfl⟩) (λs=>⟨rfl,rfl,vaB rfl⟩) (λs=>⟨rfl,rfl,vaB rfl⟩) (λs=>rfl) (by decide) hfa
  (λs k s' hs=>by
   split at hs<;>simp at hs
   subst hs
   exact qbZ _ s k (by omega))
  (by kernel_rfl) (by kernel_rfl) (by kernel_rfl) (by kernel_rfl) (by kernel_rfl) (by kernel_rfl) (by kernel_rfl) (by kernel_rfl) (by kernel_rfl) (by kernel_rfl) (by kernel_rfl) (by kernel_rfl) (by kernel_rfl) (by kernel_rfl) (by kernel_rfl)
 show Code.wp Pg _ _ _ _
 refine wp_block (wp_mono hlp λq A2 w2 hq=>?_)
 obtain⟨rfl,hd2,l,s,Γ2,bs2,ow2,hperm,hfs,hS2,_,hle,_,_⟩:=hq
 have hls:=Hn _ l [] s (λk s s' h=>by split at h<;>simp at h;exact h.symm) hfs
 simp at hls
 subst hls
 show Code.wp Pg _ _ A2 w2
 obtain rfl:bs2=[]:=vag hS2.bl
 have hS2:SR Pg (oW GE Γ w) Γ2 [] ow2 w2 A2.tmps (dL 18 3 s eS):=hS2.forgetT (tm:=(dL 18 3 s eS).tmps) rfl
 have hvl:s.length<=bF:=by rw[hperm.length_eq,hks];simpa using hlen
 have hwp6:=qb0 s hvl none (oW GE Γ w) [] A2 w2 hE rfl ⟨Γ2,[],ow2,hS2,λi hi=>absurd hi (vaw _)⟩
 refine wp_seq (wp_mono hwp6 λq A3 w3 hq=>?_)
 obtain⟨hd3,st3,⟨Γ3,bs3,ow3,hS3,_⟩,rfl,rfl⟩:=hq
 show Code.wp Pg _ _ A3 w3
 have hwp7:=qb1 (iK s) none (oW GE Γ w) [] A3 w3 hE rfl ⟨Γ3,bs3,ow3,hS3,λi hi=>absurd hi (vaw _)⟩
 refine wp_mono hwp7 λq A4 w4 hq=>?_
 obtain⟨hd4,st4,⟨Γ4,bs4,ow4,hS4,_⟩,rfl,rfl⟩:=hq
 have hsort:iK s=rb (m.map λe=>e.1):=by
  rw[<-FE]
  refine ua (gd _) (gd _) (((jO _).trans ?_).trans (jO _).symm)
  rw[<-hks]
  exact hperm
 rw[hsort]at hS4
 obtain⟨vr,e1,e2,e3⟩:=j5 hS4 (fn:=f50) (r:=sl cS (rb (m.map λe=>e.1))) (by kernel_rfl)
 have hf:=hS4.finish (H':=[]) (src:=cJ f50.results.toList) (ro:=[(0,eS)]) e2 (ak eU _) trivial (λx hx=>by
  simp only[va5]at hx
  subst hx
  exact⟨va5.2 rfl,λu v'=>e3 0 u v' vzz⟩) (λx hx y hy _=>by
  simp only[va5]at hx hy
  rw[hx,hy])
 have hbs4:bs4.take (List.length ([]:List ax))=[]:=by simp
 rw[hbs4]at hf
 refine⟨((hd4.trans hd3).trans hd2:A4.defers=[]),vr,e1,vr,Γ4,Ik 0 (s8 (cJ f50.results.toList) [(0,eS)] ow4) ow,rfl,?_⟩
 have hT:∀b,¬(oW GE Γ w).T b:=λb hb=>hb
 have hw:=hS.aside hf
 have hr:VR Γ4 bs w4 (sl cS (rb (m.map λe=>e.1))) vr:=e2.clo (ak eU _)
 have:=hw.setResult (d:=0) (ro:=[(0,eS)]) (by simp) hr (owC:=s8 (cJ f50.results.toList) [(0,eS)] ow4) (λk e hm=>?_) (λb t k hb=>?_)
 ·exact this
 ·obtain⟨u,v',h1,h2,h3,h4⟩:=hf.ot 0 k e (vak.2 ⟨(k,e),hm,rfl⟩)
  simp at h1;subst h1
  exact⟨v',h2,h3,h4⟩
 ·obtain⟨k1,k2⟩:=hf.on b _ hb
  have hge:w.heap.size<=b:=k2.resolve_left (hT b)
  refine⟨?_,k1,.inr (vay hS.step.size hge)⟩
  cases hL:ow b with
  |none=>rfl
  |some L=>have:=(hS.on b L hL).1;omega
def Ul(a b:List (ac×Bool)):Option (List (ac×Bool)):=some ((a.map (·.1)).foldl xt b)
theorem LS:∀(l:List ac) (s:List (ac×Bool)),nY (λk s=>some (xt s k)) l s=some (l.foldl xt s)
 |[],s=>rfl
 |k::l,s=>by simp only[nY,vbc];exact LS l (xt s k)
noncomputable def qeL:Code:=f29.body.getD .skip
abbrev VW:Code:=aC qeL [true,true,true,true,false]
abbrev VV:Code:=aC VW [false]
abbrev VX:Code:=aC VW [true,false,false,false]
abbrev Uc:Code:=aC VW [true,false,false,true,true,false,false]
abbrev Vm:Code:=aC VW [true,false,false,true,true,false,true]
theorem Vn:VW=.seq (.region (Nt VV) (gf VV) false) (.block 4 (.loop (.seq (.region (Nt VX) #[AL VX 0,AL VX 1] false) (.seq (.cond (.tmp 74) .skip (.exit 4)) (.block 5 (.seq (.region (Nt Uc) #[AL Uc 0,AL Uc 1,AL Uc 2] false) Vm)))))):=by kernel_rfl
abbrev Ue(p6 iv:PVal)(B:ax)(x:List (ac×Bool)):ay:=aM 83 [(6,p6),(7,.mapr 2),(72,iv)] [.dead,B,.map (bA PVal.bool x)] []
abbrev qda(a x:List (ac×Bool)):ay:=aM 83 [(6,.mapr 1),(7,.mapr 2),(71,.mapr 1)] [.dead,.map (bA PVal.bool a),.map (bA PVal.bool x)] []
theorem Ud:Pg.underlying 84=some (.map 9 4):=by kernel_rfl
theorem Xg:Pg.underlying 9=some .string:=by kernel_rfl
theorem VA{i n:Nat}:∀{l:List (Nat×PVal)} {k:Nat},(∀x∈l,x.2.no i)->L4 i (tm n k l)
 |[],k,_=>by
  unfold tm
  generalize n - k=j
  induction j with
  |zero=>trivial
  |succ j ih=>rw[List.replicate_succ];exact⟨vzz,ih⟩
 |x::l,k,h=>by
  have ih:=VA (i:=i) (n:=n) (l:=l) (k:=x.1+1) λy hy=>h y (vaO _ hy)
  unfold tm
  have hx:=h x (by simp)
  generalize x.1 - k=j
  induction j with
  |zero=>exact⟨hx,ih⟩
  |succ j ihj=>rw[List.replicate_succ,va1];exact⟨vzz,ihj⟩
theorem Tu(iv mv:Value)(s:List (ac×Bool))(k:ac):cC Pg GE 1003 Vm (EX .normal (Ue (.val mv) (.val iv) .dead (xt s k))) {Ue (.val mv) (.val iv) .dead s with tmps:=(Ue (.val mv) (.val iv) .dead s).tmps.set 16 (.str k)}:=by
 refine PC (A:=[]) (g:=PVal.bool) (s:=s) (k:=k) (i:=2) (tM:=77) (tK:=78) (i2:=Nt Vm) (ops:=gf Vm) (L:=(gf Vm).toList.take 2) (oD:=AL Vm 2) (T:=84) (kt:=9) (et:=4) (tys:=#[84,9])
  (st1:=aM 83 [(6,.val mv),(7,.mapr 2),(72,.val iv),(77,.mapr 2),(78,.str k)] [.dead,.dead,.map (bA PVal.bool s)] []) (by kernel_rfl) (by kernel_rfl) (by kernel_rfl) (by kernel_rfl) (by kernel_rfl) (by kernel_rfl) (by kernel_rfl) (by kernel_rfl) (by kernel_rfl) Ud Xg ?_ rfl rfl rfl ?_
 ·have z:=en (fr (aM 83 [(6,.val mv),(7,.mapr 2),(72,.val iv),(77,.mapr 2),(78,.str k)] [.dead,.dead,.map (bA PVal.bool s)] []))
  exact BJ z (by kernel_rfl)
 ·exact⟨rfl,rfl,rfl⟩
theorem R9{a b y:List (ac×Bool)}(h:Ul a b=some y):cC Pg GE 0 VW (EX .normal (Ue (.mapr 1) .undef (.map (bA PVal.bool a)) y)) (Ue (.mapr 1) .undef (.map (bA PVal.bool a)) b):=by
 have hs:=Md (P:=Pg) (GE:=GE) (m:=0) (f:=λk s=>some (xt s k)) (S:=λiv mv s=>Ue mv iv .dead s) (F:=λs=>Ue (.mapr 1) .undef (.map (bA PVal.bool a)) s) (s0:=b) (st0:=Ue (.mapr 1) .undef (.map (bA PVal.bool a)) b) (st1:=qda a b) (g:=PVal.bool) (ma:=a) (A:=[])
  (ops:=gf VV) (L:=(gf VV).toList.take 1) (oR:=AL VV 1) (K:=[6]) (i:=1) (tR:=71) (ti:=72) (d1:=73) (d2:=74) (e1:=75) (e2:=76) (kx:=16) (i2:=Nt VV) (i3:=Nt VX) (i4:=Nt Uc) (b0:=4) (b1:=5) (T:=84) (kt:=9) (et:=4) (c5:=Vm) (o10:=AL VX 0) (o11:=AL VX 1) (o12:=AL Uc 0) (o13:=AL Uc 1) (o4:=AL Uc 2)
  Vn (by kernel_rfl) (by kernel_rfl) (by kernel_rfl) (by kernel_rfl) (by kernel_rfl) (by kernel_rfl) (by kernel_rfl) (by kernel_rfl) Ud (BJ (en (fr (qda a b))) (by kernel_rfl)) rfl rfl (λt ht=>by simp at ht;subst ht;rfl)
  (λp hp=>(VA (i:=1) (n:=83) (l:=[(6,p),(7,.mapr 2)]) (k:=0) λx hx=>by
   simp at hx
   rcases hx with rfl|rfl
   ·exact hp
   ·simp[PVal.no]))
  (λj B hj hB=>by
   match j,hB with
   |0,hB=>cases hB;trivial
   |1,hB=>exact absurd rfl hj
   |2,hB=>
    cases hB
    intro x hx
    obtain⟨y,_,rfl⟩:=vak.1 hx
    exact⟨vzz,vzz⟩
   |j+3,hB=>cases hB)
  (λx=>trivial) ⟨rfl,rfl,vaB rfl⟩ (λiv mv=>rfl)
  (λiv mv s=>⟨rfl,rfl,⟨rfl,rfl,vaB rfl⟩,⟨rfl,rfl,vaB rfl⟩,⟨rfl,rfl,vaB rfl⟩,⟨rfl,rfl,vaB rfl⟩,rfl,λt ht=>by simp at ht;subst ht;rfl⟩)
  (λiv mv s=>⟨rfl,rfl,rfl⟩) (by decide) (vaB rfl) (vaB rfl) (λl k _ s' _=>⟨_,rfl⟩) (λiv mv s k s' hs=>by cases hs;exact Tu iv mv s k)
  (by kernel_rfl) (by kernel_rfl) (by kernel_rfl) (by kernel_rfl) (by kernel_rfl) (by kernel_rfl) (by kernel_rfl) (by kernel_rfl) (by kernel_rfl) (by kernel_rfl) (by kernel_rfl) (by kernel_rfl) (by kernel_rfl) (by kernel_rfl) (by kernel_rfl)
 refine hs.imp λe st' hx=>?_
 obtain⟨rfl,l,s,hp,hf,rfl⟩:=hx
 refine⟨rfl,?_⟩
 rw[LS]at hf
 cases hf
 cases h
 rw[hp.foldl_eq' (λx _ y _ z=>L3 x y z)]
def Uj(m:aw)(name k:ac):Bool:=k !=name&&(((f7 m k).map λr=>(pg r name).getD false).getD false)
def Fq(m:aw)(name:ac):Option (List ac):=(f7 m name).bind λR=>
 if((R.all λe=>!(e.1 !=name)||(f7 m e.1).isSome)&&decide (R.length+1<=bF))=true then some (rb (name::(R.map λe=>e.1).filter (Uj m name)))else none
abbrev qeR:Nat:=48
noncomputable def Vc:Code:=f48.body.getD .skip
abbrev Xk:Code:=aC Vc [false]
abbrev Xl:Code:=aC Vc [true,false]
abbrev Vs:Code:=aC Vc [true,true,false]
abbrev V0:Code:=aC Vs [false]
abbrev V1:Code:=aC Vs [true,false,false,false]
abbrev Ui:Code:=aC Vs [true,false,false,true,true,false,false]
abbrev qb3:Code:=aC Vs [true,false,false,true,true,false,true]
abbrev Pe:Code:=aC Vc [true,true,true,false]
abbrev Vv:Code:=aC Vc [true,true,true,true,false]
theorem Vd:Vc=.seq Xk (.seq Xl (.seq Vs (.seq (.region (Hb Pe) #[cx Pe 0,cx Pe 1] false) (.seq Vv .ret)))):=by kernel_rfl
theorem Vt:Vs=.seq (.region (Nt V0) (gf V0) false) (.block 0 (.loop (.seq (.region (Nt V1) #[AL V1 0,AL V1 1] false) (.seq (.cond (.tmp 14) .skip (.exit 0)) (.block 1 (.seq (.region (Nt Ui) #[AL Ui 0,AL Ui 1,AL Ui 2] false) qb3)))))):=by kernel_rfl
theorem Xn:Pg.underlying 84=some (.map 9 4):=by kernel_rfl
abbrev Xm(m:aw)(name:ac)(iv:PVal)(l:List ac):ay:=aM 34 [(1,.str name),(2,.eptr (aq m)),(5,sl cS l),(12,iv)] [.dead,.dead,.dead] [((5,0),eS)]
abbrev qdk(m:aw)(name:ac)(R:List (ac×Bool))(l:List ac):ay:=aM 34 [(1,.str name),(2,.eptr (aq m)),(5,sl cS l)] [.dead,.dead,.map (bA PVal.bool R)] [((5,0),eS)]
abbrev qb2(m:aw)(name:ac):ay:=aM 34 [(1,.str name),(2,.eptr (aq m))] [.dead] []
abbrev X2(m:aw)(name:ac):ay:=aM 34 [(1,.str name),(2,.eptr (aq m)),(5,sl cS [name])] [.dead] [((5,0),eS)]
abbrev qdj(m:aw)(name:ac)(R:List (ac×Bool)):ay:=aM 34 [(1,.str name),(2,.eptr (aq m)),(5,sl cS [name]),(11,.mapr 2)] [.dead,.dead,.map (bA PVal.bool R)] [((5,0),eS)]
def Vu(m:aw)(name k:ac)(l:List ac):Option (List ac):=
 if(k !=name)=true then(f7 m k).bind λr=>if((pg r name).getD false)=true then app l [k]else some l else some l
theorem qb4(m:aw)(name:ac):cC Pg GE 0 Xk (EX .normal (qb2 m name)) (aM 34 [(0,.agg (aq m)),(1,.str name)] [] []):=by
 have z:=se (dM m)<|eF .normal (qb2 m name)
 exact dX (A:=[]) mixed z (by kernel_rfl)
theorem qb5(m:aw)(name:ac):cC Pg GE 0 Xl (EX .normal (X2 m name)) (qb2 m name):=by
 have z:=sv (cz.mk' (v:=PVal.str) VC ([name]:List ac) 1 (by kernel_rfl))<|eF .normal (X2 m name)
 exact dX (A:=[]) mixed z (by kernel_rfl)
theorem TC(m:aw)(name:ac)(iv:Value)(s s':List ac)(k:ac)(h:Vu m name k s=some s'):cC Pg GE 1003 qb3 (EX .normal (Xm m name (.val iv) s')) {Xm m name (.val iv) s with tmps:=(Xm m name (.val iv) s).tmps.set 6 (.str k)}:=by
 have fin:=λl=>qdc 1003 .normal (Xm m name (.val iv) l) rfl (bk (aI vzz (aI (cT (bQ m)) (aI (up (ak eU l)) (aI vzz vzz))))) (aI vzz (aI vzz (aI vzz vzz)))
 unfold Vu at h
 rcases OB h with⟨c1,h⟩|⟨c1,h⟩
 ·obtain⟨r,hr,h⟩:=KZ h
  rcases OB h with⟨c2,h⟩|⟨c2,h⟩
  ·have z:=sg 4 c1<|sv (bN m)<|si (.cn ⟨[3,4],[],[],[],[],[.dead,.map (bA PVal.bool r)],[.dead,.map (bA PVal.bool r)],.mapr 4,.mapr 1,[]⟩) (qo r hr)<|sf (aI (bQ m) (aI vzz vzz))<|sf (aI vzz (aI (aI (rM (bA PVal.bool r)) (Hh (n:=0) PVal.bool (λx=>trivial) r)) trivial))<|sf (xM [3,4] 1 4 rfl)<|
    sv (Hu (f:=PVal.bool) underlying84 underlying9 V7 r name)<|sg 0 c2<|sv (cz.mk' (v:=PVal.str) VC ([k]:List ac) 1 (by kernel_rfl))<|sv (cz.ap h)<|fin s'
   exact Jn (A:=[27]) mixed z (by kernel_rfl)
  ·obtain rfl:=lf h
   have z:=sg 4 c1<|sv (bN m)<|si (.cn ⟨[3,4],[],[],[],[],[.dead,.map (bA PVal.bool r)],[.dead,.map (bA PVal.bool r)],.mapr 4,.mapr 1,[]⟩) (qo r hr)<|sf (aI (bQ m) (aI vzz vzz))<|sf (aI vzz (aI (aI (rM (bA PVal.bool r)) (Hh (n:=0) PVal.bool (λx=>trivial) r)) trivial))<|sf (xM [3,4] 1 4 rfl)<|
    sv (Hu (f:=PVal.bool) underlying84 underlying9 V7 r name)<|sg 0 c2<|fin s
   exact Jn (A:=[27]) mixed z (by kernel_rfl)
 ·obtain rfl:=lf h
  have z:=sg 4 c1<|sg 0 (show(false:Bool)=false from rfl)<|fin s
  exact Jn (A:=[27]) mixed z (by kernel_rfl)
theorem yM{f:ac->List ac->Option (List ac)}{p:ac->Bool}(hf:∀k s s',f k s=some s'->s'=s++[k].filter p):∀(l:List ac) (s r:List ac),nY f l s=some r->r=s++l.filter p
 |[],s,r,h=>by simp[nY]at h;simp[h]
 |k::l,s,r,h=>by
  simp only[nY]at h
  obtain⟨s',h1,h2⟩:=KZ h
  have:=yM hf l s' r h2
  rw[this,hf k s s' h1,vbT,<-List.filter_append];rfl
theorem Sj{m:aw}{name k:ac}{s s':List ac}(h:Vu m name k s=some s'):s'=s++[k].filter (Uj m name):=by
 unfold Vu at h
 rcases OB h with⟨c1,h⟩|⟨c1,h⟩
 ·obtain⟨r,hr,h⟩:=KZ h
  rcases OB h with⟨c2,h⟩|⟨c2,h⟩
  ·unfold app at h
   split at h
   ·cases h
    simp[Uj,c1,hr,c2]
   ·cases h
  ·obtain rfl:=lf h
   simp[Uj,hr,c2]
 ·obtain rfl:=lf h
  simp[Uj,c1]
theorem qb8{m:aw}{name:ac}{R:List (ac×Bool)}(hR:f7 m name=some R)(hall:∀e∈R,(e.1 !=name)=true->∃r,f7 m e.1=some r)(hlen:R.length+1<=bF):cC Pg GE 0 Vs (λe st'=>e=.normal/\∃(l:List ac) (s:List ac),l.Perm (R.map (·.1))/\nY (Vu m name) l [name]=some s/\st'=qdk m name R s) (X2 m name):=by
 refine Md (P:=Pg) (GE:=GE) (m:=0) (f:=Vu m name) (S:=λiv mv s=>Xm m name iv s) (F:=λs=>qdk m name R s) (s0:=[name]) (st0:=X2 m name) (st1:=qdj m name R) (g:=PVal.bool) (ma:=R) (A:=[])
  (ops:=gf V0) (L:=(gf V0).toList.take 3) (oR:=AL V0 3) (K:=[]) (i:=2) (tR:=11) (ti:=12) (d1:=13) (d2:=14) (e1:=15) (e2:=16) (kx:=6) (i2:=Nt V0) (i3:=Nt V1) (i4:=Nt Ui) (b0:=0) (b1:=1) (T:=84) (kt:=9) (et:=4) (c5:=qb3) (o10:=AL V1 0) (o11:=AL V1 1) (o12:=AL Ui 0) (o13:=AL Ui 1) (o4:=AL Ui 2)
  Vt (by kernel_rfl) (by kernel_rfl) (by kernel_rfl) (by kernel_rfl) (by kernel_rfl) (by kernel_rfl) (by kernel_rfl) (by kernel_rfl) Xn ?_ rfl rfl (λt ht=>by simp at ht)
  (λp hp=>VA (i:=2) (n:=34) (l:=[(1,.str name),(2,.eptr (aq m)),(5,sl cS [name])]) (k:=0) λx hx=>by
   simp at hx
   rcases hx with rfl|rfl|rfl
   ·exact BD 2 _ vzz
   ·exact BD 2 _ (show eP 0 (aq m)from bQ m)
   ·exact BD 2 _ (ak eU _))
  (λj B hj hB=>by
   match j,hB with
   |0,hB=>cases hB;trivial
   |1,hB=>cases hB;trivial
   |2,hB=>exact absurd rfl hj
   |j+3,hB=>cases hB)
  (λx=>trivial) ⟨rfl,rfl,vaB rfl⟩ (λiv mv=>rfl)
  (λiv mv s=>⟨rfl,rfl,⟨rfl,rfl,vaB rfl⟩,⟨rfl,rfl,vaB rfl⟩,⟨rfl,rfl,vaB rfl⟩,⟨rfl,rfl,vaB rfl⟩,rfl,λt ht=>by simp at ht⟩)
  (λiv mv s=>⟨rfl,rfl,rfl⟩) (by decide) (vaB rfl) (vaB rfl) (λl k hlk s hs=>?_) (λiv mv s k s' hs=>TC m name iv s s' k hs)
  (by kernel_rfl) (by kernel_rfl) (by kernel_rfl) (by kernel_rfl) (by kernel_rfl) (by kernel_rfl) (by kernel_rfl) (by kernel_rfl) (by kernel_rfl) (by kernel_rfl) (by kernel_rfl) (by kernel_rfl) (by kernel_rfl) (by kernel_rfl) (by kernel_rfl)
 ·have z:=sv (bN m)<|si (.cn ⟨[1,2],[],[],[],[],[.dead,.map (bA PVal.bool R)],[.dead,.map (bA PVal.bool R)],.mapr 2,.mapr 1,[]⟩) (qo R hR)<|sf (aI (bQ m) (aI vzz vzz))<|sf (aI vzz (aI (aI (rM (bA PVal.bool R)) (Hh (n:=0) PVal.bool (λx=>trivial) R)) trivial))<|sf (xM [1,2] 1 2 rfl)<|en (fr (qdj m name R))
  exact BJ z (by kernel_rfl)
 ·obtain⟨r,hp⟩:=hlk
  have h1:=yM (λk s s' h=>Sj h) l [name] s hs
  have h2:=hp.length_eq
  have h3:s.length<=1+l.length:=by have h9:=vbp (Uj m name) l;rw[h1];simp;omega
  have hmem:k∈R.map (·.1):=hp.subset (by simp)
  obtain⟨e,he,rfl⟩:=vak.1 hmem
  simp at h2
  unfold Vu
  by_cases c1:(e.1 !=name)=true
  ·obtain⟨q,hq⟩:=hall e he c1
   rw[vaJ c1,hq]
   by_cases c2:((pg q name).getD false)=true
   ·exact⟨s++[e.1],by simp only[vbc];rw[vaJ c2];unfold app;rw[vaJ (by simp;omega)]⟩
   ·exact⟨s,by simp only[vbc];rw[vaM c2]⟩
  ·exact⟨s,by rw[vaM c1]⟩
theorem qb6(l:List ac)(h:l.length<=bF):cC Pg GE 0 (.region (Hb Pe) #[cx Pe 0,cx Pe 1] false) (EX .normal (dL 34 5 (iK l) eS)) (dL 34 5 l eS):=
 cC.inplace (t:=5) (d1:=31) (d2:=32) (tys:=LD (cx Pe 1)) Jo Vo h (by kernel_rfl) (by kernel_rfl) (by kernel_rfl) (by kernel_rfl) (by kernel_rfl) (by kernel_rfl) (by decide) (.inl ⟨rfl,iz l⟩)
theorem qb7(l:List ac):cC Pg GE 0 (.seq Vv .ret) (Qj Pg f48.results.toList (sl cS l) [(0,eS)]) (dL 34 5 l eS):=by
 have z:PS [] ((sl cS l=sl cS l/\(sl cS l).cl 0)):=⟨rfl,ak eU l⟩
 refine(fu (A:=[33]) mixed (.seq Vv .ret) [] (dL 34 5 l eS) (FR Pg f48.results.toList (sl cS l) [(0,eS)]) (Eq.mp (by kernel_rfl) z)).imp λe st hx=>?_
 obtain⟨sc',hx⟩:=hx
 exact hx.to
theorem IQ{m:aw}{name:ac}{r:List ac}(h:Fq m name=some r):CC Pg GE qeR [.agg (aq m),.str name] (sl cS r) [(0,eS)]:=by
 obtain⟨R,hR,h⟩:=KZ h
 rcases OB h with⟨c1,h⟩|⟨_,h⟩
 rotate_left
 ·cases h
 obtain rfl:=lf h
 rw[vaf,vap,vaq]at c1
 obtain⟨c1,c2⟩:=c1
 have hall:∀e∈R,(e.1 !=name)=true->∃r,f7 m e.1=some r:=λe he hn=>by
  have:=c1 e he
  rw[hn]at this
  exact vaF.1 (by simpa using this)
 refine⟨aI (bQ m) (aI vzz vzz),C.ofSat call48 func48 (c:=Vc) rfl ?_⟩
 rw[Vd]
 refine cC.seq ((qb4 m name).imp λe st hx=>?_)
 obtain⟨rfl,rfl⟩:=hx
 refine cC.seq ((qb5 m name).imp λe st hx=>?_)
 obtain⟨rfl,rfl⟩:=hx
 refine cC.seq ((qb8 hR hall c2).imp λe st hx=>?_)
 obtain⟨rfl,l,s,hp,hf,rfl⟩:=hx
 have hs:=yM (λk s s' h=>Sj h) l [name] s hf
 have hsl:s.length<=bF:=by
  have h2:=hp.length_eq
  have h3:(l.filter (Uj m name)).length<=l.length:=vbp _ _
  rw[hs];simp at h2 ⊢;omega
 refine cC.weak (st':=dL 34 5 s eS) (XS.weak ⟨rfl,rfl,rfl,rfl,(show eP 0 (tm 34 0 [(5,sl cS s)])from bk (aI (up (ak eU s)) trivial)),vzz⟩) ?_
 refine cC.seq ((qb6 s hsl).imp λe st hx=>?_)
 obtain⟨rfl,rfl⟩:=hx
 have hsort:iK s=rb (name::(R.map λe=>e.1).filter (Uj m name)):=by
  rw[<-FE]
  refine ua (gd _) (gd _) (((jO _).trans ?_).trans (jO _).symm)
  rw[hs]
  exact List.Perm.cons name (hp.filter _)
 rw[hsort]
 exact qb7 _
noncomputable def WW:Code:=f29.body.getD .skip
def qdN:List Nat:=[27,34,66]
theorem qaN:ZF Pg qdN 29 f29 WW:=zf call29 func29 rfl mixed
section
variable(m:aw)(t50:waA)(t51:Int)(m1:(List (ac×Bool)))(m3:ac)(m4:waA)(m5:Int)(m6:ac)(m7:Int)(m8:waE)(m9:waF)(m10:waD)(m11:waC)(m12:Int)(m13:Bool)(m14:waA)(m15:waH)(m16:waI)(m17:waG)(m18:Int)(m19:ac)(m20:waC)(m21:waA)(m22:Int)(m23:ac)(m24:Int)(m25:waB)(m26:waB)(m27:waB)(work:waA)(t52:Int)(m2:(List (ac×Bool)))
def kg:ay:=aM 83 [(2,.eptr (aq m)),(6,.mapr 1),(7,.mapr 2),(8,sl cS work),(50,sl cS t50),(51,.int .i64 t51),(52,.int .i64 t52)] [.dead,.map (bA PVal.bool m1),.map (bA PVal.bool m2),.cells [.str m3,sl cS m4,.int .i64 m5,.str m6,.int .i64 m7,sl aj m8,sl aD m9,sl aN m10,sl ai m11,.int .i64 m12,.bool m13,sl cS m14,sl bv m15,sl bP m16,sl aS m17,.int .i64 m18,.str m19,sl ai m20,sl cS m21,.int .i64 m22,.str m23,.int .i64 m24,sl aa m25,sl aa m26,sl aa m27] []] [((50,0),9),((8,1),9)]
def o0(o:waA×(List (ac×Bool))):ay:=aM 83 [(2,.eptr (aq m)),(6,.mapr 1),(7,.mapr 2),(8,sl cS o.1)] [.dead,.map (bA PVal.bool m1),.map (bA PVal.bool o.2),.cells [.str m3,sl cS m4,.int .i64 m5,.str m6,.int .i64 m7,sl aj m8,sl aD m9,sl aN m10,sl ai m11,.int .i64 m12,.bool m13,sl cS m14,sl bv m15,sl bP m16,sl aS m17,.int .i64 m18,.str m19,sl ai m20,sl cS m21,.int .i64 m22,.str m23,.int .i64 m24,sl aa m25,sl aa m26,sl aa m27] []] [((8,1),9)]
instance iS_depend_core_L2:KS 0 (kg m t50 t51 m1 m3 m4 m5 m6 m7 m8 m9 m10 m11 m12 m13 m14 m15 m16 m17 m18 m19 m20 m21 m22 m23 m24 m25 m26 m27 work t52 m2):=⟨rfl,(bk (aI (cT (bQ m)) (aI (bH rfl) (aI (bH rfl) (aI (up (ak eU work)) (aI (up (ak eU t50)) (aI vzz (aI vzz vzz)))))))),(aI vzz (aI (Hh PVal.bool (λx=>trivial) m1) (aI (Hh PVal.bool (λx=>trivial) m2) (aI (aI vzz (aI (up (ak eU m4)) (aI vzz (aI vzz (aI vzz (aI (up (ak b7 m8)) (aI (up (ak dh m9)) (aI (up (ak dy m10)) (aI (up (ak bE m11)) (aI vzz (aI vzz (aI (up (ak eU m14)) (aI (up (ak ff m15)) (aI (up (ak jb m16)) (aI (up (ak eA m17)) (aI vzz (aI vzz (aI (up (ak bE m20)) (aI (up (ak eU m21)) (aI vzz (aI vzz (aI vzz (aI (up (ak aJ m25)) (aI (up (ak aJ m26)) (aI (up (ak aJ m27)) trivial))))))))))))))))))))))))) trivial))))⟩
instance iO_depend_core_L2{o:(waA×(List (ac×Bool)))}:KS 0 (o0 m m1 m3 m4 m5 m6 m7 m8 m9 m10 m11 m12 m13 m14 m15 m16 m17 m18 m19 m20 m21 m22 m23 m24 m25 m26 m27 o):=⟨rfl,(bk (aI (cT (bQ m)) (aI (bH rfl) (aI (bH rfl) (aI (up (ak eU o.1)) trivial))))),(aI vzz (aI (Hh PVal.bool (λx=>trivial) m1) (aI (Hh PVal.bool (λx=>trivial) o.2) (aI (aI vzz (aI (up (ak eU m4)) (aI vzz (aI vzz (aI vzz (aI (up (ak b7 m8)) (aI (up (ak dh m9)) (aI (up (ak dy m10)) (aI (up (ak bE m11)) (aI vzz (aI vzz (aI (up (ak eU m14)) (aI (up (ak ff m15)) (aI (up (ak jb m16)) (aI (up (ak eA m17)) (aI vzz (aI vzz (aI (up (ak bE m20)) (aI (up (ak eU m21)) (aI vzz (aI vzz (aI vzz (aI (up (ak aJ m25)) (aI (up (ak aJ m26)) (aI (up (ak aJ m27)) trivial))))))))))))))))))))))))) trivial))))⟩
def xj:Option ((waA×Int×(List (ac×Bool)))⊕((waA×(List (ac×Bool))))):=
 if decide (t52<t51)=true then
  (dw t50 t52).bind λx11=>
  (ed m x11).bind λr12=>
  if r12.1.Typed=true then
   some (.inl (work,fh (t52+1),FH m2 x11 true))
  else
   (app work ([x11]:List ac)).bind λl14=>
   some (.inl (l14,fh (t52+1),m2))
 else
  some (.inr (work,m2))
def Bn:Option ((waA×(List (ac×Bool)))):=loop (λ(zz:waA×Int×(List (ac×Bool)))=>xj m t50 t51 zz.1 zz.2.1 zz.2.2) (work,t52,m2)
theorem El:OL 0 (cA WW 507903) (xj m t50 t51 work t52 m2) (λ(zz:waA×Int×(List (ac×Bool)))=>kg m t50 t51 m1 m3 m4 m5 m6 m7 m8 m9 m10 m11 m12 m13 m14 m15 m16 m17 m18 m19 m20 m21 m22 m23 m24 m25 m26 m27 zz.1 zz.2.1 zz.2.2) (λ_=>.exit 2) (o0 m m1 m3 m4 m5 m6 m7 m8 m9 m10 m11 m12 m13 m14 m15 m16 m17 m18 m19 m20 m21 m22 m23 m24 m25 m26 m27) (kg m t50 t51 m1 m3 m4 m5 m6 m7 m8 m9 m10 m11 m12 m13 m14 m15 m16 m17 m18 m19 m20 m21 m22 m23 m24 m25 m26 m27 work t52 m2):=qaN.lx<|
 tF (tb λx11 bx11=>tb λr12 br12=>tv (cz.ia (k:=.i64) bx11)<|tv (cH Iw (.str x11) [])<|tv (bN m)<|ck (dp _ br12)<|tx zt<|tx (dQ r12.1)<|ts<|tF (V5 (Hv (f:=PVal.bool) underlying84 underlying9 m2 x11 true)<|tE)<|tb λl14 bl14=>tv (bK [x11] 1 rfl)<|ti (.z [sl cS l14]) (cz.ap bl14)<|tE)<|tE
theorem Fp:OJ 0 (.loop (cA WW 507903)) (Bn m t50 t51 work t52 m2) (.exit 2) (o0 m m1 m3 m4 m5 m6 m7 m8 m9 m10 m11 m12 m13 m14 m15 m16 m17 m18 m19 m20 m21 m22 m23 m24 m25 m26 m27) (kg m t50 t51 m1 m3 m4 m5 m6 m7 m8 m9 m10 m11 m12 m13 m14 m15 m16 m17 m18 m19 m20 m21 m22 m23 m24 m25 m26 m27 work t52 m2):=sQ λ_=>El _ _ _ _ _ _ _ _ _ _ _ _ _ _ _ _ _ _ _ _ _ _ _ _ _ _ _ _ _ _ _ _
end
section
variable(m:aw)(work:waA)(m1:(List (ac×Bool)))(m2:(List (ac×Bool)))
def kf:ay:=aM 83 [(2,.eptr (aq m)),(6,.mapr 1),(7,.mapr 2),(8,sl cS work)] [.dead,.map (bA PVal.bool m1),.map (bA PVal.bool m2)] [((8,1),9)]
def oZ(o:(List (ac×Bool))×(List (ac×Bool))):ay:=aM 83 [(6,.mapr 1),(7,.mapr 2)] [.dead,.map (bA PVal.bool o.1),.map (bA PVal.bool o.2)] []
instance iS_depend_core_L1:KS 0 (kf m work m1 m2):=⟨rfl,(bk (aI (cT (bQ m)) (aI (bH rfl) (aI (bH rfl) (aI (up (ak eU work)) trivial))))),(aI vzz (aI (Hh PVal.bool (λx=>trivial) m1) (aI (Hh PVal.bool (λx=>trivial) m2) trivial)))⟩
instance iO_depend_core_L1{o:((List (ac×Bool))×(List (ac×Bool)))}:KS 0 (oZ o):=⟨rfl,(bk (aI (bH rfl) (aI (bH rfl) trivial))),(aI vzz (aI (Hh PVal.bool (λx=>trivial) o.1) (aI (Hh PVal.bool (λx=>trivial) o.2) trivial)))⟩
def xi:Option ((waA×(List (ac×Bool))×(List (ac×Bool)))⊕(((List (ac×Bool))×(List (ac×Bool))))):=
 if decide ((work.length:Int)>0)=true then
  (dw work 0).bind λx2=>
  (RF work (some 1) none).bind λl3=>
  if((pg m1 x2).getD false)=true then
   some (.inl (l3,m1,m2))
  else
   (Fq m x2).bind λr5=>
   (app l3 r5).bind λl6=>
   (ed m x2).bind λr7=>
   if(r7.1.Mode==1)=true then
    some (.inl (l6,FH m1 x2 true,m2))
   else
    (qn m r7.1).bind λr9=>
    (Bn m r9 (r9.length:Int) l6 0 m2).bind λo15=>
    some (.inl (o15.1,(FH m1 x2 true),o15.2))
 else
  some (.inr (m1,m2))
def Bm:Option (((List (ac×Bool))×(List (ac×Bool)))):=loop (λ(zz:waA×(List (ac×Bool))×(List (ac×Bool)))=>xi m zz.1 zz.2.1 zz.2.2) (work,m1,m2)
theorem Ek:OL 0 (cA WW 123) (xi m work m1 m2) (λ(zz:waA×(List (ac×Bool))×(List (ac×Bool)))=>kf m zz.1 zz.2.1 zz.2.2) (λ_=>.exit 0) oZ (kf m work m1 m2):=qaN.lx<|
 cb (cz.ln work)<|tF (tb λx2 bx2=>tb λl3 bl3=>tv (cz.ia (k:=.i64) bx2)<|tv (cH Iw (.str x2) [])<|ti (.z [sl cS l3]) (cz.sc bl3)<|tv (Hu (f:=PVal.bool) underlying84 underlying9 V7 m1 x2)<|tF tE<|tb λr5 br5=>tb λl6 bl6=>tb λr7 br7=>V5 (Hv (f:=PVal.bool) underlying84 underlying9 m1 x2 true)<|tv (bN m)<|ck (IQ br5)<|ti (.z [sl cS l6]) (cz.ap bl6)<|tv (bN m)<|ck (dp _ br7)<|tx zt<|tx (dQ r7.1)<|ts<|tF tE<|tb λr9 br9=>tb λo15 bo15=>tv (bN m)<|tv (mY r7.1 [])<|ck (s7 _ br9)<|cb (cz.ln r9)<|cu (Fp m r9 (r9.length:Int) (FH m1 x2 true) r7.1.Name r7.1.Params r7.1.Body.Op r7.1.Body.Name r7.1.Body.N r7.1.Body.Kids r7.1.Body.Params r7.1.Body.Alts r7.1.Body.Types r7.1.Mode r7.1.Typed r7.1.Sig.Vars r7.1.Sig.Needs r7.1.Sig.Abs r7.1.Sig.Bounds r7.1.Sig.Type_.Op r7.1.Sig.Type_.Name r7.1.Sig.Type_.Args r7.1.Sig.Type_.Names r7.1.Sig.Type_.Pred.Op r7.1.Sig.Type_.Pred.Name r7.1.Sig.Type_.Pred.N r7.1.Sig.Type_.Pred.Kids r7.1.Sig.Type_.Preds r7.1.Sig.Metric l6 0 m2 _ bo15)<|tE)<|tE
theorem Fo:OJ 0 (.loop (cA WW 123)) (Bm m work m1 m2) (.exit 0) oZ (kf m work m1 m2):=sQ λ_=>Ek _ _ _ _
end
def Bl(m:aw)(name:ac):Option (waA×waA):=
 (Bm m ([name]:List ac) ([]:List (ac×Bool)) ([]:List (ac×Bool))).bind λo16=>
 (Ul o16.1 o16.2).bind λl17=>
 (pp o16.1).bind λr18=>
 (pp l17).bind λr19=>
 some (r18,r19)
theorem Bo{m:aw}{name:ac}:OV 29 [.agg (aq m),.str name] (Bl m name) (λr=>.tuple [sl cS r.1,sl cS r.2]) [(0,9),(1,9)]:=qaN.v<|
 tb λo16 bo16=>tb λl17 bl17=>tb λr18 br18=>tb λr19 br19=>te (dM m)<|tv (bK [name] 1 rfl)<|Av (.sh 8 1 9)<|cu (Fo m ([name]:List ac) ([]:List (ac×Bool)) ([]:List (ac×Bool)) _ bo16)<|gz 0<|cu (R9 bl17)<|tc [1] (xl br18)<|tc [2] (xl br19)<|tE
noncomputable def qaZ:Code:=f14.body.getD .skip
def qdF:List Nat:=[]
theorem Z0:ZF Pg qdF 14 f14 qaZ:=zf call14 func14 rfl mixed
section
variable(m:ac)(m2:waA)(m3:Int)(m4:ac)(m5:Int)(m6:waE)(m7:waF)(m8:waD)(m9:waC)(m10:Int)(m11:Bool)(m12:waA)(m13:waH)(m14:waI)(m15:waG)(m16:Int)(m17:ac)(m18:waC)(m19:waA)(m20:Int)(m21:ac)(m22:Int)(m23:waB)(m24:waB)(m25:waB)
def qX:Option Bool:=
 if m11=true then
  some (m10 !=2)
 else
  some false
theorem yH:OJ 0 (cA qaZ 60) (qX m10 m11) .normal (λo=>aM 27 [(5,.bptr 1 0),(21,.bool o)] [.dead,.cells [.str m,sl cS m2,.int .i64 m3,.str m4,.int .i64 m5,sl aj m6,sl aD m7,sl aN m8,sl ai m9,.int .i64 m10,.bool m11,sl cS m12,sl bv m13,sl bP m14,sl aS m15,.int .i64 m16,.str m17,sl ai m18,sl cS m19,.int .i64 m20,.str m21,.int .i64 m22,sl aa m23,sl aa m24,sl aa m25] []] []) (aM 27 [(5,.bptr 1 0)] [.dead,.cells [.str m,sl cS m2,.int .i64 m3,.str m4,.int .i64 m5,sl aj m6,sl aD m7,sl aN m8,sl ai m9,.int .i64 m10,.bool m11,sl cS m12,sl bv m13,sl bP m14,sl aS m15,.int .i64 m16,.str m17,sl ai m18,sl cS m19,.int .i64 m20,.str m21,.int .i64 m22,sl aa m23,sl aa m24,sl aa m25] []] []):=Z0.j<|
 tf (λc3=>ts<|tg 3 c3<|ts<|tE) λc3=>ts<|tg 3 c3<|tE
end
section
variable(m:ac)(m2:waA)(m3:Int)(m4:ac)(m5:Int)(m6:waE)(m7:waF)(m8:waD)(m9:waC)(m10:Int)(m11:Bool)(m12:waA)(m13:waH)(m14:waI)(m15:waG)(m16:Int)(m17:ac)(m18:waC)(m19:waA)(m20:Int)(m21:ac)(m22:Int)(m23:waB)(m24:waB)(m25:waB)
def qW:Option ((Int×ac×Int×waE×waF×waD×waC×Int)):=
 (qX m10 m11).bind λo4=>
 if o4=true then
  some (0,([]:ac),0,([]:List am),([]:List aU),([]:List ca),([]:List al),1)
 else
  some (m3,m4,m5,m6,m7,m8,m9,m10)
theorem yG:OJ 0 (cA qaZ 30) (qW m3 m4 m5 m6 m7 m8 m9 m10 m11) .normal (λo=>aM 27 [(5,.bptr 1 0)] [.dead,.cells [.str m,sl cS m2,.int .i64 o.1,.str o.2.1,.int .i64 o.2.2.1,sl aj o.2.2.2.1,sl aD o.2.2.2.2.1,sl aN o.2.2.2.2.2.1,sl ai o.2.2.2.2.2.2.1,.int .i64 o.2.2.2.2.2.2.2,.bool m11,sl cS m12,sl bv m13,sl bP m14,sl aS m15,.int .i64 m16,.str m17,sl ai m18,sl cS m19,.int .i64 m20,.str m21,.int .i64 m22,sl aa m23,sl aa m24,sl aa m25] []] []) (aM 27 [(5,.bptr 1 0)] [.dead,.cells [.str m,sl cS m2,.int .i64 m3,.str m4,.int .i64 m5,sl aj m6,sl aD m7,sl aN m8,sl ai m9,.int .i64 m10,.bool m11,sl cS m12,sl bv m13,sl bP m14,sl aS m15,.int .i64 m16,.str m17,sl ai m18,sl cS m19,.int .i64 m20,.str m21,.int .i64 m22,sl aa m23,sl aa m24,sl aa m25] []] []):=Z0.j<|
 tb λo4 bo4=>gz 0<|cu (yH m m2 m3 m4 m5 m6 m7 m8 m9 m10 m11 m12 m13 m14 m15 m16 m17 m18 m19 m20 m21 m22 m23 m24 m25 _ bo4)<|tF (ts<|Mf (Eb) (D9)<|ty (cy (⟨0,([]:ac),0,([]:List am),([]:List aU),([]:List ca),([]:List al)⟩:am))<|tE)<|tE
end
def oY(m:aw)(name:ac):Option ac:=
 (ed m name).bind λr1=>
 if(!r1.2)=true then
  some ([]:ac)
 else
  (qW r1.1.Body.Op r1.1.Body.Name r1.1.Body.N r1.1.Body.Kids r1.1.Body.Params r1.1.Body.Alts r1.1.Body.Types r1.1.Mode r1.1.Typed).bind λo6=>
  (pN (⟨r1.1.Name,r1.1.Params,(⟨o6.1,o6.2.1,o6.2.2.1,o6.2.2.2.1,o6.2.2.2.2.1,o6.2.2.2.2.2.1,o6.2.2.2.2.2.2.1⟩:am),o6.2.2.2.2.2.2.2,r1.1.Typed,r1.1.Sig⟩:bD)).bind λr7=>
  some r7
theorem qY{m:aw}{name:ac}:OV 14 [.agg (aq m),.str name] (oY m name) (λr=>.str r) []:=Z0.v<|
 tb λr1 br1=>te (dM m)<|tv (bN m)<|ck (dp _ br1)<|tx zt<|tx (dQ r1.1)<|tF tE<|tb λo6 bo6=>tb λr7 br7=>gz 0<|cu (yG r1.1.Name r1.1.Params r1.1.Body.Op r1.1.Body.Name r1.1.Body.N r1.1.Body.Kids r1.1.Body.Params r1.1.Body.Alts r1.1.Body.Types r1.1.Mode r1.1.Typed r1.1.Sig.Vars r1.1.Sig.Needs r1.1.Sig.Abs r1.1.Sig.Bounds r1.1.Sig.Type_.Op r1.1.Sig.Type_.Name r1.1.Sig.Type_.Args r1.1.Sig.Type_.Names r1.1.Sig.Type_.Pred.Op r1.1.Sig.Type_.Pred.Name r1.1.Sig.Type_.Pred.N r1.1.Sig.Type_.Pred.Kids r1.1.Sig.Type_.Preds r1.1.Sig.Metric _ bo6)<|tv (mY (⟨r1.1.Name,r1.1.Params,(⟨o6.1,o6.2.1,o6.2.2.1,o6.2.2.2.1,o6.2.2.2.2.1,o6.2.2.2.2.2.1,o6.2.2.2.2.2.2.1⟩:am),o6.2.2.2.2.2.2.2,r1.1.Typed,r1.1.Sig⟩:bD) [])<|ck (mS _ br7)<|tE
abbrev eI:=(ac->aw->(List (ac×Bool))->aw->Option ((List (ac×Bool))))
abbrev gk(R:eI):Prop:=∀(name:ac) (a:aw) (k2:(List (ac×Bool))) (c:aw),OG 60 [.str name,.eptr (aq a),.bptr 0 0,.bptr 3 0] [] [.cells [.bptr 1 0] [],.cells [.mapr 2] [],.map (bA PVal.bool k2),.cells [.func (.func 60) [] [.eptr (aq c),.bptr 0 0,.bptr 3 0]] []] (R name a k2 c) (λr=>.tuple []) [] (λr=>[.cells [.bptr 1 0] [],.cells [.mapr 2] [],.map (bA PVal.bool r),.cells [.func (.func 60) [] [.eptr (aq c),.bptr 0 0,.bptr 3 0]] []])
abbrev cZ:=(am->waA->waA->Option waA)
abbrev cY(R:cZ):Prop:=∀(e:am) (hidden:waA) (k0:waA),OG 88 [.agg (aj e),sl cS hidden,.func (.func 117) [] [.bptr 0 0]] [] [.cells [sl cS k0] [(0,9)]] (R e hidden k0) (λr=>.tuple []) [] (λr=>[.cells [sl cS r] [(0,9)]])
noncomputable def qaX:Code:=f117.body.getD .skip
def Yf:List Nat:=[6]
theorem ZY:ZF Pg Yf 117 f117 qaX:=zf call117 func117 rfl mixed
def B4(a:am)(k0:waA):Option waA:=
 if(a.Op==5)=true then
  (app k0 ([a.Name]:List ac)).bind λl2=>
  some l2
 else
  some k0
theorem GH{a:am}{k0:waA}:OG 117 [.agg (aj a),.bptr 0 0] [] [.cells [sl cS k0] [(0,9)]] (B4 a k0) (λr=>.tuple []) [] (λr=>[.cells [sl cS r] [(0,9)]]):=ZY.g 1<|
 te (cO a)<|tw (bu a)<|tF (tb λl2 bl2=>tw (bM a)<|tv (bK [a.Name] 1 rfl)<|tv (cz.ap bl2)<|tE)<|tE
section
variable(hidden:waA)(e:am)(m:waA)
def ij:Option Bool:=
 (qR e).bind λr1=>
 if r1=true then
  (yR hidden e.Name).bind λr4=>
  some (decide (r4<0))
 else
  some false
theorem nF:OJ 1 (cA Qz 12) (ij hidden e) .normal (λo=>aM 57 [(1,sl cS hidden),(2,.func (.func 117) [] [.bptr 0 0]),(3,.eptr (aj e)),(18,.bool o)] [.cells [sl cS m] [(0,9)],.dead] []) (aM 57 [(1,sl cS hidden),(2,.func (.func 117) [] [.bptr 0 0]),(3,.eptr (aj e))] [.cells [sl cS m] [(0,9)],.dead] []):=SY.j<|
 tb λr1 br1=>have pp3:=λ{X Y Z} (r:PV _ X Y Z)=>tv (aY e)<|ck (ue _ br1)<|r;tf (λc2=>tb λr4 br4=>pp3<|tg 3 c2<|tw (bM e)<|ck (wH _ br4)<|tE) λc2=>pp3<|tg 3 c2<|tE
end
section
variable(hidden:waA)(e:am)(m:waA)
def ii:Option waA:=
 (ij hidden e).bind λo5=>
 if o5=true then
  (B4 e m).bind λr7=>
  some r7
 else
  some m
theorem nE:OJ 1 (cA Qz 6) (ii hidden e m) .normal (λo=>aM 57 [(1,sl cS hidden),(2,.func (.func 117) [] [.bptr 0 0]),(3,.eptr (aj e))] [.cells [sl cS o] [(0,9)],.dead] []) (aM 57 [(1,sl cS hidden),(2,.func (.func 117) [] [.bptr 0 0]),(3,.eptr (aj e))] [.cells [sl cS m] [(0,9)],.dead] []):=SY.j<|
 tb λo5 bo5=>gz 0<|cu (nF hidden e m _ bo5)<|tF (tb λr7 br7=>tv (aY e)<|tc [0] (GH _ br7)<|tE)<|tE
end
section
variable(R158:cZ)(hidden:waA)(e:am)(t23:waE)(t24:Int)(t25:Int)(m:waA)
def di:ay:=aM 57 [(1,sl cS hidden),(2,.func (.func 117) [] [.bptr 0 0]),(3,.eptr (aj e)),(23,sl aj t23),(24,.int .i64 t24),(25,.int .i64 t25)] [.cells [sl cS m] [(0,9)],.dead] []
def ej(o:waA):ay:=aM 57 [(1,sl cS hidden),(2,.func (.func 117) [] [.bptr 0 0]),(3,.eptr (aj e))] [.cells [sl cS o] [(0,9)],.dead] []
instance iS_syntax_occurrences_Calls_1_L3:KS 1 (di hidden e t23 t24 t25 m):=⟨rfl,(bk (aI (up (ak eU hidden)) (aI (aI vzz (aI (bH rfl) trivial)) (aI (cT (b7 e)) (aI (up (ak b7 t23)) (aI vzz (aI vzz vzz))))))),(aI (aI (up (ak eU m)) trivial) (aI vzz vzz))⟩
instance iO_syntax_occurrences_Calls_1_L3{o:waA}:KS 1 (ej hidden e o):=⟨rfl,(bk (aI (up (ak eU hidden)) (aI (aI vzz (aI (bH rfl) trivial)) (aI (cT (b7 e)) trivial)))),(aI (aI (up (ak eU o)) trivial) (aI vzz vzz))⟩
def gD:Option ((Int×waA)⊕(waA)):=
 if decide (t25<t24)=true then
  (dw t23 t25).bind λx10=>
  (Bb hidden).bind λr11=>
  (xd e t25).bind λr12=>
  (app r11 r12).bind λl13=>
  (R158 x10 l13 m).bind λr14=>
  some (.inl (fh (t25+1),r14))
 else
  some (.inr m)
def ik:Option waA:=loop (λ(zz:Int×waA)=>gD R158 hidden e t23 t24 zz.1 zz.2) (t25,m)
theorem mF(hR158:cY R158):OL 1 (cA Qz 119) (gD R158 hidden e t23 t24 t25 m) (λ(zz:Int×waA)=>di hidden e t23 t24 zz.1 zz.2) (λ_=>.exit 0) (ej hidden e) (di hidden e t23 t24 t25 m):=SY.lx<|
 tF (tb λx10 bx10=>tb λr11 br11=>tb λr12 br12=>tb λl13 bl13=>tb λr14 br14=>tv (fU.ia (k:=.i64) bx10)<|tv (aY x10)<|tx Nk<|tx (ms x10)<|tk<|Av (.dx [0,0,2,0,0,30,62,0] [] [] [])<|tv (eg x10 [])<|ck (uQ br11)<|tv (aY e)<|ck (yi _ br12)<|tv (cz.ap bl13)<|tc [0] (hR158 _ _ _ _ br14)<|tE)<|tE
theorem nG(hR158:cY R158):OJ 1 (.loop (cA Qz 119)) (ik R158 hidden e t23 t24 t25 m) (.exit 0) (ej hidden e) (di hidden e t23 t24 t25 m):=sQ λ_=>mF _ _ _ _ _ _ _ hR158
end
section
variable(R158:cZ)(hidden:waA)(t41:waD)(t42:Int)(t43:Int)(m:waA)
def dj:ay:=aM 57 [(1,sl cS hidden),(2,.func (.func 117) [] [.bptr 0 0]),(41,sl aN t41),(42,.int .i64 t42),(43,.int .i64 t43)] [.cells [sl cS m] [(0,9)],.dead] []
def ek(o:waA):ay:=aM 57 [] [.cells [sl cS o] [(0,9)],.dead] []
instance iS_syntax_occurrences_Calls_1_L4:KS 1 (dj hidden t41 t42 t43 m):=⟨rfl,(bk (aI (up (ak eU hidden)) (aI (aI vzz (aI (bH rfl) trivial)) (aI (up (ak dy t41)) (aI vzz (aI vzz vzz)))))),(aI (aI (up (ak eU m)) trivial) (aI vzz vzz))⟩
instance iO_syntax_occurrences_Calls_1_L4{o:waA}:KS 1 (ek o):=⟨rfl,(bk vzz),(aI (aI (up (ak eU o)) trivial) (aI vzz vzz))⟩
def gE:Option ((Int×waA)⊕(waA)):=
 if decide (t43<t42)=true then
  (dw t41 t43).bind λx17=>
  (Bb hidden).bind λr18=>
  (app r18 x17.Names).bind λl19=>
  (R158 x17.Body l19 m).bind λr20=>
  some (.inl (fh (t43+1),r20))
 else
  some (.inr m)
def il:Option waA:=loop (λ(zz:Int×waA)=>gE R158 hidden t41 t42 zz.1 zz.2) (t43,m)
theorem mG(hR158:cY R158):OL 1 (cA Qz 127) (gE R158 hidden t41 t42 t43 m) (λ(zz:Int×waA)=>dj hidden t41 t42 zz.1 zz.2) (λ_=>.exit 2) ek (dj hidden t41 t42 t43 m):=SY.lx<|
 tF (tb λx17 bx17=>tb λr18 br18=>tb λl19 bl19=>tb λr20 br20=>tv (gp.ia (k:=.i64) bx17)<|tv (mX x17)<|tx DN<|tx (kY x17)<|tk<|Av (.dx [0,1,0,4,0,16,60,0] [] [] [])<|tv (eg x17.Body [])<|ck (uQ br18)<|ts<|tv (cz.ap bl19)<|tc [0] (hR158 _ _ _ _ br20)<|tE)<|tE
theorem nH(hR158:cY R158):OJ 1 (.loop (cA Qz 127)) (il R158 hidden t41 t42 t43 m) (.exit 2) ek (dj hidden t41 t42 t43 m):=sQ λ_=>mG _ _ _ _ _ _ hR158
end
def iL(R158:cZ)(e:am)(hidden:waA)(k0:waA):Option waA:=
 (ii hidden e k0).bind λo8=>
 (ik R158 hidden e e.Kids (e.Kids.length:Int) 0 o8).bind λo15=>
 (il R158 hidden e.Alts (e.Alts.length:Int) 0 o15).bind λo21=>
 some o21
theorem pz(R158:cZ)(hR158:cY R158){e:am}{hidden:waA}{k0:waA}:OG 88 [.agg (aj e),sl cS hidden,.func (.func 117) [] [.bptr 0 0]] [] [.cells [sl cS k0] [(0,9)]] (iL R158 e hidden k0) (λr=>.tuple []) [] (λr=>[.cells [sl cS r] [(0,9)]]):=SY.g 1<|
 tb λo8 bo8=>tb λo15 bo15=>tb λo21 bo21=>te (cO e)<|gz 0<|cu (nE hidden e k0 _ bo8)<|tw (az e)<|cb (fU.ln e.Kids)<|cu (nG R158 hidden e e.Kids (e.Kids.length:Int) 0 o8 hR158 _ bo15)<|tw (aE e)<|cb (gp.ln e.Alts)<|cu (nH R158 hidden e.Alts (e.Alts.length:Int) 0 o15 hR158 _ bo21)<|tE
def iM:((am×waA×waA)->Option waA)->(am×waA×waA)->Option waA:=λ(rec:(am×waA×waA)->Option waA) (x:am×waA×waA)=>iL (λe hidden k0=>rec (e,hidden,k0)) x.1 x.2.1 x.2.2
def kb(e:am)(hidden:waA)(k0:waA):Option waA:=Bq iM (e,hidden,k0)
theorem qi{e:am}{hidden:waA}{k0:waA}:OG 88 [.agg (aj e),sl cS hidden,.func (.func 117) [] [.bptr 0 0]] [] [.cells [sl cS k0] [(0,9)]] (kb e hidden k0) (λr=>.tuple []) [] (λr=>[.cells [sl cS r] [(0,9)]]):=N4 λ_ h=>
 fg (F:=iM) (M:=λ(x:am×waA×waA) (r:waA)=>C Pg GE 88 [.agg (aj x.1),sl cS x.2.1,.func (.func 117) [] [.bptr 0 0]] [] [.cells [sl cS x.2.2] [(0,9)]] (.tuple []) [] [.cells [sl cS r] [(0,9)]]) (λrec hrec x r h=>pz _ (λe hidden k0=>N4 λr h=>hrec (e,hidden,k0) r h) _ h) h
noncomputable def qeH:Code:=f81.body.getD .skip
def qd7:List Nat:=[7]
theorem qeq:ZF Pg qd7 81 f81 qeH:=zf call81 func81 rfl mixed
def GG(e:am):Option waA:=
 (kb e ([]:List ac) ([]:List ac)).bind λr1=>
 some r1
theorem I4{e:am}:OV 81 [.agg (aj e)] (GG e) (λr=>sl cS r) [(0,9)]:=qeq.v<|
 tb λr1 br1=>te (cO e)<|tx qcs<|tv (aY e)<|tc [1] (qi _ br1)<|tE
noncomputable def qeI:Code:=f82.body.getD .skip
def qd8:List Nat:=[]
theorem qer:ZF Pg qd8 82 f82 qeI:=zf call82 func82 rfl mixed
def Aq(s:ac)(a:bD):Option Bool:=
 (yR a.Params s).bind λr1=>
 some (decide (r1>=0))
theorem EQ{s:ac}{a:bD}:OV 82 [.str s,.eptr (aQ a)] (Aq s a) (λr=>.bool r) []:=qer.v<|
 tb λr1 br1=>tw (mU a)<|ck (wH _ br1)<|tE
section
variable(s:waA)(v:bD)(t7:Int)(t8:Int)
def eC:ay:=aM 19 [(0,sl cS s),(1,.func (.func 82) [] [.eptr (aQ v)]),(7,.int .i64 t7),(8,.int .i64 t8)] [] []
def gV(o:Int⊕(Unit)):Exit:=match o with
 |(.inl _)=>.ret
 |(.inr _)=>.exit 0
def gW(o:Int⊕(Unit)):ay:=match o with
 |(.inl o)=>aM 19 [(4,.int .i64 o)] [] []
 |(.inr o)=>aM 19 [] [] []
def eD:Option (Int⊕(Int⊕(Unit))):=
 if decide (t8<t7)=true then
  (dw s t8).bind λx2=>
  (Aq x2 v).bind λr3=>
  if r3=true then
   some (.inr (.inl t8))
  else
   some (.inl (fh (t8+1)))
 else
  some (.inr (.inr ()))
def dI:Option (Int⊕(Unit)):=loop (λ(zz:Int)=>eD s v t7 zz) t8
theorem nr:OL 0 (cA WX 55) (eD s v t7 t8) (λ(zz:Int)=>eC s v t7 zz) gV gW (eC s v t7 t8):=XW.l<|
 tF (tb λx2 bx2=>tb λr3 br3=>tv (cz.ia (k:=.i64) bx2)<|tv (cH Iw (.str x2) [])<|ck (EQ _ br3)<|tF tE<|tE)<|tE
theorem gB:OK 0 (.loop (cA WX 55)) (dI s v t7 t8) gV gW (eC s v t7 t8):=HK λ_=>nr _ _ _ _
end
def fX(s:waA)(c:bD):Option Int:=
 (dI s c (s.length:Int) 0).bind λo5=>match o5 with
 |(.inl o5)=>
  some o5
 |(.inr o5)=>
  some (-1)
theorem qJ{s:waA}{c:bD}:OV 51 [sl cS s,.func (.func 82) [] [.eptr (aQ c)]] (fX s c) (λr=>.int .i64 r) []:=XW.v<|
 cb (cz.ln s)<|t2 (λo5 bo5=>cu (gB s c (s.length:Int) 0 _ bo5)<|tE) λo5 bo5=>cu (gB s c (s.length:Int) 0 _ bo5)<|tE
end Go.Proofs.YtankopenjcbeeaaGreatDoor
