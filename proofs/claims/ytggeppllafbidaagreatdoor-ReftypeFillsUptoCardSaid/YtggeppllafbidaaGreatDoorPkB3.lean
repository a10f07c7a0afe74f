/- PROVED: a part of the proof. Conditions: none. -/
import Derived.Test.YtggeppllafbidaaGreatDoorPkB2
import Derived.Deep.LoopGhost
noncomputable section
namespace Go.Proofs.YtggeppllafbidaaGreatDoor
open Go
inductive zg(ρ:List Nat):PVal->PVal->Prop where
 |refl (p:PVal) (h:p.cl 0):zg ρ p p
 |bptr (i j off:Nat) (h:ρ[i]? =some j):zg ρ (.bptr j off) (.bptr i off)
 |mapr (i j:Nat) (h:ρ[i]? =some j):zg ρ (.mapr j) (.mapr i)
 |bsl (i j off n:Nat) (h:ρ[i]? =some j):zg ρ (.bsl j off n) (.bsl i off n)
 | func (fn:Fn) (f c f' c':List PVal) (hl:f.length = f'.length) (hl':c.length = c'.length)
   (h:∀(i:Nat) p q,f[i]? =some p->f'[i]? =some q->zg ρ p q) (h':∀(i:Nat) p q,c[i]? =some p->c'[i]? =some q->zg ρ p q):zg ρ (.func fn f c) (.func fn f' c')
 |agg (f f':List PVal) (hl:f.length=f'.length) (h:∀(i:Nat) p q,f[i]? =some p->f'[i]? =some q->zg ρ p q):zg ρ (.agg f) (.agg f')
def g5(ρ:List Nat):aw->aw->Prop
 |.cells cs own,.cells cs' own'=>own=own'/\cs.length=cs'.length/\∀(i:Nat) p q,cs[i]? =some p->cs'[i]? =some q->zg ρ p q
 |.map es,.map es'=>es.length=es'.length/\∀(i:Nat) k u k' u',es[i]? =some (k,u)->es'[i]? =some (k',u')->zg ρ k k'/\zg ρ u u'
 |.dead,.dead=>True
 |_,_=>False
section
variable{P:Program}{E:ma}{Γ:aK}{bs bsC:ba}{ow:Nat->Option iD}{w:World}{a:Array Value}{st:aq}{ρ:List Nat}
theorem zg.to{p q:PVal}(hr:zg ρ p q)(hb:∀(i j:Nat),ρ[i]? =some j->bsC[i]? =bs[j]?):∀{v:Value},VR Γ bs w p v->VR Γ bsC w q v:=by
 induction hr with
 |refl p h=>intro v hv;exact hv.restrict (n:=0) h fun i b hi _=>absurd hi (vaK _)
 |bptr i j off h=>intro v hv;cases hv with|bptr _ _ b h'=>exact .bptr _ _ _ ((hb i j h).trans h')
 |mapr i j h=>intro v hv;cases hv with|mapr _ b h'=>exact .mapr _ _ ((hb i j h).trans h')
 |bsl i j off n h=>intro v hv;cases hv with|bsl _ _ _ x cap hcap hnil hx=>exact .bsl _ _ _ x cap hcap hnil (hx.imp_right fun⟨b,h1,h2⟩=>⟨b,h1,(hb i j h).trans h2⟩)
 | func fn f c f' c' hl hl' _ _ ih ih' =>
  intro v hv
  cases hv with
  | func fn f c fs cs k k' h h' =>
   refine .func fn f' c' fs cs (by omega) (by omega) (fun i p v hp hv=>?_) (fun i p v hp hv=>?_)
   ·have hi:=aj hp
    have:=vaa (l:=f) (i:=i) (by omega)
    exact ih i _ p this hp (h i _ v this hv)
   ·have hi:=aj hp
    have:=vaa (l:=c) (i:=i) (by omega)
    exact ih' i _ p this hp (h' i _ v this hv)
 | agg f f' hl _ ih =>
  intro v hv
  cases hv with
  |agg f fs k h=>
   refine .agg f' fs (by omega) (fun i p v hp hv=>?_)
   have hi:=aj hp
   have:=vaa (l:=f) (i:=i) (by omega)
   exact ih i _ p this hp (h i _ v this hv)
theorem zg.from{p q:PVal}(hr:zg ρ p q)(hb:∀(i j:Nat),ρ[i]? =some j->bsC[i]? =bs[j]?):∀{v:Value},VR Γ bsC w q v->VR Γ bs w p v:=by
 induction hr with
 |refl p h=>intro v hv;exact hv.restrict (n:=0) h fun i b hi _=>absurd hi (vaK _)
 |bptr i j off h=>intro v hv;cases hv with|bptr _ _ b h'=>exact .bptr _ _ _ ((hb i j h).symm.trans h')
 |mapr i j h=>intro v hv;cases hv with|mapr _ b h'=>exact .mapr _ _ ((hb i j h).symm.trans h')
 |bsl i j off n h=>intro v hv;cases hv with|bsl _ _ _ x cap hcap hnil hx=>exact .bsl _ _ _ x cap hcap hnil (hx.imp_right fun⟨b,h1,h2⟩=>⟨b,h1,(hb i j h).symm.trans h2⟩)
 | func fn f c f' c' hl hl' _ _ ih ih' =>
  intro v hv
  cases hv with
  | func fn f' c' fs cs k k' h h' =>
   refine .func fn f c fs cs (by omega) (by omega) (fun i p v hp hv=>?_) (fun i p v hp hv=>?_)
   ·have hi:=aj hp
    have:=vaa (l:=f') (i:=i) (by omega)
    exact ih i p _ hp this (h i _ v this hv)
   ·have hi:=aj hp
    have:=vaa (l:=c') (i:=i) (by omega)
    exact ih' i p _ hp this (h' i _ v this hv)
 | agg f f' hl _ ih =>
  intro v hv
  cases hv with
  |agg f' fs k h=>
   refine .agg f fs (by omega) (fun i p v hp hv=>?_)
   have hi:=aj hp
   have:=vaa (l:=f') (i:=i) (by omega)
   exact ih i p _ hp this (h i _ v this hv)
theorem g5.to{B B':aw}{b:Nat}(hr:g5 ρ B B')(hb:∀(i j:Nat),ρ[i]? =some j->bsC[i]? =bs[j]?)(h:BR Γ bs w B b):BR Γ bsC w B' b:=by
 cases B<;>cases B'<;>simp only[g5]at hr
 ·rename_i cs own cs' own'
  obtain⟨_,hl,hr⟩:=hr
  obtain⟨c,t,h1,h2,h3⟩:=h
  refine⟨c,t,h1,by omega,fun j p v hp hv=>?_⟩
  have hj:=aj hp
  have:=vaa (l:=cs) (i:=j) (by omega)
  exact(hr j _ p this hp).to hb (h3 j _ v this hv)
 ·rename_i es es'
  obtain⟨hl,hr⟩:=hr
  obtain⟨c,t,h1,h2,h3⟩:=h
  refine⟨c,t,h1,by omega,fun j k u x hp hv=>?_⟩
  have hj:=aj hp
  have:=vaa (l:=es) (i:=j) (by omega)
  obtain⟨r1,r2⟩:=hr j _ _ k u this hp
  obtain⟨q1,q2⟩:=h3 j _ _ x this hv
  exact⟨r1.to hb q1,r2.to hb q2⟩
 ·trivial
theorem g5.from{B B':aw}{b:Nat}(hr:g5 ρ B B')(hb:∀(i j:Nat),ρ[i]? =some j->bsC[i]? =bs[j]?)(h:BR Γ bsC w B' b):BR Γ bs w B b:=by
 cases B<;>cases B'<;>simp only[g5]at hr
 ·rename_i cs own cs' own'
  obtain⟨_,hl,hr⟩:=hr
  obtain⟨c,t,h1,h2,h3⟩:=h
  refine⟨c,t,h1,by omega,fun j p v hp hv=>?_⟩
  have hj:=aj hp
  have:=vaa (l:=cs') (i:=j) (by omega)
  exact(hr j p _ hp this).from hb (h3 j _ v this hv)
 ·rename_i es es'
  obtain⟨hl,hr⟩:=hr
  obtain⟨c,t,h1,h2,h3⟩:=h
  refine⟨c,t,h1,by omega,fun j k u x hp hv=>?_⟩
  have hj:=aj hp
  have:=vaa (l:=es') (i:=j) (by omega)
  obtain⟨r1,r2⟩:=hr j k u _ _ hp this
  obtain⟨q1,q2⟩:=h3 j _ _ x this hv
  exact⟨r1.from hb q1,r2.from hb q2⟩
 ·trivial
structure sU(ρ:List Nat)(H:List aw)(Hc:List aw):Prop where
 len:Hc.length=ρ.length
 box:∀(i j:Nat),ρ[i]? =some j->∃B Bc,H[j]? =some B/\Hc[i]? =some Bc/\g5 ρ B Bc
def eD(ρ:List Nat)(Γ:aK)(ow:Nat->Option iD):Nat->Option iD:=fun b=>
 match ow b with
 |some (.box j k)=>if(Γ b).isSome/\j∈ρ then some (.box (ρ.idxOf j) k)else none
 |_=>none
def pZ(ρ:List Nat)(d:Nat)(owC ow:Nat->Option iD):Nat->Option iD:=fun b=>
 match owC b with
 |some (.box i k)=>some (.box (ρ.getD i 0) k)
 |some (.tmp _ k)=>some (.tmp d k)
 |none=>match ow b with
  |some (.box j k)=>if j∈ρ then none else some (.box j k)
  |x=>x
theorem nh{ρ:List Nat}(hn:ρ.Nodup){i j:Nat}(h:ρ[i]? =some j):ρ.idxOf j=i:=by
 have hi:=aj h
 have hj:ρ[i]=j:=by rw[vaa hi]at h;exact vbd h
 subst hj
 exact hn.idxOf_getElem i hi
theorem Ha(h:SR P E Γ bs ow w a st){g:FuncId}{args argsC:List PVal}{r rc:PVal}{ro:List (Nat×TypeId)}{Hc Hc' H':List aw}{vs:Array Value}{d:Nat}(hd:d<a.size)
  (hn:ρ.Nodup) (hC:C P E.GE g argsC [] Hc rc ro Hc') (hH:sU ρ st.boxes Hc) (hH':sU ρ H' Hc') (hlen:H'.length=st.boxes.length) (hsame:∀j:Nat,j∉ρ->H'[j]? =st.boxes[j]?)
  (hr:zg ρ r rc) (hal:args.length=argsC.length) (ha:∀(i:Nat) p q,args[i]? =some p->argsC[i]? =some q->zg ρ p q)
  (hl:vs.size=args.length) (hv:∀(i:Nat) p v,args[i]? =some p->vs[i]? =some v->VR Γ bs w p v):
  Calls P g vs w fun e w'=>∃v Γ' ow',e=.returned v/\SR P E Γ' bs ow' w' (a.setIfInBounds d v) {st with tmps:=st.tmps.set d r,boxes:=H',own:=(ro.map fun x=>((d,x.1),x.2))++bI d st.own}/\Γ.Le w Γ' w':=by
 let bsC:ba:=ρ.map fun j=>(bs[j]?).getD none
 have hjlt:∀{i j:Nat},ρ[i]? =some j->j<st.boxes.length:=fun{i j} hij=>by
  obtain⟨B,_,hB,_⟩:=hH.box i j hij;exact aj hB
 have hbb:∀(i j:Nat),ρ[i]? =some j->bsC[i]? =bs[j]?:=by
  intro i j hij
  have hj:j<bs.length:=by rw[h.bl];exact hjlt hij
  simp[bsC,hij,vaa hj]
 have hbc:∀{i b:Nat},bsC[i]? =some (some b)->∃j,ρ[i]? =some j/\bs[j]? =some (some b):=by
  intro i b hib
  have hi:i<ρ.length:=by have:=aj hib;simpa[bsC]using this
  have hij:ρ[i]? =some ρ[i]:=vaa hi
  exact⟨_,hij,(hbb i _ hij).symm.trans hib⟩
 have hcow:∀{b L},eD ρ Γ ow b=some L->∃j k,ow b=some (.box j k)/\(Γ b).isSome/\j∈ρ/\L=.box (ρ.idxOf j) k:=by
  intro b L hL
  unfold eD at hL
  split at hL
  ·rename_i j k hb
   split at hL
   ·rename_i hc;cases hL;exact⟨j,k,hb,hc.1,hc.2,rfl⟩
   ·cases hL
  ·cases hL
 have hpre:SR P ⟨E.GE,Γ,w,bJ bsC (eD ρ Γ ow)⟩ Γ bsC (eD ρ Γ ow) w vs ⟨argsC,Hc,[]⟩:={
  wi:=h.wi
  sz:=by simpa[hal]using hl
  tm:=fun t q v hq hv'=>by
   have ht:=aj hq
   have hp:=vaa (l:=args) (i:=t) (by rw[hal];exact ht)
   exact(ha t _ q hp hq).to hbb (hv t _ v hp hv')
  bl:=by simp[bsC,hH.len]
  bx:=fun i b Bc hib hBc=>by
   obtain⟨j,hij,hjb⟩:=hbc hib
   obtain⟨B,Bc',hB,hBc',hx⟩:=hH.box i j hij
   rw[hBc]at hBc';cases hBc'
   obtain⟨k1,k2,k3⟩:=h.bx j b B hjb hB
   exact⟨k1,k2,hx.to hbb k3⟩
  inj:=fun i j b hi hj=>by
   obtain⟨x,hx,hxb⟩:=hbc hi
   obtain⟨y,hy,hyb⟩:=hbc hj
   have:=h.inj x y b hxb hyb
   subst this
   rw[<-nh hn hx,nh hn hy]
  bn:=fun i b hb=>.inl (.inl ⟨i,hb⟩)
  on:=fun b L hL=>by
   obtain⟨j,k,hb,_⟩:=hcow hL
   exact⟨(h.on b _ hb).1,.inl (.inr (by rw[hL];simp))⟩
  ot:=fun t k e he=>by simp at he
  ob:=fun i k e cs own b hB hk hb=>by
   obtain⟨j,hij,hjb⟩:=hbc hb
   obtain⟨B,Bc',hB',hBc',hx⟩:=hH.box i j hij
   rw[hB]at hBc';cases hBc'
   cases B with
   |cells cs' own'=>
    obtain⟨rfl,_,_⟩:=hx
    obtain⟨v,k1,k2,k3⟩:=h.ob j k e cs' own' b hB' hk hjb
    refine⟨v,k1,k2,fun b' hb'=>?_⟩
    have hg:(Γ b').isSome:=by obtain⟨n,xs,_,o2⟩:=k2;rw[o2 b' hb'];rfl
    simp only[eD,k3 b' hb']
    rw[var ⟨hg,vaw hij⟩,nh hn hij]
   |map es=>simp[g5]at hx
   |dead=>simp[g5]at hx
  gl:=fun g cs hg=>(h.gl g cs hg).restrict (n:=0) (by simp only[PVal.cl];exact h.gc g cs hg) (fun i b hi _=>absurd hi (vaK _))
  gc:=h.gc
  gx:=fun g cs hg=>by
   obtain⟨k1,k2,k3,k4⟩:=h.gnow hg
   refine⟨k1,fun hT=>?_,k4⟩
   rcases hT with⟨i,hi⟩|hT
   ·obtain⟨j,_,hjb⟩:=hbc hi
    exact k2 j g hjb rfl
   ·cases hL:eD ρ Γ ow g with
    |none=>exact hT hL
    |some L=>
     obtain⟨j,k,hk',_⟩:=hcow hL
     rw[k3]at hk';cases hk'
  step:=.refl _ _ _ _}
 refine(hC.2 Γ bsC _ w vs hpre).mono fun e w' he=>?_
 obtain⟨v,Γ',owC,rfl,hS⟩:=he
 have hle:Γ.Le w Γ' w':=hS.step.le
 have hTE:∀b,bJ bsC (eD ρ Γ ow) b->E.T b\/E.w.heap.size<=b:=by
  intro b hb
  rcases hb with⟨i,hi⟩|hb
  ·obtain⟨j,_,hjb⟩:=hbc hi
   exact h.bn j b hjb
  ·cases hL:eD ρ Γ ow b with
   |none=>exact absurd hL hb
   |some L=>
    obtain⟨j,k,hk,_⟩:=hcow hL
    exact(h.on b _ hk).2
 have hkeep:∀b,b<w.heap.size->¬bJ bsC (eD ρ Γ ow) b->w'.heap[b]? =w.heap[b]?/\Γ' b=Γ b:=fun b hb hT=>hS.step.keep b hb hT
 have hnotT_own:∀{b L},ow b=some L->(Γ b).isSome->(∀j k,L=.box j k->j∉ρ)->¬bJ bsC (eD ρ Γ ow) b:=by
  intro b L hL hg hne hT
  rcases hT with⟨i,hi⟩|hT
  ·obtain⟨j,hij,hjb⟩:=hbc hi
   obtain⟨B,_,hB,_⟩:=hH.box i j hij
   rw[(h.bx j b B hjb hB).1]at hg;cases hg
  ·cases hL':eD ρ Γ ow b with
   |none=>exact hT hL'
   |some L'=>
    obtain⟨j,k,hk,_,hj,_⟩:=hcow hL'
    rw[hL]at hk;cases hk
    exact hne j k rfl hj
 have hnotT_box:∀{j b:Nat},bs[j]? =some (some b)->j∉ρ->¬bJ bsC (eD ρ Γ ow) b:=by
  intro j b hjb hj hT
  rcases hT with⟨i,hi⟩|hT
  ·obtain⟨j',hij,hjb'⟩:=hbc hi
   have:=h.inj _ _ _ hjb hjb'
   subst this
   exact hj (vaw hij)
  ·cases hL':eD ρ Γ ow b with
   |none=>exact hT hL'
   |some L'=>
    obtain⟨j',k,hk,hg,_⟩:=hcow hL'
    have hjl:j<st.boxes.length:=by rw[<-h.bl];exact aj hjb
    rw[(h.bx j b _ hjb (vaa hjl)).1]at hg;cases hg
 have hold:∀{b L},ow b=some L->(Γ b).isSome->(∀j k,L=.box j k->j∉ρ)->pZ ρ d owC ow b=some L:=by
  intro b L hL hg hne
  have hT:=hnotT_own hL hg hne
  have hnone:owC b=none:=by
   cases hx:owC b with
   |none=>rfl
   | some L' =>
    obtain⟨_,k2⟩:=hS.on b L' hx
    rcases k2 with k2|k2
    ·exact absurd k2 hT
    ·have:=(h.on b L hL).1
     exact absurd k2 (vb3.2 this)
  unfold pZ
  rw[hnone]
  simp only[hL]
  cases L with
  |tmp t k=>rfl
  |box j k=>simp only;rw[vav (hne j k rfl)]
 have howned:∀{v:Value} {e:TypeId} {b:Nat},fA P Γ w v e->v.ownBlock=some b->(Γ b).isSome:=by
  intro v e b ho hb
  obtain⟨n,xs,_,o2⟩:=ho
  rw[o2 b hb];rfl
 have hrv:VR Γ' bs w' r v:=hr.from hbb (hS.tm 0 rc v rfl rfl)
 refine⟨v,Γ',pZ ρ d owC ow,rfl,?_,hle⟩
 exact{
  wi:=hS.wi
  sz:=by simp[h.sz]
  tm:=fun t q u hq hu=>by
   simp only[vbu]at hq
   rw[vbr]at hu
   by_cases hdt:d=t
   ·subst hdt
    simp only[if_true]at hq hu
    split at hu
    ·split at hq
     ·cases hu;cases hq;exact hrv
     ·cases hq
    ·rename_i hnd;exact absurd hd hnd
   ·simp only[hdt,if_false]at hq hu
    exact(h.tm t q u hq hu).mono hle (.refl _)
  bl:=by simp[h.bl,hlen]
  bx:=fun j b B hjb hB=>by
   by_cases hj:j∈ρ
   ·obtain⟨i,hij⟩:=va4.1 hj
    obtain⟨B',Bc,hB',hBc,hx⟩:=hH'.box i j hij
    rw[hB]at hB';cases hB'
    obtain⟨k1,k2,k3⟩:=hS.bx i b Bc ((hbb i j hij).trans hjb) hBc
    exact⟨k1,k2,hx.from hbb k3⟩
   ·have hB0:st.boxes[j]? =some B:=(hsame j hj).symm.trans hB
    obtain⟨k1,k2,k3⟩:=h.bx j b B hjb hB0
    obtain⟨q1,q2⟩:=hkeep b k2 (hnotT_box hjb hj)
    exact⟨q2.trans k1,vay k2 hS.step.size,k3.mono hle (.refl _) q1⟩
  inj:=h.inj
  bn:=h.bn
  on:=fun b L hL=>by
   unfold pZ at hL
   split at hL
   ·rename_i i k hb
    obtain⟨k1,k2⟩:=hS.on b _ hb
    exact⟨k1,k2.elim (hTE b) (fun hx=>.inr (vaI h.step.size hx))⟩
   ·rename_i t k hb
    obtain⟨k1,k2⟩:=hS.on b _ hb
    exact⟨k1,k2.elim (hTE b) (fun hx=>.inr (vaI h.step.size hx))⟩
   ·have hsz:=hS.step.size
    split at hL
    ·rename_i j k hb
     exact⟨vay (h.on b _ hb).1 hsz,(h.on b _ hb).2⟩
    ·exact⟨vay (h.on b _ hL).1 hsz,(h.on b _ hL).2⟩
  ot:=fun t k e he=>by
   rcases vaR.1 he with he|he
   ·simp only[van,Prod.mk.injEq]at he
    obtain⟨⟨k',e'⟩,hm,⟨rfl,rfl⟩,rfl⟩:=he
    obtain⟨u,v',h1,h2,h3,h4⟩:=hS.ot 0 k' e' (van.2 ⟨(k',e'),hm,rfl⟩)
    simp at h1;subst h1
    refine⟨v,v',by simp[hd],h2,h3,fun b hb=>?_⟩
    simp only[pZ,h4 b hb]
   ·obtain⟨he,htd⟩:=cV he
    obtain⟨u,v',h1,h2,h3,h4⟩:=h.ot t k e he
    have hq:∀b,v'.ownBlock=some b->¬bJ bsC (eD ρ Γ ow) b:=fun b hb=>hnotT_own (h4 b hb) (howned h3 hb) (fun j k hx=>by cases hx)
    exact⟨u,v',by rw[vaF (fun e=>htd e.symm)];exact h1,h2,h3.same fun b hb=>hkeep b (h3.lt hb) (hq b hb),fun b hb=>hold (h4 b hb) (howned h3 hb) (fun j k hx=>by cases hx)⟩
  ob:=fun j k e cs own b hB hk hjb=>by
   by_cases hj:j∈ρ
   ·obtain⟨i,hij⟩:=va4.1 hj
    obtain⟨B',Bc,hB',hBc,hx⟩:=hH'.box i j hij
    rw[hB]at hB';cases hB'
    cases Bc with
    |cells cs' own'=>
     obtain⟨rfl,_,_⟩:=hx
     obtain⟨v',k1,k2,k3⟩:=hS.ob i k e cs' own b hBc hk ((hbb i j hij).trans hjb)
     refine⟨v',k1,k2,fun b' hb'=>?_⟩
     have hgd:ρ.getD i 0=j:=by rw[vag,hij];rfl
     simp only[pZ,k3 b' hb',hgd]
    |map es=>simp[g5]at hx
    |dead=>simp[g5]at hx
   ·have hB0:st.boxes[j]? =some (.cells cs own):=(hsame j hj).symm.trans hB
    obtain⟨v',k1,k2,k3⟩:=h.ob j k e cs own b hB0 hk hjb
    obtain⟨_,hlt,_⟩:=h.bx j b _ hjb hB0
    have hne:∀j' k',iD.box j k=.box j' k'->j'∉ρ:=fun j' k' hx=>by cases hx;exact hj
    exact⟨v',(bH (hkeep b hlt (hnotT_box hjb hj)).1 k).trans k1,k2.same fun b' hb'=>hkeep b' (k2.lt hb') (hnotT_own (k3 b' hb') (howned k2 hb') hne),fun b' hb'=>hold (k3 b' hb') (howned k2 hb') hne⟩
  gl:=fun g cs hg=>(h.gl g cs hg).mono hle (.refl _)
  gc:=h.gc
  gx:=h.gx
  step:={
   os:=hS.step.os.trans h.step.os
   tape:=hS.step.tape.trans h.step.tape
   output:=hS.step.output.trans h.step.output
   size:=vaI h.step.size hS.step.size
   keep:=fun b hb hT=>by
    have hlt:b<w.heap.size:=vay hb h.step.size
    have hnT:¬bJ bsC (eD ρ Γ ow) b:=fun hx=>(hTE b hx).elim hT (fun hx=>absurd hx (vb3.2 hb))
    obtain⟨k1,k2⟩:=h.step.keep b hb hT
    obtain⟨q1,q2⟩:=hkeep b hlt hnT
    exact⟨q1.trans k1,q2.trans k2⟩
   le:=h.step.le.trans hle}}
end
def wS(P:Program)(GE:List (Nat×List PVal))(fv:PVal)(args:List PVal)(H:List aw)(K:PVal->List (Nat×TypeId)->List aw->Prop):Prop:=
 match fv with
 | .func (.func g) first cap =>
  (hX 0 (first++args++cap)/\∃r ro,C P GE g (first++args++cap) [] [] r ro []/\K r ro H)\/
  (∃(ρ:List Nat) (argsC:List PVal) (Hc:List aw) (rc:PVal) (ro:List (Nat×TypeId)) (Hc' H':List aw) (r:PVal),ρ.Nodup/\C P GE g argsC [] Hc rc ro Hc'/\sU ρ H Hc/\sU ρ H' Hc'/\
   H'.length=H.length/\(∀j:Nat,j∉ρ->H'[j]? =H[j]?)/\zg ρ r rc/\(first++args++cap).length=argsC.length/\
   (∀(i:Nat) p q,(first++args++cap)[i]? =some p->argsC[i]? =some q->zg ρ p q)/\K r ro H')
 |_=>False
def Eu(P:Program)(GE:List (Nat×List PVal))(op:Op)(id:Nat)(v:Operand->PVal)(H:List aw)(K:PVal->List (Nat×TypeId)->List aw->Prop):Prop:=
 match op with
 |.call {callee:=.value f,args,..}=>wS P GE (v f) (args.toList.map v) H K
 |op=>match lX P op id v H with
  |some (p,H')=>K p [] H'
  |none=>False
def pM(st:aq)(dst:Option Tmp)(p:PVal)(ro:List (Nat×TypeId))(H:List aw):aq:=
 match dst with
 |some d=>{tmps:=st.tmps.set d p,boxes:=H,own:=(ro.map fun x=>((d,x.1),x.2))++bI d st.own}
 |none=>{st with boxes:=H}
def mW(P:Program)(t:TypeId)(v:Value):Option TypeId:=
 match v,P.underlying t with
 |.slice none 0 0,some (.slice e)=>some e
 |_,_=>none
def jF(o:Oper)(n:Nat):Bool:=
 match o.op with
 |.call {callee:=.value _,..}=>o.dst.any fun d=>decide (d<n)
 |_=>true
def AB(P:Program)(GE:List (Nat×List PVal))(A:List Nat)(o:Oper)(id:Nat)(K:aq->Prop)(st:aq):Prop:=
 let plain:=jF o st.tmps.length=true/\Eu P GE o.op id (opv GE st.tmps) st.boxes fun p ro H=>K (pM st o.dst p ro H)
 match o.op,o.dst with
 |.assign (.tmp t),some d=>d<st.tmps.length/\K {st with tmps:=st.tmps.set d (st.tmps.getD t .undef),own:=fy d (fun x=>if x.1=t then(d,x.2)else x) st.own}
 |.move (.tmp t),some d=>
  if d∈A then d<st.tmps.length/\K {st with tmps:=st.tmps.set d (st.tmps.getD t .undef),own:=fy d (fun x=>if x.1=t then(d,x.2)else x) st.own}else plain
 |.assign (.const v),some d=>match mW P o.type v with
  |some e=>d<st.tmps.length/\K {st with tmps:=st.tmps.set d (.slice []),own:=((d,0),e)::bI d st.own}
  |none=>plain
 |.move (.const v),some d=>match mW P o.type v with
  |some e=>d<st.tmps.length/\K {st with tmps:=st.tmps.set d (.slice []),own:=((d,0),e)::bI d st.own}
  |none=>plain
 |.extract (.tmp t) i,some d=>match nG (st.tmps.getD t .undef) i with
  |some p=>d<st.tmps.length/\K {st with tmps:=st.tmps.set d p,own:=fy d (fun x=>if x=(t,i)then(d,0)else x) st.own}
  |none=>False
 |.buildSlice T len parts,some d=>match dR P T len (parts.toList.map fun x=>(x.1,opv GE st.tmps x.2)),P.underlying T with
  |some p,some (.slice e)=>d<st.tmps.length/\K {st with tmps:=st.tmps.set d p,own:=((d,0),e)::bI d st.own}
  |_,_=>False
 | .call { callee := .builtin .append,args:=⟨[.tmp t,y]⟩,argTypes:=⟨[T,T']⟩ },some d => match P.underlying T,st.tmps.getD t .undef,opv GE st.tmps y with
  |some (.slice e),.slice es,.slice ns=>match iz P T es ns with
   |some p=>T=T'/\d<st.tmps.length/\((t,0),e)∈st.own/\K {st with tmps:=st.tmps.set d p,own:=((d,0),e)::bI d (st.own.filter fun x=>x.1 !=(t,0))}
   |none=>False
  |_,_,_=>False
 | .load T x,some d =>
  if d∈A then match opv GE st.tmps x,P.underlying T with
   | .bptr i off,some (.slice e) => match st.boxes[i]? with
    |some (.cells cs own)=>match cs[off]? with
     |some p=>d<st.tmps.length/\(off,e)∈own/\K {tmps:=st.tmps.set d p,boxes:=st.boxes.set i (.cells cs (own.filter fun x=>x.1 !=off)),own:=((d,0),e)::bI d st.own}
     |none=>False
    |_=>False
   |_,_=>False
  else plain
 | .store T x (.tmp t),_ => match st.own.find? (fun y => y.1 == (t,0)),opv GE st.tmps x,cH P T (opv GE st.tmps x) (st.tmps.getD t .undef) st.boxes with
  |some (_,e),.bptr i off,some H=>match H[i]?,(st.tmps.getD t .undef).one with
   |some (.cells cs own),true=>K (pM {st with own:=st.own.filter fun x=>x.1 !=(t,0)} o.dst (.val undef) [] (H.set i (.cells cs ((off,e)::own))))
   |_,_=>plain
  |_,_,_=>plain
 |_,_=>plain
section
variable{P:Program}{E:ma}{Γ:aK}{bs:ba}{ow:Nat->Option iD}{w:World}{a:Act}{st:aq}
def ew(P:Program)(E:ma)(bs:ba)(id:Nat)(mk:Bool)(ds:List Deferred)(K:aq->Prop)(a:Act)(w:World):Prop:=
 a.defers=ds/\∃Γ bs' ow st,SR P E Γ bs' ow w a.tmps st/\K st/\(bs'=bs\/(mk=true/\∃b,bs'=bs.set id (some b)))
theorem SR.putv_nil(h:SR P E Γ bs ow w a.tmps st){p:PVal}{v:Value}(hv:VR Γ bs w p v)(dst:Option Tmp){H:List aw}(hH:H=st.boxes):SR P E Γ bs ow w (a.put dst v).tmps (pM st dst p [] H):=by
 subst hH
 cases dst with
 |none=>exact h
 |some d=>exact h.set hv
theorem ck(a:Act)(dst:Option Tmp)(v:Value):(a.put dst v).defers=a.defers:=by cases dst<;>rfl
theorem wG{n:Nat}{l r:List PVal}:hX n (l++r)↔hX n l/\hX n r:=by
 induction l with
 |nil=>simp[hX]
 |cons p l ih=>simp only[vbo,hX,ih];exact⟨fun h=>⟨⟨h.1,h.2.1⟩,h.2.2⟩,fun h=>⟨h.1.1,h.1.2,h.2⟩⟩
theorem uu{l r:List PVal}{x y:Array Value}(hl:x.size=l.length)(h:∀(i:Nat) p v,l[i]? =some p->x[i]? =some v->VR Γ bs w p v)(h':∀(i:Nat) p v,r[i]? =some p->y[i]? =some v->VR Γ bs w p v)
  (i:Nat) (p:PVal) (v:Value) (hp:(l++r)[i]? =some p) (hv:(x++y)[i]? =some v):VR Γ bs w p v:=by
 by_cases hi:i<l.length
 ·rw[vac hi]at hp
  rw[vaE (by omega)]at hv
  exact h i p v hp hv
 ·rw[vae (by omega)]at hp
  rw[vbV (by omega),hl]at hv
  exact h' _ p v hp hv
theorem Fo(h:SR P E Γ bs ow w a.tmps st){o:Oper}{f:Operand}{args:Array Operand}{tys:Array TypeId}(ho:o.op=.call {callee:=.value f,args,argTypes:=tys}){d:Nat}(hdst:o.dst=some d)(hd:d<st.tmps.length)
  {K:PVal->List (Nat×TypeId)->List aw->Prop} (hp:wS P E.GE (opv E.GE st.tmps f) (args.toList.map (opv E.GE st.tmps)) st.boxes K) (jh:Act->World->Prop) (Q:Exit->Act->World->Prop)
  (hn:∀v Γ' ow' w' p ro H,K p ro H->SR P E Γ' bs ow' w' (a.put o.dst v).tmps (pM st o.dst p ro H)->jh (a.put o.dst v) w'):o.wp P a w jh Q:=by
 have hρ:∀x,VR Γ bs w (opv E.GE st.tmps x) (a.eval x):=fun x=>h.opv a.defers x
 unfold wS at hp
 have hf:=hρ f
 split at hp
 case h_2=>exact hp.elim
 rename_i g first cap hfv
 rw[hfv]at hf
 generalize hvf:a.eval f=vf at hf
 cases hf with
 |func _ _ _ fs cs hl hl' h1 h2=>
 have hargs:(fs++args.map a.eval++cs).size=(first++args.toList.map (opv E.GE st.tmps)++cap).length:=by simp[hl,hl']
 have hvr:∀(i:Nat) p v,(first++args.toList.map (opv E.GE st.tmps)++cap)[i]? =some p->(fs++args.map a.eval++cs)[i]? =some v->VR Γ bs w p v:=by
  refine uu (by simp[hl]) (uu hl h1 fun i p v hp hv=>?_) h2
  exact uA hρ args.toList i p v hp (by simpa using hv)
 have hrun:∀hcall:(∀vs w,(callFunc g vs).run P w=.ok (.enter g vs) w),(execOp a.eval o).run P w=.ok (.enter g (fs++args.map a.eval++cs)) w:=by
  intro hcall
  simp[execOp,ho,resolve,hvf,Deferred.ofValue,invoke,hcall]
 have hds:d<a.tmps.size:=by rw[h.sz];exact hd
 unfold Oper.wp
 rcases hp with⟨hcl,r,ro,hC,hK⟩|⟨ρ,argsC,Hc,rc,ro,Hc',H',r,hnd,hC,hH,hH',hlen,hsame,hr,hal,ha,hK⟩
 ·rw[hrun hC.1]
  rw[Oper.upon_enter]
  refine(IB h hds hC hargs hvr hcl).mono fun e w' he=>?_
  obtain⟨v,Γ',ow',rfl,hS,_⟩:=he
  refine hn v Γ' ow' w' r ro st.boxes hK ?_
  rw[hdst];exact hS
 ·rw[hrun hC.1]
  rw[Oper.upon_enter]
  refine(Ha h hds hnd hC hH hH' hlen hsame hr hal ha hargs hvr).mono fun e w' he=>?_
  obtain⟨v,Γ',ow',rfl,hS,_⟩:=he
  refine hn v Γ' ow' w' r ro H' hK ?_
  rw[hdst];exact hS
theorem GQ{o:Oper}{jh:Act->World->Prop}{Q:Exit->Act->World->Prop}{r:Next}{v:Value}{w':World}(hr:r=.value v\/(r=.skip/\v=undef))(h:jh (a.put o.dst v) w'):o.upon P a jh Q (.ok r w'):=by
 rcases hr with rfl|⟨rfl,rfl⟩
 ·exact h
 ·exact h
theorem I8(h:SR P E Γ bs ow w a.tmps st){o:Oper}{id:Nat}(hid:au o.op=true->bs[id]? =some none){K:PVal->List (Nat×TypeId)->List aw->Prop}(hp:Eu P E.GE o.op id (opv E.GE st.tmps) st.boxes K)
  (jh:Act->World->Prop) (Q:Exit->Act->World->Prop)
  (hdst:∀f args tys,o.op=.call {callee:=.value f,args,argTypes:=tys}->∃d,o.dst=some d/\d<st.tmps.length)
  (hn:∀v Γ' bs' ow' w' p ro H,K p ro H->SR P E Γ' bs' ow' w' (a.put o.dst v).tmps (pM st o.dst p ro H)->(bs'=bs\/(au o.op=true/\∃b,bs'=bs.set id (some b)))->jh (a.put o.dst v) w'):o.wp P a w jh Q:=by
 unfold Eu at hp
 split at hp
 ·rename_i f args tys ho
  obtain⟨d,hd,hdl⟩:=hdst f args tys ho
  exact Fo h ho hd hdl hp jh Q fun v Γ' ow' w' p ro H hK hS=>hn v Γ' bs ow' w' p ro H hK hS (.inl rfl)
 ·split at hp
  ·rename_i p H he
   obtain⟨r,v,w',Γ',bs',h1,h2,h3,h4,h5,h6,h7⟩:=I9 h a.defers hid he
   unfold Oper.wp
   rw[show(execOp a.eval o).run P w=.ok r w' from h1]
   refine GQ h2 (hn v Γ' bs' ow w' p [] H hp ?_ ?_)
   ·cases hd:o.dst with
    |none=>exact h3
    |some d=>exact h3.set h4
   ·rcases h6 with h6|⟨hm,h6⟩
    ·exact .inl h6
    ·exact .inr ⟨hm,_,h6⟩
  ·exact hp.elim
theorem F1{o:Oper}{n:Nat}(h:jF o n=true)(f:Operand)(args:Array Operand)(tys:Array TypeId)(ho:o.op=.call {callee:=.value f,args,argTypes:=tys}):∃d,o.dst=some d/\d<n:=by
 unfold jF at h
 rw[ho]at h
 cases hd:o.dst with
 |none=>rw[hd]at h;cases h
 |some d=>rw[hd]at h;exact⟨d,rfl,by simpa using h⟩
theorem ew.of{o:Oper}{id:Nat}{K:aq->Prop}(h:SR P E Γ bs ow w a.tmps st)(hid:au o.op=true->bs[id]? =some none)(hc:jF o st.tmps.length=true)
  (hp:Eu P E.GE o.op id (opv E.GE st.tmps) st.boxes fun p ro H=>K (pM st o.dst p ro H)) (Q:Exit->Act->World->Prop):
  o.wp P a w (ew P E bs id (au o.op) a.defers K) Q:=
 I8 h hid hp _ Q (F1 hc) fun _ Γ' bs' ow' _ _ _ _ hK hS hb=>⟨ck _ _ _,Γ',bs',ow',_,hS,hK,hb⟩
theorem BP(h:SR P E Γ bs ow w a.tmps st){t:Nat}{v:Value}(ht:a.tmps[t]? =some v):VR Γ bs w (st.tmps.getD t .undef) v:=by
 have hlt:t<st.tmps.length:=by rw[<-h.sz];exact(vam.1 ht).1
 have:=h.tm t _ v (vaa hlt) ht
 rwa[vag,vaa hlt]
theorem jd{t:Nat}{v:Value}(ht:a.tmps[t]? =some v):a.eval (.tmp t)=v:=by
 show a.tmps.getD t undef=v
 rw[vas,ht];rfl
theorem rt(h:SR P E Γ bs ow w a.tmps st){o:Oper}{id t d:Nat}{K:aq->Prop}(ho:o.op=.assign (.tmp t)\/o.op=.move (.tmp t))(hdst:o.dst=some d)(hd:d<st.tmps.length)
  (hK:K {st with tmps:=st.tmps.set d (st.tmps.getD t .undef),own:=fy d (fun x=>if x.1=t then(d,x.2)else x) st.own}) (Q:Exit->Act->World->Prop):
  o.wp P a w (ew P E bs id (au o.op) a.defers K) Q:=by
 unfold Oper.wp
 have hrun:(execOp a.eval o).run P w=.ok (.value (a.eval (.tmp t))) w:=by rcases ho with ho|ho<;>simp[execOp,ho]
 rw[hrun,Oper.upon_value]
 have hv:VR Γ bs w (st.tmps.getD t .undef) (a.eval (.tmp t)):=h.opv a.defers (.tmp t)
 have:=h.setRen (d:=d) (p:=st.tmps.getD t .undef) hv (fun x=>if x.1=t then(d,x.2)else x) (by rw[h.sz];exact hd) fun t' k' e' _ ht'=>by
  by_cases hx:t'=t
  ·subst hx
   exact .inr ⟨k',by simp,fun u v' hu hv' _=>by rw[jd hu];exact hv'⟩
  ·exact .inl (by simp[hx])
 have hput:∀v,(a.put o.dst v).tmps=a.tmps.setIfInBounds d v:=fun v=>by rw[hdst];rfl
 rw[<-hput]at this
 exact⟨ck _ _ _,Γ,bs,_,_,this,hK,.inl rfl⟩
theorem zG(h:SR P E Γ bs ow w a.tmps st){o:Oper}{id d:Nat}{e:TypeId}{v:Value}{K:aq->Prop}(ho:o.op=.assign (.const v)\/o.op=.move (.const v))(hdst:o.dst=some d)(hd:d<st.tmps.length)
  (hn:mW P o.type v=some e) (hK:K {st with tmps:=st.tmps.set d (.slice []),own:=((d,0),e)::bI d st.own}) (Q:Exit->Act->World->Prop):
  o.wp P a w (ew P E bs id (au o.op) a.defers K) Q:=by
 unfold Oper.wp
 have hrun:(execOp a.eval o).run P w=.ok (.value v) w:=by rcases ho with ho|ho<;>simp[execOp,ho,Act.eval]
 rw[hrun,Oper.upon_value]
 have hv:v=.slice none 0 0:=by
  unfold mW at hn
  split at hn
  ·rfl
  ·cases hn
 subst hv
 have h1:=h.set (d:=d) (p:=.slice []) (v:=.slice none 0 0) .sliceNil
 have hds:d<a.tmps.size:=by rw[h.sz];exact hd
 have h2:=h1.addOwn (d:=d) (k:=0) (e:=e) (u:=.slice none 0 0) (v:=.slice none 0 0) (by simp[hds]) rfl ⟨0,[],World.ownsRow_nil _ _ _ _,fun b hb=>by simp[Value.ownBlock]at hb⟩ (fun b hb=>by simp[Value.ownBlock]at hb)
 have hput:∀v,(a.put o.dst v).tmps=a.tmps.setIfInBounds d v:=fun v=>by rw[hdst];rfl
 rw[<-hput]at h2
 exact⟨ck _ _ _,Γ,bs,_,_,h2,hK,.inl rfl⟩
theorem DJ(h:SR P E Γ bs ow w a.tmps st){o:Oper}{id t i d:Nat}{p:PVal}{K:aq->Prop}(ho:o.op=.extract (.tmp t) i)(hdst:o.dst=some d)(hd:d<st.tmps.length)
  (hp:nG (st.tmps.getD t .undef) i=some p)
  (hK:K {st with tmps:=st.tmps.set d p,own:=fy d (fun x=>if x=(t,i)then(d,0)else x) st.own}) (Q:Exit->Act->World->Prop):
  o.wp P a w (ew P E bs id (au o.op) a.defers K) Q:=by
 unfold Oper.wp
 obtain⟨v,hr,hv⟩:=yg (P:=P) (h.opv a.defers (.tmp t)) hp
 have hrun:(execOp a.eval o).run P w=.ok (.value v) w:=by simp[execOp,ho,hr]
 rw[hrun,Oper.upon_value]
 have htup:∃vs,a.eval (.tmp t)=.tuple vs/\vs[i]? =some v:=by
  have hx:(Instr.extract (a.eval (.tmp t)) i).run P w=.ok v w:=hr
  unfold Instr.extract at hx
  split at hx
  ·rename_i vs he
   split at hx
   ·rename_i u hu
    simp at hx;subst hx
    exact⟨vs,he,hu⟩
   ·simp at hx
  ·simp at hx
 obtain⟨vs,htu,hvi⟩:=htup
 have:=h.setRen (d:=d) (p:=p) hv (fun x=>if x=(t,i)then(d,0)else x) (by rw[h.sz];exact hd) fun t' k' e' _ ht'=>by
  by_cases hx:(t',k')=(t,i)
  ·cases hx
   refine .inr ⟨0,by simp,fun u v' hu hv' ho'=>?_⟩
   rw[jd hu]at htu
   subst htu
   have hvv:v=v':=by
    have:vs[i]? =some v':=hv'
    rw[hvi]at this;cases this;rfl
   subst hvv
   obtain⟨n,xs,⟨_,ho'⟩,_⟩:=ho'
   rcases ho' with⟨rfl,_⟩|⟨g,cap,cur,rfl,_⟩<;>rfl
  ·exact .inl (by simp[hx])
 have hput:∀v,(a.put o.dst v).tmps=a.tmps.setIfInBounds d v:=fun v=>by rw[hdst];rfl
 rw[<-hput]at this
 exact⟨ck _ _ _,Γ,bs,_,_,this,hK,.inl rfl⟩
theorem pY(h:SR P E Γ bs ow w a.tmps st){o:Oper}{id len d:Nat}{T e:TypeId}{parts:Array (Nat×Operand)}{p:PVal}{K:aq->Prop}(ho:o.op=.buildSlice T len parts)(hdst:o.dst=some d)(hd:d<st.tmps.length)
  (hT:P.underlying T=some (.slice e)) (hp:dR P T len (parts.toList.map fun x=>(x.1,opv E.GE st.tmps x.2))=some p)
  (hK:K {st with tmps:=st.tmps.set d p,own:=((d,0),e)::bI d st.own}) (Q:Exit->Act->World->Prop):
  o.wp P a w (ew P E bs id (au o.op) a.defers K) Q:=by
 have hρ:∀x,VR Γ bs w (opv E.GE st.tmps x) (a.eval x):=fun x=>h.opv a.defers x
 obtain⟨k1,k2⟩:=ql hρ parts.toList
 obtain⟨v,w',Γ',h1,h2,h3,h4,h5,h6⟩:=rY h k1 k2 hp
 have hrun:(execOp a.eval o).run P w=.ok (.value v) w':=by
  have:(parts.map fun x=>(x.1,a.eval x.2))=(parts.toList.map fun x=>(x.1,a.eval x.2)).toArray:=by apply vbv;simp
  simp only[execOp,ho]
  rw[this]
  simp[h1]
 unfold Oper.wp
 rw[hrun,Oper.upon_value]
 have hds:d<a.tmps.size:=by rw[h.sz];exact hd
 have g1:=h2.set (d:=d) h4
 have g2:=g1.addOwn (d:=d) (k:=0) (e:=e) (u:=v) (v:=v) (by simp[hds]) (by
   obtain⟨n,xs,⟨_,ho'⟩,_⟩:=h5 e hT
   rcases ho' with⟨rfl,_⟩|⟨g,cap,cur,rfl,_⟩<;>rfl) (h5 e hT) (fun b hb=>by
   have:=h6 b hb;subst this
   refine⟨?_,.inr h.step.size⟩
   cases hL:ow w.heap.size with
   |none=>rfl
   |some L=>exact absurd (h.on _ L hL).1 (vbD _))
 have hput:∀v,(a.put o.dst v).tmps=a.tmps.setIfInBounds d v:=fun v=>by rw[hdst];rfl
 rw[<-hput]at g2
 exact⟨ck _ _ _,Γ',bs,_,_,g2,hK,.inl rfl⟩
theorem fA.part{v:Value}{e:TypeId}(h:fA P Γ w v e):gB v 0=some v:=by
 obtain⟨n,xs,⟨_,ho⟩,_⟩:=h
 rcases ho with⟨rfl,_⟩|⟨g,cap,cur,rfl,_⟩<;>rfl
theorem Fj{u v:Value}(hu:gB u 0=some v)(hs:∀vs,u≠.tuple vs)(ha:∀vs,u≠.agg vs):u=v:=by
 cases u<;>simp[gB]at hu<;>first|exact hu|(exact absurd rfl (hs _))|(exact absurd rfl (ha _))
theorem xF(h:SR P E Γ bs ow w a.tmps st){o:Oper}{id t d:Nat}{T e:TypeId}{y:Operand}{es ns:List (List PVal)}{p:PVal}{K:aq->Prop}(ho:o.op=.call {callee:=.builtin .append,args:=⟨[.tmp t,y]⟩,argTypes:=⟨[T,T]⟩})
  (hdst:o.dst=some d) (hd:d<st.tmps.length) (hT:P.underlying T=some (.slice e)) (het:st.tmps.getD t .undef=.slice es) (hen:opv E.GE st.tmps y=.slice ns) (hp:iz P T es ns=some p) (hmem:((t,0),e)∈st.own)
  (hK:K {st with tmps:=st.tmps.set d p,own:=((d,0),e)::bI d (st.own.filter fun x=>x.1 !=(t,0))}) (Q:Exit->Act->World->Prop):
  o.wp P a w (ew P E bs id (au o.op) a.defers K) Q:=by
 obtain⟨u,v,h1,h2,h3,h4⟩:=h.ot t 0 e hmem
 have hvt:=BP h h1
 rw[het]at hvt
 have huv:u=v:=Fj h2 (fun vs hx=>by subst hx;cases hvt) (fun vs hx=>by subst hx;cases hvt)
 subst huv
 have hf:=h.freeT t 0
 have hy:VR Γ bs w (opv E.GE st.tmps y) (a.eval y):=h.opv a.defers y
 rw[hen]at hy
 obtain⟨v',w',Γ',r1,r2,r3,r4,r5,r6⟩:=Gq (ty:=o.type) hf hT hvt hy h3 (fun b hb=>⟨by simp[h4 b hb],(h.on b _ (h4 b hb)).2⟩) hp
 have hrun:(execOp a.eval o).run P w=.ok (.value v') w':=by
  simp[execOp,ho,resolve,invoke,builtin,jd h1,r1]
 unfold Oper.wp
 rw[hrun,Oper.upon_value]
 have hds:d<a.tmps.size:=by rw[h.sz];exact hd
 have g1:=r2.set (d:=d) r4
 have g2:=g1.addOwn (d:=d) (k:=0) (e:=e) (u:=v') (v:=v') (by simp[hds]) r5.part r5 r6
 have hput:∀v,(a.put o.dst v).tmps=a.tmps.setIfInBounds d v:=fun v=>by rw[hdst];rfl
 rw[<-hput]at g2
 exact⟨ck _ _ _,Γ',bs,_,_,g2,hK,.inl rfl⟩
theorem vC(h:SR P E Γ bs ow w a.tmps st){o:Oper}{id i off d:Nat}{T e:TypeId}{x:Operand}{p:PVal}{cs:List PVal}{own:List (Nat×TypeId)}{K:aq->Prop}(ho:o.op=.load T x)
  (hdst:o.dst=some d) (hd:d<st.tmps.length) (hT:P.underlying T=some (.slice e)) (hx:opv E.GE st.tmps x=.bptr i off) (hB:st.boxes[i]? =some (.cells cs own)) (hp:cs[off]? =some p) (hmem:(off,e)∈own)
  (hK:K {tmps:=st.tmps.set d p,boxes:=st.boxes.set i (.cells cs (own.filter fun x=>x.1 !=off)),own:=((d,0),e)::bI d st.own}) (Q:Exit->Act->World->Prop):
  o.wp P a w (ew P E bs id (au o.op) a.defers K) Q:=by
 have hvx:VR Γ bs w (opv E.GE st.tmps x) (a.eval x):=h.opv a.defers x
 obtain⟨v,hr,hv⟩:=zM h hvx (t:=T) (p:=p) (by rw[hx];simp only[kP,hB,ch,hT];rw[List.head?_drop];exact hp)
 have hrun:(execOp a.eval o).run P w=.ok (.value v) w:=by simp[execOp,ho,hr]
 unfold Oper.wp
 rw[hrun,Oper.upon_value]
 rw[hx]at hvx
 generalize hve:a.eval x=vx at hvx hr
 cases hvx with
 |bptr _ _ b hb=>
 obtain⟨v',q1,q2,q3⟩:=h.ob i off e cs own b hB hmem hb
 have hvv:v=v':=by
  have:(loadVar T ⟨b,off,none⟩).run P w=.ok v w:=by simpa[Instr.loadAt,Instr.sureAddr]using hr
  simp[loadVar,isAgg,run_underlying hT,q1]at this
  exact this.symm
 subst hvv
 have hds:d<a.tmps.size:=by rw[h.sz];exact hd
 have g0:=h.freeB (j:=off) hB
 have g1:=g0.set (d:=d) hv
 have g2:=g1.addOwn (d:=d) (k:=0) (e:=e) (u:=v) (v:=v) (by simp[hds]) q2.part q2 (fun b' hb'=>⟨by simp[q3 b' hb'],(h.on b' _ (q3 b' hb')).2⟩)
 have hput:∀v,(a.put o.dst v).tmps=a.tmps.setIfInBounds d v:=fun v=>by rw[hdst];rfl
 rw[<-hput]at g2
 exact⟨ck _ _ _,Γ,bs,_,_,g2,hK,.inl rfl⟩
theorem uh(h:SR P E Γ bs ow w a.tmps st){o:Oper}{id i off t:Nat}{T e:TypeId}{x:Operand}{cs:List PVal}{own:List (Nat×TypeId)}{H:List aw}{K:aq->Prop}(ho:o.op=.store T x (.tmp t))
  (hx:opv E.GE st.tmps x=.bptr i off) (hp:cH P T (opv E.GE st.tmps x) (st.tmps.getD t .undef) st.boxes=some H) (hB:H[i]? =some (.cells cs own)) (hone:(st.tmps.getD t .undef).one=true) (hmem:((t,0),e)∈st.own)
  (hK:K (pM {st with own:=st.own.filter fun x=>x.1 !=(t,0)} o.dst (.val undef) [] (H.set i (.cells cs ((off,e)::own))))) (Q:Exit->Act->World->Prop):
  o.wp P a w (ew P E bs id (au o.op) a.defers K) Q:=by
 obtain⟨u,v,h1,h2,h3,h4⟩:=h.ot t 0 e hmem
 have hvt:=BP h h1
 have hu1:=VR.one hvt hone
 have huv:u=v:=Fj h2 (fun vs hx=>by subst hx;cases hu1) (fun vs hx=>by subst hx;cases hu1)
 subst huv
 have hvx:VR Γ bs w (opv E.GE st.tmps x) (a.eval x):=h.opv a.defers x
 have hf:=h.freeT t 0
 obtain⟨w',r1,r2,r3⟩:=C8 hf hvx hvt hp
 have hrun:(execOp a.eval o).run P w=.ok .skip w':=by simp[execOp,ho,jd h1,r1]
 unfold Oper.wp
 rw[hrun,Oper.upon_skip]
 rw[hx]at hvx
 generalize hve:a.eval x=vx at hvx r1
 cases hvx with
 |bptr _ _ b hb=>
 have hilt:i<st.boxes.length:=by rw[<-h.bl];exact aj hb
 have hgb:Γ b=none:=(h.bx i b _ hb (vaa hilt)).1
 have hw:∃x0,w.cell? ⟨b,off,none⟩=some x0/\w'=w.setCell ⟨b,off,none⟩ u:=by
  have hr:(storeVar T ⟨b,off,none⟩ u).run P w=.ok () w':=by
   simpa[Instr.storeAt,Instr.sureAddr]using r1
  rw[hx]at hp
  unfold cH at hp
  have hpc:bZ (st.tmps.getD t .undef)=some [st.tmps.getD t .undef]:=by
   unfold bZ
   split
   ·rename_i c hc;rw[hc]at hone;cases hone
   ·rw[var hone]
  simp only[hpc]at hp
  split at hp
  ·rename_i cs0 own0 hB0
   split at hp
   ·rename_i hc
    obtain⟨c1,cinf,c2,_⟩:=hc
    obtain⟨inf,cinf⟩:=vaz.1 cinf
    obtain⟨c,t',e1,e2,e3,e4⟩:=h.box_cells hb hB0
    have hlt:off<c.size:=by simp at c2;omega
    have hcell:w.cell? ⟨b,off,none⟩=some c[off]:=by rw[e4];simp[hlt]
    refine⟨_,hcell,?_⟩
    have hfr:w.frozen? ⟨b,off,none⟩=false:=frozen_of_row w b off c t' e1
    unfold storeVar at hr
    rw[Am hu1]at hr
    have c1':P.cellsOf T=1:=by simpa using c1.symm
    simp[run_sizeOf w cinf,c1',storeCells,Addr.add_lit,run_store _ _ _ _ _ hu1,hcell,hfr]at hr
    exact hr.symm
   ·cases hp
  ·cases hp
 obtain⟨x0,hx0,rfl⟩:=hw
 have hcell':(w.setCell ⟨b,off,none⟩ u).cell? ⟨b,off,none⟩=some u:=World.cell?_setCell_same w _ _ hx0
 have hown':fA P Γ (w.setCell ⟨b,off,none⟩ u) u e:=h3.same fun b' hb'=>by
  refine⟨heap_setCell_other w _ _ _ (fun he=>?_),rfl⟩
  obtain⟨n,xs,_,o2⟩:=h3
  have:=o2 b' hb'
  rw[he]at this
  have hbb:(⟨b,off,none⟩:Addr).block=b:=rfl
  rw[hbb,hgb]at this;cases this
 have g1:=r2.addOwnB (i:=i) (b:=b) (j:=off) (e:=e) (v:=u) hb hB hcell' hown' (fun b' hb'=>⟨by simp[h4 b' hb'],(h.on b' _ (h4 b' hb')).2⟩)
 exact⟨ck _ _ _,Γ,bs,_,_,g1.putv_nil (.val undef) o.dst rfl,hK,.inl rfl⟩
end
def nH(ops:Array Oper)(tmps:List PVal)(j:Nat):Option (Option Bool):=
 match(ops[j]?).bind (·.dst)with
 |none=>some none
 |some t=>match tmps[t]? with
  |none=>some none
  |some (.bool b)=>some (some b)
  |some .undef=>none
  |some (.val (.bool b))=>some (some b)
  |some _=>some none
def jJ(P:Program)(o:Oper):Option aw:=
 match o.op with
 |.alloc t=>some (match gI P t with
  |some zs=>.cells zs (GF P t)
  |none=>.dead)
 |.box .. =>some .dead
 |.makeMap .. =>some (.map [])
 |_=>none
def ek(P:Program)(ops:List Oper):List aw:=ops.filterMap (jJ P)
section
variable{P:Program}{E:ma}{Γ:aK}{bs:ba}{ow:Nat->Option iD}{w:World}{a:Act}{st:aq}
theorem GB(h:SR P E Γ bs ow w a.tmps st){A:List Nat}{o:Oper}{id:Nat}(hid:au o.op=true->bs[id]? =some none){K:aq->Prop}(hp:AB P E.GE A o id K st)(Q:Exit->Act->World->Prop):o.wp P a w (ew P E bs id (au o.op) a.defers K) Q:=by
 unfold AB at hp
 split at hp
 case h_1 t d ho hd=>exact rt h (.inl ho) hd hp.1 hp.2 Q
 case h_2 t d ho hd=>
  split at hp
  ·exact rt h (.inr ho) hd hp.1 hp.2 Q
  ·exact ew.of h hid hp.1 hp.2 Q
 case h_3 v d ho hd=>
  split at hp
  ·rename_i e he;exact zG h (.inl ho) hd hp.1 he hp.2 Q
  ·exact ew.of h hid hp.1 hp.2 Q
 case h_4 v d ho hd=>
  split at hp
  ·rename_i e he;exact zG h (.inr ho) hd hp.1 he hp.2 Q
  ·exact ew.of h hid hp.1 hp.2 Q
 case h_5 t i d ho hd=>
  split at hp
  ·rename_i p he;exact DJ h ho hd hp.1 he hp.2 Q
  ·exact hp.elim
 case h_6 T len parts d ho hd=>
  split at hp
  ·rename_i p e he hT;exact pY h ho hd hp.1 hT he hp.2 Q
  ·exact hp.elim
 case h_7 t y T T' d ho hd=>
  split at hp
  ·rename_i e es ns hT he hn
   split at hp
   ·rename_i p hap
    obtain⟨rfl,h1,h2,h3⟩:=hp
    exact xF h ho hd h1 hT he hn hap h2 h3 Q
   ·exact hp.elim
  ·exact hp.elim
 case h_8 T x d ho hd=>
  split at hp
  ·split at hp
   ·rename_i i off e hx hT
    split at hp
    ·rename_i cs own hB
     split at hp
     ·rename_i p hc
      exact vC h ho hd hp.1 hT hx hB hc hp.2.1 hp.2.2 Q
     ·exact hp.elim
    ·exact hp.elim
   ·exact hp.elim
  ·exact ew.of h hid hp.1 hp.2 Q
 case h_9 T x t ho=>
  split at hp
  ·rename_i y e i off H hf hx hst
   split at hp
   ·rename_i cs own hB hone
    have hmem:((t,0),e)∈st.own:=by
     have h1:=vba hf
     have h2:=vbF hf
     simp only[vaP]at h2
     subst h2;exact h1
    exact uh h ho hx hst hB hone hmem hp Q
   ·exact ew.of h hid hp.1 hp.2 Q
  ·exact ew.of h hid hp.1 hp.2 Q
 case h_10=>exact ew.of h hid hp.1 hp.2 Q
theorem Az(h:SR P E Γ bs ow w a.tmps st){ops:Array Oper}{j:Nat}{x:Option Bool}(hg:nH ops st.tmps j=some x):yielded ops a.tmps j=x:=by
 unfold nH at hg
 unfold yielded
 cases hd:(ops[j]?).bind (·.dst)with
 |none=>rw[hd]at hg;cases hg;rfl
 | some t =>
  rw[hd]at hg
  simp only[vab]
  simp only at hg
  cases hp:st.tmps[t]? with
  | none =>
   rw[hp]at hg;cases hg
   have:a.tmps[t]? =none:=by
    rw[List.getElem?_eq_none_iff]at hp
    rw[vbX,h.sz];exact hp
   rw[this]
  | some p =>
   have hlt:t<a.tmps.size:=by rw[h.sz];exact aj hp
   have hat:a.tmps[t]? =some a.tmps[t]:=by simp[hlt]
   have hv:=h.tm t p _ hp hat
   rw[hp]at hg
   rw[hat]
   generalize a.tmps[t]=v at hv
   cases p<;>(try simp only at hg)
   case undef=>cases hg
   case bool b=>cases hg;cases hv;rfl
   case val u=>
    cases hv
    cases v<;>(try simp only at hg)<;>cases hg<;>rfl
   all_goals (cases hg;cases hv<;>rfl)
theorem SR.extend(h:SR P E Γ bs ow w a.tmps st)(X:List aw):SR P E Γ (bs++List.replicate X.length none) ow w a.tmps {st with boxes:=st.boxes++X}:=by
 have hget:∀{i b:Nat},(bs++List.replicate X.length none)[i]? =some (some b)->bs[i]? =some (some b):=by
  intro i b hi
  by_cases hlt:i<bs.length
  ·rwa[vac hlt]at hi
  ·rw[vae (by omega),vaH]at hi
   split at hi<;>cases hi
 have hsub:bs.Sub (bs++List.replicate X.length none):=fun i b hi=>by rw[vac (aj hi)];exact hi
 have hbox:∀{i b:Nat} {B:aw},bs[i]? =some (some b)->(st.boxes++X)[i]? =some B->st.boxes[i]? =some B:=by
  intro i b B hi hB
  rwa[vac (by rw[<-h.bl];exact aj hi)]at hB
 exact{h with
  tm:=fun t p v hp hv=>(h.tm t p v hp hv).mono (.refl _ _) hsub
  bl:=by simp[h.bl]
  bx:=fun i b B hi hB=>by
   obtain⟨h1,h2,h3⟩:=h.bx i b B (hget hi) (hbox (hget hi) hB)
   exact⟨h1,h2,h3.mono (.refl _ _) hsub rfl⟩
  inj:=fun i j b hi hj=>h.inj i j b (hget hi) (hget hj)
  bn:=fun i b hi=>h.bn i b (hget hi)
  ob:=fun i j e cs own b hB hj hi=>h.ob i j e cs own b (hbox (hget hi) hB) hj (hget hi)
  gl:=fun g cs hg=>(h.gl g cs hg).mono (.refl _ _) hsub}
def JA(bs0 bs:ba):Prop:=∀i:Nat,i<bs0.length->bs[i]? =bs0[i]?
def FE(P:Program)(E:ma)(bs0:ba)(st:aq)(a:Act)(w:World):Prop:=∃Γ bs ow,SR P E Γ bs ow w a.tmps st/\JA bs0 bs
def bG(ops:List Oper):Nat:=(ops.filter fun o=>au o.op).length
theorem Bf(P:Program)(ops:List Oper):(ek P ops).length=bG ops:=by
 unfold ek bG
 induction ops with
 |nil=>rfl
 |cons o ops ih=>
  simp only[List.filterMap_cons,vbp]
  cases ho:o.op<;>simp[jJ,au,ho,ih]
end
def bP(P:Program):Op->Nat
 |.load .. |.lookup .. =>2
 |.store .. |.mapUpdate .. =>3
 | .call c => match c.callee with
  |.value (.func _)=>0
  |.value _=>3
  | .builtin .len => match c.argTypes.toList with
   |[t]=>(match P.underlying t with
    |some (.map ..)=>2
    |_=>0)
   |_=>0
  |_=>0
 |_=>0
def fF(acc:List Nat)(o:Oper):Nat:=o.after.toList.foldl (fun s e=>if Region.binds .any e then s|||2 ^ e.on|||acc.getD e.on 0 else s) 0
def xD(ops:List Oper):List Nat:=ops.foldl (fun acc o=>acc++[fF acc o]) []
def looks(ops:Array Oper)(o:Oper):List Tmp:=
 (o.op.operands.toList.filterMap fun|.tmp t=>some t|_=>none)++(match o.guard with
  |some (j,_)=>((ops[j]?).bind (·.dst)).toList
  |none=>[])
section
variable{P:Program}{GE:List (Nat×List PVal)}
theorem EW{acc:List Nat}{o:Oper}{i:Nat}(h:(fF acc o).testBit i=true):∃e∈o.after.toList,Region.binds .any e=true/\(e.on=i\/(acc.getD e.on 0).testBit i=true):=by
 unfold fF at h
 have key:∀(l:List Edge) (s:Nat),(l.foldl (fun s e=>if Region.binds .any e then s|||2 ^ e.on|||acc.getD e.on 0 else s) s).testBit i=true->
   s.testBit i=true\/∃e∈l,Region.binds .any e=true/\(e.on=i\/(acc.getD e.on 0).testBit i=true):=by
  intro l
  induction l with
  |nil=>intro s hs;exact .inl hs
  | cons e l ih =>
   intro s hs
   simp only[List.foldl_cons]at hs
   rcases ih _ hs with hs'|⟨e',h1,h2⟩
   ·split at hs'
    ·rename_i hb
     simp only[Nat.testBit_or,vaU]at hs'
     rcases hs' with(hs'|hs')|hs'
     ·exact .inl hs'
     ·refine .inr ⟨e,by simp,hb,.inl ?_⟩
      rw[Nat.testBit_two_pow]at hs'
      simpa using hs'
     ·exact .inr ⟨e,by simp,hb,.inr hs'⟩
    ·exact .inl hs'
   ·exact .inr ⟨e',by simp[h1],h2⟩
 rcases key _ 0 h with h0|h0
 ·simp at h0
 ·exact h0
theorem D8(ops:List Oper):(xD ops).length=ops.length/\∀(j i:Nat),((xD ops).getD j 0).testBit i=true->∃o,ops[j]? =some o/\∃e∈o.after.toList,Region.binds .any e=true/\(e.on=i\/(e.on<j/\((xD ops).getD e.on 0).testBit i=true)):=by
 unfold xD
 have key:∀(rest pre:List Oper) (acc:List Nat),acc.length=pre.length->
   (∀(j i:Nat),(acc.getD j 0).testBit i=true->∃o,(pre++rest)[j]? =some o/\∃e∈o.after.toList,Region.binds .any e=true/\(e.on=i\/(e.on<j/\(acc.getD e.on 0).testBit i=true)))->
   (rest.foldl (fun acc o=>acc++[fF acc o]) acc).length=(pre++rest).length/\∀(j i:Nat),((rest.foldl (fun acc o=>acc++[fF acc o]) acc).getD j 0).testBit i=true->
    ∃o,(pre++rest)[j]? =some o/\∃e∈o.after.toList,Region.binds .any e=true/\(e.on=i\/(e.on<j/\((rest.foldl (fun acc o=>acc++[fF acc o]) acc).getD e.on 0).testBit i=true)):=by
  intro rest
  induction rest with
  |nil=>intro pre acc hl h;exact⟨by simpa using hl,by simpa using h⟩
  | cons o rest ih =>
   intro pre acc hl h
   simp only[List.foldl_cons]
   have hsplit:pre++o::rest=(pre++[o])++rest:=by simp
   rw[hsplit]
   refine ih (pre++[o]) (acc++[fF acc o]) (by simp[hl]) (fun j i hb=>?_)
   have hlow:∀m,m<acc.length->(acc++[fF acc o]).getD m 0=acc.getD m 0:=fun m hm=>by
    rw[vag,vag,vac hm]
   by_cases hj:j<acc.length
   ·rw[hlow j hj]at hb
    obtain⟨o',h1,e,h2,h3,h4⟩:=h j i hb
    refine⟨o',by rw[<-hsplit];exact h1,e,h2,h3,h4.imp id fun hx=>⟨hx.1,?_⟩⟩
    rw[hlow _ (by omega)];exact hx.2
   ·by_cases hj2:j=acc.length
    ·subst hj2
     have:(acc++[fF acc o]).getD acc.length 0=fF acc o:=by
      rw[vag,vae (vaq _)];simp
     rw[this]at hb
     obtain⟨e,h1,h2,h3⟩:=EW hb
     refine⟨o,by rw[hl];simp,e,h1,h2,?_⟩
     rcases h3 with h3|h3
     ·exact .inl h3
     ·have hlt:e.on<acc.length:=by
       by_cases hlt:e.on<acc.length
       ·exact hlt
       ·rw[vag,vax (by omega)]at h3;simp at h3
      exact .inr ⟨hlt,by rw[hlow _ hlt];exact h3⟩
    ·rw[vag,vax (by simp;omega)]at hb;simp at hb
 have:=key ops [] [] rfl (fun j i hb=>by simp at hb)
 simpa using this
end
section
variable{P:Program}{GE:List (Nat×List PVal)}
theorem Ja{op:Op}{id:Nat}{v:Operand->PVal}{H H':List aw}{p:PVal}(hc:bP P op≠3)(hm:au op=false)(h:lX P op id v H=some (p,H')):H'=H:=by
 unfold lX at h
 split at h
 all_goals first
  |(cases h;done)
  |(cases h;rfl)
  |(obtain⟨q,_,he⟩:=cP h;cases he;rfl)
  |(exact absurd rfl hc)
  |(simp[au]at hm;done)
  |(split at h<;>first|(cases h;rfl)|cases h)
theorem Lw{op:Op}{id:Nat}{v:Operand->PVal}{H:List aw}{p:PVal}(hc:bP P op<2)(hm:au op=false)(h:lX P op id v H=some (p,H))(H2:List aw):lX P op id v H2=some (p,H2):=by
 unfold lX at h ⊢
 split at h
 case h_24 x t=>
  obtain⟨q,hq,he⟩:=cP h
  cases he
  simp only[bP]at hc
  have:wV P t (v x) H2=wV P t (v x) H:=by
   unfold wV
   split<;>first|rfl|skip
   rename_i hu _
   simp[hu]at hc
  rw[this,hq];rfl
 all_goals first
  |(cases h;done)
  |(cases h;rfl)
  |(obtain⟨q,hq,he⟩:=cP h;cases he;simp only[hq,vad];done)
  |(simp[bP]at hc;done)
  |(simp[au]at hm;done)
  |(split at h<;>first|(cases h;done)|(cases h;rfl)|(rename_i hv;cases h;simp only[hv];done))
theorem xS{l:List Operand}{v v':Operand->PVal}(h:∀x∈l,v x=v' x):l.map v=l.map v':=vaZ h
theorem Kp{op:Op}{id:Nat}{v v':Operand->PVal}{H:List aw}(h:∀x∈op.operands.toList,v x=v' x):lX P op id v H=lX P op id v' H:=by
 unfold lX
 split
 all_goals (simp only[Op.operands,Call.operands]at h)
 all_goals first
  |(simp at h;simp[h];done)
  |skip
 case h_7 t parts=>
  rw[vaZ (f:=fun x:Nat×Operand=>(x.1,v x.2)) (g:=fun x=>(x.1,v' x.2)) fun x hx=>by rw[h x.2 (van.2 ⟨x,hx,rfl⟩)]]
 case h_8 t len parts=>
  rw[vaZ (f:=fun x:Nat×Operand=>(x.1,v x.2)) (g:=fun x=>(x.1,v' x.2)) fun x hx=>by rw[h x.2 (van.2 ⟨x,hx,rfl⟩)]]
 case h_15 fn first cap=>
  rw[xS fun x hx=>h x (by simp at hx ⊢;exact .inl hx),xS fun x hx=>h x (by simp at hx ⊢;exact .inr hx)]
 case h_16 t x lo hi=>
  have h1:v x=v' x:=h x (by simp)
  have h2:lo.map v=lo.map v':=by
   cases lo with
   |none=>rfl
   |some y=>simp only[vad];rw[h y (by simp)]
  have h3:hi.map v=hi.map v':=by
   cases hi with
   |none=>rfl
   |some y=>simp only[vad];rw[h y (by simp)]
  rw[h1,h2,h3]
 case h_25 x r tys=>
  rw[h x (by simp),xS fun y hy=>h y (by simp[hy])]
 case h_26 x r tys=>
  rw[h x (by simp),xS fun y hy=>h y (by simp[hy])]
end
section
variable{P:Program}{E:ma}{Γ:aK}{bs:ba}{ow:Nat->Option iD}{w:World}{a:Act}{st:aq}
theorem yY{α:Type}:∀{l:List α} {i:Nat} {x:α},l[i]? =some x->l.set i x=l
 |[],_,_,h=>by simp at h
 |_::_,0,_,h=>by simp at h;subst h;rfl
 |y::l,i+1,x,h=>by simp only[List.set_cons_succ];rw[yY (by simpa using h)]
end
def bf(ops:Array Oper)(i j:Nat):Prop:=((xD ops.toList).getD j 0).testBit i=true
theorem rn{α:Type}{l:List α}{i:Nat}{x d:α}(h:l[i]? =some x):l.getD i d=x:=by rw[vag,h];rfl
def cD(listed:Array Bool)(i:Nat):Prop:=listed.getD i false=true
def Nq(ops:Array Oper)(listed:Array Bool):Prop:=∀(j:Nat) o,ops[j]? =some o->cD listed j->∀e∈o.after.toList,Region.binds .any e=true->cD listed e.on
theorem Ea{ops:Array Oper}{listed:Array Bool}(hd:Nq ops listed):∀(j:Nat) o,ops[j]? =some o->(∀e∈o.after.toList,Region.binds .any e=true->cD listed e.on)->∀i,bf ops i j->cD listed i:=by
 intro j
 induction j using Nat.strongRecOn with
 | _ j ih =>
  intro o ho ha i hb
  obtain⟨o',ho',e,he,hbi,hc⟩:=(D8 ops.toList).2 j i hb
  have:o'=o:=by
   have h':ops[j]? =some o':=by simpa using ho'
   rw[ho]at h';cases h';rfl
  subst this
  have hle:=ha e he hbi
  rcases hc with hc|⟨hc,hb'⟩
  ·subst hc;exact hle
  ·obtain⟨o2,ho2,_⟩:=(D8 ops.toList).2 e.on i hb'
   have h2:ops[e.on]? =some o2:=by simpa using ho2
   exact ih e.on hc o2 h2 (hd e.on o2 h2 hle) i hb'
theorem dj{listed:Array Bool}{i j:Nat}(hi:i<listed.size):cD (listed.setIfInBounds i true) j↔j=i\/cD listed j:=by
 unfold cD
 by_cases h:i=j
 ·subst h
  constructor
  ·intro _;exact .inl rfl
  ·intro _;simp[hi]
 ·rw[getD_set_ne false h]
  constructor
  ·exact .inr
  ·rintro(rfl|h')
   ·exact absurd rfl h
   ·exact h'
section
variable{P:Program}{E:ma}{ops:Array Oper}{n base:Nat}{T:Nat->aq}{bs0:ba}{ds:List Deferred}
def wK(ops:Array Oper)(base i:Nat):Nat:=base+bG (ops.toList.take i)
theorem mh(l r:List Oper):bG (l++r)=bG l+bG r:=by simp[bG]
theorem H6{i j:Nat}{o:Oper}(ho:ops[i]? =some o)(hm:au o.op=true)(hij:i<j):wK ops base i<wK ops base j:=by
 unfold wK
 have hl:ops.toList[i]? =some o:=by simpa using ho
 have h1:ops.toList.take (i+1)=ops.toList.take i++[o]:=by
  rw[vb4,hl];rfl
 have h2:ops.toList.take j=ops.toList.take (i+1)++(ops.toList.take j).drop (i+1):=by
  have:=(vcg (i+1) (ops.toList.take j)).symm
  rwa[List.take_take,Nat.min_eq_left (by omega)]at this
 rw[h2,mh,h1,mh]
 have:bG [o]=1:=by unfold bG;simp[hm]
 omega
def qH(n:Nat)(listed:Array Bool):Nat:=((List.range n).filter fun i=>!listed.getD i false).length
theorem Ga{l:List Nat}{p q:Nat->Bool}(hpq:∀i,q i=true->p i=true){j:Nat}(hj:j∈l)(hp:p j=true)(hq:q j=false):(l.filter q).length<(l.filter p).length:=by
 induction l with
 |nil=>cases hj
 | cons x l ih =>
  have hle:∀l:List Nat,(l.filter q).length<=(l.filter p).length:=by
   intro l
   induction l with
   |nil=>simp
   | cons y l ih2 =>
    simp only[vbp]
    by_cases h1:q y=true
    ·simp[h1,hpq y h1];exact ih2
    ·by_cases h2:p y=true
     ·simp[h1,h2];omega
     ·simp[h1,h2];exact ih2
  simp only[vbp]
  rcases vaD.1 hj with rfl|hj
  ·simp[hp,hq];have:=hle l;omega
  ·have:=ih hj
   by_cases h1:q x=true
   ·simp[h1,hpq x h1];exact this
   ·by_cases h2:p x=true
    ·simp[h1,h2];omega
    ·simp[h1,h2];exact this
end
section
variable{P:Program}{E:ma}{w:World}{a:Act}{st:aq}
theorem xO(m j:Nat):(Array.replicate m false).getD j false=false:=by
 rw[vas,Array.getElem?_replicate]
 split<;>rfl
theorem yj:∀(l:List Oper) (i:Nat) (o:Oper),l[i]? =some o->au o.op=true->(ek P l)[bG (l.take i)]? =jJ P o
 |[],_,_,h,_=>by simp at h
 |x::l,0,o,h,hm=>by
  simp at h;subst h
  have:∃B,jJ P x=some B:=by cases hx:x.op<;>simp[au,hx]at hm<;>exact⟨_,by simp[jJ,hx];rfl⟩
  obtain⟨B,hB⟩:=this
  simp[ek,bG,hB]
 | x :: l,i + 1,o,h,hm => by
  have ih:=yj l i o (by simpa using h) hm
  have hc:bG ((x::l).take (i+1))=bG [x]+bG (l.take i):=by
   rw[List.take_succ_cons,<-mh];rfl
  rw[hc]
  unfold ek
  rw[List.filterMap_cons]
  cases hx:jJ P x with
  |none=>
   have:bG [x]=0:=by cases hx':x.op<;>simp[jJ,hx']at hx<;>simp[bG,au,hx']
   rw[this,vaB];exact ih
  |some B=>
   have:bG [x]=1:=by cases hx':x.op<;>simp[jJ,hx']at hx<;>simp[bG,au,hx']
   rw[this,vch]
   simpa[ek]using ih
end
def oe(n:Nat):List PVal->List PVal->Prop
 |[],[]=>True
 |p::ps,q::qs=>(q=.undef\/(p=q/\q.cl n))/\oe n ps qs
 |_,_=>False
def lH(n:Nat):aw->aw->Prop
 |_,.dead=>True
 |.cells cs own,.cells cs' own'=>cs=cs'/\hX n cs/\∀x∈own',x∈own
 |.map es,.map es'=>es=es'/\(∀x∈es,x.1.cl n/\x.2.cl n)
 |_,_=>False
def dW(n:Nat):List aw->List aw->Prop
 |_,[]=>True
 |B::l,B'::l'=>lH n B B'/\dW n l l'
 |[],_::_=>False
structure Nx(st st':aq):Prop where
 tmps:oe st'.boxes.length st.tmps st'.tmps
 boxes:dW st'.boxes.length st.boxes st'.boxes
 own:∀x∈st'.own,x∈st.own
def G5(id:Nat)(Q:Exit->aq->Prop):Exit->aq->Prop
 |.exit id',st=>if id'=id then Q .normal st else Q (.exit id') st
 |e,st=>Q e st
section
variable{P:Program}{E:ma}{bs0:ba}
theorem yZ{n:Nat}:∀{l l':List PVal},oe n l l'->l.length=l'.length/\∀(i:Nat) q,l'[i]? =some q->q=.undef\/(l[i]? =some q/\q.cl n)
 |[],[],_=>⟨rfl,by simp⟩
 |[],_::_,h=>by simp[oe]at h
 |_::_,[],h=>by simp[oe]at h
 | p :: l,q :: l',h => by
  simp only[oe]at h
  obtain⟨h1,h2⟩:=yZ h.2
  refine⟨by simp[h1],fun i x hx=>?_⟩
  cases i with
  | zero =>
   simp at hx;subst hx
   rcases h.1 with h3|⟨rfl,h3⟩
   ·exact .inl h3
   ·exact .inr ⟨rfl,h3⟩
  |succ i=>simpa using h2 i x (by simpa using hx)
theorem lI{n:Nat}:∀{l l':List aw},dW n l l'->l'.length<=l.length/\∀(i:Nat) B',l'[i]? =some B'->∃B,l[i]? =some B/\lH n B B'
 |_,[],_=>⟨by simp,by simp⟩
 |[],_::_,h=>by simp[dW]at h
 |B::l,B'::l',h=>by
  simp only[dW]at h
  obtain⟨h1,h2⟩:=lI h.2
  refine⟨by simpa using h1,fun i x hx=>?_⟩
  cases i with
  |zero=>simp at hx;subst hx;exact⟨B,rfl,h.1⟩
  |succ i=>simpa using h2 i x (by simpa using hx)
theorem FE.less{st st':aq}{a:Act}{w:World}(hR:FE P E bs0 st a w)(hl:Nx st st')(hm:bs0.length<=st'.boxes.length):FE P E bs0 st' a w:=by
 obtain⟨Γ,bs,ow,h,hk⟩:=hR
 obtain⟨h1,h2⟩:=yZ hl.tmps
 obtain⟨h3,h4⟩:=lI hl.boxes
 have hbl:st'.boxes.length<=bs.length:=by rw[h.bl];exact h3
 have hget:∀{i b:Nat},(bs.take st'.boxes.length)[i]? =some (some b)->i<st'.boxes.length/\bs[i]? =some (some b):=by
  intro i b hi
  have hlt:i<st'.boxes.length:=by have:=aj hi;simp at this;omega
  rw[vak hlt]at hi
  exact⟨hlt,hi⟩
 have hres:∀(i b:Nat),i<st'.boxes.length->bs[i]? =some (some b)->(bs.take st'.boxes.length)[i]? =some (some b):=fun i b hi hb=>by
  rw[vak hi];exact hb
 refine⟨Γ,bs.take st'.boxes.length,ow,?_,fun i hi=>?_⟩
 ·exact{
   wi:=h.wi
   sz:=by rw[h.sz,h1]
   tm:=fun t p v hp hv=>by
    rcases h2 t p hp with rfl|⟨h5,h6⟩
    ·exact .undef v
    ·exact(h.tm t p v h5 hv).restrict h6 hres
   bl:=by simp;omega
   bx:=fun i b B hb hB=>by
    obtain⟨hlt,hb⟩:=hget hb
    obtain⟨B0,hB0,hx⟩:=h4 i B hB
    obtain⟨k1,k2,k3⟩:=h.bx i b B0 hb hB0
    refine⟨k1,k2,?_⟩
    cases B with
    |dead=>trivial
    |cells cs own=>
     cases B0<;>simp only[lH]at hx
     obtain⟨rfl,hcl,_⟩:=hx
     obtain⟨c,t,e1,e2,e3⟩:=k3
     exact⟨c,t,e1,e2,fun j p v hp hv=>(e3 j p v hp hv).restrict (kg hcl hp) hres⟩
    |map es=>
     cases B0<;>simp only[lH]at hx
     obtain⟨rfl,hcl⟩:=hx
     obtain⟨c,t,e1,e2,e3⟩:=k3
     refine⟨c,t,e1,e2,fun j k u x hp hv=>?_⟩
     obtain⟨q1,q2⟩:=hcl _ (vaw hp)
     exact⟨(e3 j k u x hp hv).1.restrict q1 hres,(e3 j k u x hp hv).2.restrict q2 hres⟩
   inj:=fun i j b hi hj=>h.inj i j b (hget hi).2 (hget hj).2
   bn:=fun i b hb=>h.bn i b (hget hb).2
   on:=h.on
   ot:=fun t k e he=>h.ot t k e (hl.own _ he)
   ob:=fun i j e cs own b hB hj hb=>by
    obtain⟨hlt,hb⟩:=hget hb
    obtain⟨B0,hB0,hx⟩:=h4 i _ hB
    cases B0<;>simp only[lH]at hx
    exact h.ob i j e _ _ b hB0 (hx.2.2 _ hj) hb
   gl:=fun g cs hg=>(h.gl g cs hg).restrict (n:=0) (by simp only[PVal.cl];exact h.gc g cs hg) (fun i b hi _=>absurd hi (vaK _))
   gc:=h.gc
   gx:=h.gx
   step:=h.step}
 ·rw[vak (by omega)];exact hk i hi
end
section
variable{P:Program}{E:ma}{bs0:ba}
theorem FE.len{st:aq}{a:Act}{w:World}(h:FE P E bs0 st a w):bs0.length<=st.boxes.length:=by
 obtain⟨Γ,bs,ow,h,hk⟩:=h
 rw[<-h.bl]
 by_cases hl:bs0.length<=bs.length
 ·exact hl
 ·have h1:=hk bs.length (by omega)
  rw[vax (vaq _),vaa (by omega)]at h1
  cases h1
def JB(P:Program)(E:ma)(bs0:ba)(ds:List Deferred)(Q:Exit->aq->Prop):Exit->Act->World->Prop:=
 fun e a w=>a.defers=ds/\∃st,FE P E bs0 st a w/\Q e st
end
def KA(P:Program)(st:aq):ResultVar->Option PVal
 |.tmp t=>some (st.tmps.getD t .undef)
 |.cell t ty=>kP P ty (st.tmps.getD t .undef) st.boxes
def GH(P:Program)(st:aq):List ResultVar->Option (List PVal)
 |[]=>some []
 |x::r=>match KA P st x,GH P st r with
  |some p,some l=>some (p::l)
  |_,_=>none
def GI(P:Program)(st:aq):List ResultVar->Option PVal
 |[x]=>KA P st x
 |rs=>(GH P st rs).map .tuple
def ee:List ResultVar->Nat->Nat×Nat
 |[.tmp t],k=>(t,k)
 |rs,k=>match rs[k]? with
  |some (.tmp t)=>(t,0)
  |_=>(0,0)
def PVal.isSlice:PVal->Bool
 |.slice _=>true
 |_=>false
def pk(st:aq):List ResultVar->Nat->Prop
 |[.tmp _],_=>True
 |[_],_=>False
 |rs,k=>match rs[k]? with
  |some (.tmp t)=>(st.tmps.getD t .undef).isSlice=true
  |_=>False
def Pd(P:Program)(rs:List ResultVar)(r:PVal)(ro:List (Nat×TypeId))(H':List aw):Exit->aq->Prop
 | .normal,st | .ret,st => GI P st rs = some r∧r.cl H'.length∧dW H'.length st.boxes H'∧(∀ x ∈ ro,(ee rs x.1,x.2) ∈ st.own∧pk st rs x.1) ∧
   (∀x∈ro,∀y∈ro,ee rs x.1=ee rs y.1->x.1=y.1)
 |_,_=>False
section
variable{P:Program}{E:ma}{Γ:aK}{bs:ba}{ow:Nat->Option iD}{w:World}{a:Array Value}{st:aq}
def xM(src:Nat->Nat×Nat)(ro:List (Nat×TypeId))(ow:Nat->Option iD):Nat->Option iD:=fun b=>
 match ow b with
 |some (.tmp t j)=>(ro.find? fun x=>src x.1==(t,j)).map fun x=>.tmp 0 x.1
 |L=>L
theorem SR.finish(h:SR P E Γ bs ow w a st){H':List aw}{v:Value}{r:PVal}(hv:VR Γ bs w r v)(hcl:r.cl H'.length)(hB:dW H'.length st.boxes H'){src:Nat->Nat×Nat}{ro:List (Nat×TypeId)}
  (hro:∀x∈ro,(src x.1,x.2)∈st.own/\∀u v',a[(src x.1).1]? =some u->gB u (src x.1).2=some v'->gB v x.1=some v')
  (hinj:∀x∈ro,∀y∈ro,src x.1=src y.1->x.1=y.1):
  SR P E Γ (bs.take H'.length) (xM src ro ow) w #[v] ⟨[r],H',ro.map fun x=>((0,x.1),x.2)⟩:=by
 have hR:FE P E [] st ⟨a,[]⟩ w:=⟨Γ,bs,ow,h,fun i hi=>absurd hi (vaK _)⟩
 obtain⟨h3,h4⟩:=lI hB
 have hget:∀{i b:Nat},(bs.take H'.length)[i]? =some (some b)->i<H'.length/\bs[i]? =some (some b):=by
  intro i b hi
  have hlt:i<H'.length:=by have:=aj hi;simp at this;omega
  rw[vak hlt]at hi
  exact⟨hlt,hi⟩
 have hres:∀(i b:Nat),i<H'.length->bs[i]? =some (some b)->(bs.take H'.length)[i]? =some (some b):=fun i b hi hb=>by
  rw[vak hi];exact hb
 clear hR
 exact{
  wi:=h.wi
  sz:=rfl
  tm:=fun t p v' hp hv'=>by
   cases t with
   |zero=>simp at hp hv';subst hp;subst hv';exact hv.restrict hcl hres
   |succ t=>simp at hp
  bl:=by simp[h.bl];omega
  bx:=fun i b B hb hB=>by
   obtain⟨hlt,hb⟩:=hget hb
   obtain⟨B0,hB0,hx⟩:=h4 i B hB
   obtain⟨k1,k2,k3⟩:=h.bx i b B0 hb hB0
   refine⟨k1,k2,?_⟩
   cases B with
   |dead=>trivial
   |cells cs own=>
    cases B0<;>simp only[lH]at hx
    obtain⟨rfl,hcl,_⟩:=hx
    obtain⟨c,t,e1,e2,e3⟩:=k3
    exact⟨c,t,e1,e2,fun j p v hp hv=>(e3 j p v hp hv).restrict (kg hcl hp) hres⟩
   |map es=>
    cases B0<;>simp only[lH]at hx
    obtain⟨rfl,hcl⟩:=hx
    obtain⟨c,t,e1,e2,e3⟩:=k3
    refine⟨c,t,e1,e2,fun j k u x hp hv=>?_⟩
    obtain⟨q1,q2⟩:=hcl _ (vaw hp)
    exact⟨(e3 j k u x hp hv).1.restrict q1 hres,(e3 j k u x hp hv).2.restrict q2 hres⟩
  inj:=fun i j b hi hj=>h.inj i j b (hget hi).2 (hget hj).2
  bn:=fun i b hb=>h.bn i b (hget hb).2
  on:=fun b L hL=>by
   unfold xM at hL
   cases hb:ow b with
   |none=>rw[hb]at hL;cases hL
   |some L'=>exact h.on b L' hb
  ot:=fun t k e he=>by
   simp only[van,Prod.mk.injEq]at he
   obtain⟨⟨k',e'⟩,hm,⟨rfl,rfl⟩,rfl⟩:=he
   obtain⟨h1,h2⟩:=hro _ hm
   obtain⟨u,v',e1,e2,e3,e4⟩:=h.ot _ _ _ h1
   refine⟨v,v',rfl,h2 u v' e1 e2,e3,fun b hb=>?_⟩
   have:=e4 b hb
   simp only[xM,this]
   cases hf:ro.find? fun x=>src x.1==src k' with
   |none=>
    have:=vcu.1 hf _ hm
    simp at this
   |some x=>
    have hx:=vba hf
    have hx2:=vbF hf
    simp only[vaP]at hx2
    have:=hinj x hx _ hm hx2
    simp only at this
    simp[this]
  ob:=fun i j e cs own b hB hj hb=>by
   obtain⟨hlt,hb⟩:=hget hb
   obtain⟨B0,hB0,hx⟩:=h4 i _ hB
   cases B0<;>simp only[lH]at hx
   obtain⟨v',e1,e2,e3⟩:=h.ob i j e _ _ b hB0 (hx.2.2 _ hj) hb
   exact⟨v',e1,e2,fun b' hb'=>by simp[xM,e3 b' hb']⟩
  gl:=fun g cs hg=>(h.gl g cs hg).restrict (n:=0) (by simp only[PVal.cl];exact h.gc g cs hg) (fun i b hi _=>absurd hi (vaK _))
  gc:=h.gc
  gx:=h.gx
  step:=h.step}
theorem SR.getD(h:SR P E Γ bs ow w a st)(t:Nat):VR Γ bs w (st.tmps.getD t .undef) (a.getD t undef):=by
 have:=h.opv [] (.tmp t)
 exact this
theorem Ff{p:PVal}{v:Value}(hv:VR Γ bs w p v)(hp:p.isSlice=true):gB v 0=some v:=by
 cases p<;>simp[PVal.isSlice]at hp
 cases hv<;>rfl
theorem Db(h:SR P E Γ bs ow w a st){g:ResultVar->Sem Value}(h1:∀t,g (.tmp t)=pure (a.getD t undef))(h2:∀x t,g (.cell x t)=do loadVar t (<-asAddr (a.getD x undef))):∀{rs:List ResultVar} {l:List PVal},GH P st rs=some l->∃vs:List Value,(rs.mapM g).run P w=.ok vs w/\vs.length=rs.length/\l.length=rs.length/\(∀(i:Nat) p v,l[i]? =some p->vs[i]? =some v->VR Γ bs w p v)/\
   ∀(i:Nat) t,rs[i]? =some (.tmp t)->vs[i]? =some (a.getD t undef)
 |[],l,hl=>by
  cases hl
  exact⟨[],by simp,rfl,rfl,by simp,by simp⟩
 | x :: rs,l,hl => by
  unfold GH at hl
  split at hl
  ·rename_i p l' hp hl'
   cases hl
   obtain⟨vs,k1,k2,k3,k4,k5⟩:=Db h h1 h2 hl'
   have hx:∃v,(g x).run P w=.ok v w/\VR Γ bs w p v/\∀t,x=.tmp t->v=a.getD t undef:=by
    cases x with
    |tmp t=>
     cases hp
     exact⟨a.getD t undef,by rw[h1];simp,h.getD t,fun t' e=>by cases e;rfl⟩
    | cell t ty =>
     have hv:=h.getD t
     obtain⟨v,e1,e2⟩:=zM h hv hp
     refine⟨v,?_,e2,fun t' e=>by cases e⟩
     rw[h2]
     have hp':kP P ty (st.tmps.getD t .undef) st.boxes=some p:=hp
     generalize hvt:a.getD t undef=vt at hv e1
     generalize hpt:st.tmps.getD t .undef=pt at hv hp'
     unfold kP at hp'
     split at hp'
     ·cases hv<;>simpa[Instr.loadAt,Instr.sureAddr,asAddr]using e1
     ·cases hv;simpa[Instr.loadAt,Instr.sureAddr,asAddr]using e1
     ·cases hp'
   obtain⟨v,e1,e2,e3⟩:=hx
   refine⟨v::vs,by simp[vbK,e1,k1],by simp[k2],by simp[k3],fun i q u hq hu=>?_,fun i t ht=>?_⟩
   ·cases i with
    |zero=>simp at hq hu;subst hq;subst hu;exact e2
    |succ i=>exact k4 i q u (by simpa using hq) (by simpa using hu)
   ·cases i with
    |zero=>simp at ht;simp[e3 t ht]
    |succ i=>simpa using k5 i t (by simpa using ht)
  ·cases hl
theorem qy(h:SR P E Γ bs ow w a st){fn:Func}{r:PVal}(hr:GI P st fn.results.toList=some r):∃v,(results fn a).run P w=.ok v w/\VR Γ bs w r v/\∀k u v',pk st fn.results.toList k->a[(ee fn.results.toList k).1]? =some u->gB u (ee fn.results.toList k).2=some v'->gB v k=some v':=by
 have hres:fn.results=fn.results.toList.toArray:=by simp
 generalize fn.results.toList=rs at hr hres
 have hsl:∀(t:Nat) u v',(st.tmps.getD t .undef).isSlice=true->a[t]? =some u->gB u 0=some v'->a.getD t undef=v':=by
  intro t u v' hp hu hv'
  have h1:=h.getD t
  have h2:a.getD t undef=u:=by rw[vas,hu];rfl
  rw[h2]at h1 ⊢
  rw[Ff h1 hp]at hv'
  exact(vao _ _).mp hv'
 obtain⟨g,hg,h1,h2⟩:∃g:ResultVar->Sem Value,results fn a=(do let vs <-fn.results.mapM g;pure (if h:vs.size=1 then vs[0]else .tuple vs))/\(∀t,g (.tmp t)=pure (a.getD t undef))/\(∀x t,g (.cell x t)=do loadVar t (<-asAddr (a.getD x undef))):=
  ⟨_,rfl,fun _=>rfl,fun _ _=>rfl⟩
 rw[hg,hres,List.mapM_toArray]
 have many:∀(l:List PVal),GH P st rs=some l->rs.length≠1->r=.tuple l->(∀k,pk st rs k->∃t,rs[k]? =some (.tmp t)/\ee rs k=(t,0)/\(st.tmps.getD t .undef).isSlice=true)->
   ∃v,(do let vs <-(Functor.map List.toArray (rs.mapM g));pure (if h:vs.size=1 then vs[0]else Value.tuple vs):Sem Value).run P w=.ok v w/\VR Γ bs w r v/\
    ∀k u v',pk st rs k->a[(ee rs k).1]? =some u->gB u (ee rs k).2=some v'->gB v k=some v':=by
  intro l hl hn hr hp
  obtain⟨vs,k1,k2,k3,k4,k5⟩:=Db h h1 h2 hl
  refine⟨.tuple vs.toArray,by simp[k1,k2,hn],?_,fun k u v' hk hu hv'=>?_⟩
  ·subst hr
   exact .tuple _ _ (by simp[k2,k3]) fun i p v hp hv=>k4 i p v hp (by simpa using hv)
  ·obtain⟨t,e1,e2,e3⟩:=hp k hk
   rw[e2]at hu hv'
   have:=k5 k t e1
   show vs.toArray[k]? =some v'
   rw[vbc,this,hsl t u v' e3 hu hv']
 rcases rs with _|⟨x,_|⟨y,rs⟩⟩
 ·cases hr
  exact many [] rfl (by simp) rfl (fun k hk=>by simp[pk]at hk)
 ·have hl:GH P st [x]=some [r]:=by
   have hr':KA P st x=some r:=hr
   simp[GH,hr']
  obtain⟨vs,k1,k2,k3,k4,k5⟩:=Db h h1 h2 hl
  match vs,k2 with
  | [v],_ =>
   refine⟨v,by simp[-List.mapM_cons,k1],k4 0 r v rfl rfl,fun k u v' hk hu hv'=>?_⟩
   cases x with
   |tmp t=>
    have:=k5 0 t rfl
    simp at this
    simp only[ee]at hu hv'
    rw[this,hu]
    exact hv'
   |cell t ty=>exact hk.elim
 ·have hr':(GH P st (x::y::rs)).map PVal.tuple=some r:=hr
  rw[vaA]at hr'
  obtain⟨l,hl,e⟩:=hr'
  refine many l hl (by simp) e.symm fun k hk=>?_
  simp only[pk]at hk
  split at hk
  ·rename_i t ht
   exact⟨t,ht,by simp only[ee,ht],hk⟩
  ·exact hk.elim
end
section
variable{P:Program}{GE:List (Nat×List PVal)}{A:List Nat}{ops:Array Oper}
theorem Kn{op:Op}{id:Nat}{v:Operand->PVal}{H:List aw}{K K':PVal->List (Nat×TypeId)->List aw->Prop}(h:Eu P GE op id v H K)(hk:∀p ro H,K p ro H->K' p ro H):Eu P GE op id v H K':=by
 unfold Eu at *
 split at h
 ·unfold wS at *
  split at h
  ·rcases h with⟨h1,r,ro,h2,h3⟩|⟨ρ,argsC,Hc,rc,ro,Hc',H',r,k1,k2,k3,k4,k5,k6,k7,k8,k9,h3⟩
   ·exact .inl ⟨h1,r,ro,h2,hk _ _ _ h3⟩
   ·exact .inr ⟨ρ,argsC,Hc,rc,ro,Hc',H',r,k1,k2,k3,k4,k5,k6,k7,k8,k9,hk _ _ _ h3⟩
  ·exact h.elim
 ·split at h
  ·exact hk _ _ _ h
  ·exact h.elim
theorem jI{o:Oper}{id:Nat}{K K':aq->Prop}{st:aq}(hk:∀st,K st->K' st)(h:jF o st.tmps.length=true/\Eu P GE o.op id (opv GE st.tmps) st.boxes fun p ro H=>K (pM st o.dst p ro H)):jF o st.tmps.length=true/\Eu P GE o.op id (opv GE st.tmps) st.boxes fun p ro H=>K' (pM st o.dst p ro H):=⟨h.1,Kn h.2 fun _ _ _ h=>hk _ h⟩
theorem HE{o:Oper}{id:Nat}{K K':aq->Prop}{st:aq}(hk:∀st,K st->K' st)(h:AB P GE A o id K st):AB P GE A o id K' st:=by
 unfold AB at *
 split at h
 case h_1=>exact⟨h.1,hk _ h.2⟩
 case h_2=>
  split at h
  ·rename_i hA;simp only[var hA];exact⟨h.1,hk _ h.2⟩
  ·rename_i hA;simp only[vav hA];exact jI hk h
 case h_3=>
  split at h
  ·exact⟨h.1,hk _ h.2⟩
  ·exact jI hk h
 case h_4=>
  split at h
  ·exact⟨h.1,hk _ h.2⟩
  ·exact jI hk h
 case h_5=>
  split at h
  ·exact⟨h.1,hk _ h.2⟩
  ·exact h.elim
 case h_6=>
  split at h
  ·exact⟨h.1,hk _ h.2⟩
  ·exact h.elim
 case h_7=>
  split at h
  ·split at h
   ·exact⟨h.1,h.2.1,h.2.2.1,hk _ h.2.2.2⟩
   ·exact h.elim
  ·exact h.elim
 case h_8=>
  split at h
  ·rename_i hA
   simp only[var hA]
   split at h
   ·split at h
    ·split at h
     ·exact⟨h.1,h.2.1,hk _ h.2.2⟩
     ·exact h.elim
    ·exact h.elim
   ·exact h.elim
  ·rename_i hA;simp only[vav hA];exact jI hk h
 case h_9=>
  split at h
  ·split at h
   ·exact hk _ h
   ·exact jI hk h
  ·exact jI hk h
 case h_10=>exact jI hk h
theorem M4{n:Int}(h1: -9223372036854775808<=n)(h2:n<9223372036854775808):IntKind.i64.wrap n=n:=by
 simp[IntKind.wrap,IntKind.bits,IntKind.signed];omega
end
end Go.Proofs.YtggeppllafbidaaGreatDoor
