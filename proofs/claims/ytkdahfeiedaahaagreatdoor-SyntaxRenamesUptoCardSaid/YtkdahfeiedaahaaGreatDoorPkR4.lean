/- PROVED: a part of the proof. Conditions: none. -/
import Derived.Test.YtkdahfeiedaahaaGreatDoorPkR2
import Derived.Test.YtkdahfeiedaahaaGreatDoorPkR3
import Derived.WalkKit
import Derived.RangeFuncNested
import Derived.RangeFuncCalls
import Derived.Sort.LoopGhostIn
import Derived.OrdersIn
set_option linter.unusedSimpArgs false
set_option linter.unusedVariables false
noncomputable section
namespace Go.Proofs.YtkdahfeiedaahaaGreatDoor
open Go
structure OA where
 i:Nat
 t:Nat
 k:Nat
 e:TypeId
def eQ(ρ:List Nat)(oa:List OA)(Γ:aP)(ow:Nat->Option iL):Nat->Option iL:=λb=>
 match ow b with
 |some (.box j k)=>if(Γ b).isSome/\j∈ρ then some (.box (ρ.idxOf j) k)else none
 |some (.tmp t k)=>match oa.find? λy=>y.t==t&&y.k==k with
  |some x=>if(Γ b).isSome then some (.tmp x.i k)else none
  |none=>none
 |_=>none
def rR(ρ:List Nat)(oa:List OA)(d:Nat)(owC ow:Nat->Option iL):Nat->Option iL:=λb=>
 match owC b with
 |some (.box i k)=>some (.box (ρ.getD i 0) k)
 |some (.tmp _ k)=>some (.tmp d k)
 |none=>match ow b with
  |some (.box j k)=>if j∈ρ then none else some (.box j k)
  |some (.tmp t k)=>if(oa.any λx=>x.t==t&&x.k==k)=true then none else some (.tmp t k)
  |none=>none
section
variable{P:Program}{E:lh}{Γ:aP}{bs:be}{ow:Nat->Option iL}{w:World}{a:Array Value}{st:aB}{ρ:List Nat}
theorem V8(h:SR P E Γ bs ow w a st){g:FuncId}{args argsC:List PVal}{r rc:PVal}{ro:List (Nat×TypeId)}{Hc Hc' H':List aA}{vs:Array Value}{d:Nat}{oa:List OA}(hd:d<a.size)
  (hn:ρ.Nodup) (hC:C P E.GE g argsC (oa.map λx=>((x.i,x.k),x.e)) Hc rc ro Hc') (ho1:∀x∈oa,(vs[x.i]? =some (.slice none 0 0)/\x.k=0)\/(((x.t,x.k),x.e)∈st.own/\vs[x.i]? =a[x.t]?)) (ho3:∀x∈oa,∀y∈oa,x.t=y.t->x.k=y.k->x.i=y.i) (hH:zr ρ st.boxes Hc) (hH':zr ρ H' Hc') (hlen:H'.length=st.boxes.length) (hsame:∀j:Nat,j∉ρ->H'[j]? =st.boxes[j]?)
  (hr:tQ ρ r rc) (hal:args.length=argsC.length) (ha:∀(i:Nat) p q,args[i]? =some p->argsC[i]? =some q->tQ ρ p q)
  (hl:vs.size=args.length) (hv:∀(i:Nat) p v,args[i]? =some p->vs[i]? =some v->VR Γ bs w p v):
  Calls P g vs w λe w'=>∃v Γ' ow',e=.returned v/\SR P E Γ' bs ow' w' (a.setIfInBounds d v) {st with tmps:=st.tmps.set d r,boxes:=H',own:=(ro.map λx=>((d,x.1),x.2))++bu d (st.own.filter λz=>!oa.any λx=>z.1==(x.t,x.k))}/\Γ.Le w Γ' w':=by
 let bsC:be:=ρ.map λj=>(bs[j]?).getD none
 have hjlt:∀{i j:Nat},ρ[i]? =some j->j<st.boxes.length:=λ{i j} hij=>by
  obtain⟨B,_,hB,_⟩:=hH.box i j hij;exact aq hB
 have hbb:∀(i j:Nat),ρ[i]? =some j->bsC[i]? =bs[j]?:=by
  intro i j hij
  have hj:j<bs.length:=by rw[h.bl];exact hjlt hij
  simp[bsC,hij,vab hj]
 have hbc:∀{i b:Nat},bsC[i]? =some (some b)->∃j,ρ[i]? =some j/\bs[j]? =some (some b):=by
  intro i b hib
  have hi:i<ρ.length:=by have:=aq hib;simpa[bsC]using this
  have hij:ρ[i]? =some ρ[i]:=vab hi
  exact⟨_,hij,(hbb i _ hij).symm.trans hib⟩
 have hcow:∀{b L},eQ ρ oa Γ ow b=some L->(Γ b).isSome/\((∃j k,ow b=some (.box j k)/\j∈ρ/\L=.box (ρ.idxOf j) k)\/(∃x∈oa,ow b=some (.tmp x.t x.k)/\L=.tmp x.i x.k)):=by
  intro b L hL
  unfold eQ at hL
  split at hL
  ·rename_i j k hb
   split at hL
   ·rename_i hc;cases hL;exact⟨hc.1,.inl ⟨j,k,hb,hc.2,rfl⟩⟩
   ·cases hL
  ·rename_i t k hb
   split at hL
   ·rename_i x hx
    split at hL
    ·rename_i hc
     cases hL
     have h1:=vbj hx
     have h2:=vbH hx
     simp only[vad,vaP]at h2
     exact⟨hc,.inr ⟨x,h1,by rw[hb,h2.1,h2.2],by rw[h2.2]⟩⟩
    ·cases hL
   ·cases hL
  ·cases hL
 have hpre:SR P ⟨E.GE,Γ,w,aN bsC (eQ ρ oa Γ ow)⟩ Γ bsC (eQ ρ oa Γ ow) w vs ⟨argsC,Hc,oa.map λx=>((x.i,x.k),x.e)⟩:={
  wi:=h.wi
  sz:=by simpa[hal]using hl
  tm:=λt q v hq hv'=>by
   have ht:=aq hq
   have hp:=vab (l:=args) (i:=t) (by rw[hal];exact ht)
   exact(ha t _ q hp hq).to hbb (hv t _ v hp hv')
  bl:=by simp[bsC,hH.len]
  bx:=λi b Bc hib hBc=>by
   obtain⟨j,hij,hjb⟩:=hbc hib
   obtain⟨B,Bc',hB,hBc',hx⟩:=hH.box i j hij
   rw[hBc]at hBc';cases hBc'
   obtain⟨k1,k2,k3⟩:=h.bx j b B hjb hB
   exact⟨k1,k2,hx.to hbb k3⟩
  inj:=λi j b hi hj=>by
   obtain⟨x,hx,hxb⟩:=hbc hi
   obtain⟨y,hy,hyb⟩:=hbc hj
   have:=h.inj x y b hxb hyb
   subst this
   rw[<-rT hn hx,rT hn hy]
  bn:=λi b hb=>.inl (.inl ⟨i,hb⟩)
  on:=λb L hL=>by
   refine⟨?_,.inl (.inr (by rw[hL];simp))⟩
   rcases(hcow hL).2 with⟨j,k,hb,_⟩|⟨x,_,hb,_⟩<;>exact(h.on b _ hb).1
  ot:=λt k e he=>by
   simp only[vag,Prod.mk.injEq]at he
   obtain⟨x,hx,⟨rfl,rfl⟩,rfl⟩:=he
   rcases ho1 x hx with⟨hn1,hn2⟩|⟨ht1,ht2⟩
   ·exact⟨_,.slice none 0 0,hn1,by rw[hn2];rfl,⟨0,[],World.ownsRow_nil _ _ _ _,λb hb=>by simp[Value.ownBlock]at hb⟩,λb hb=>by simp[Value.ownBlock]at hb⟩
   obtain⟨u,v',h1,h2,h3,h4⟩:=h.ot _ _ _ ht1
   refine⟨u,v',ht2.trans h1,h2,h3,λb hb=>?_⟩
   have hg:(Γ b).isSome:=by obtain⟨n,xs,_,o2⟩:=h3;rw[o2 b hb];rfl
   unfold eQ
   rw[h4 b hb]
   simp only
   cases hf:oa.find? λy=>y.t==x.t&&y.k==x.k with
   |none=>
    have:=vcv.1 hf x hx
    simp at this
   |some y=>
    have q1:=vbj hf
    have q2:=vbH hf
    simp only[vad,vaP]at q2
    simp only[vah hg,ho3 y q1 x hx q2.1 q2.2]
  ob:=λi k e cs own b hB hk hb=>by
   obtain⟨j,hij,hjb⟩:=hbc hb
   obtain⟨B,Bc',hB',hBc',hx⟩:=hH.box i j hij
   rw[hB]at hBc';cases hBc'
   cases B with
   |cells cs' own'=>
    obtain⟨rfl,_,_⟩:=hx
    obtain⟨v,k1,k2,k3⟩:=h.ob j k e cs' own' b hB' hk hjb
    refine⟨v,k1,k2,λb' hb'=>?_⟩
    have hg:(Γ b').isSome:=by obtain⟨n,xs,_,o2⟩:=k2;rw[o2 b' hb'];rfl
    simp only[eQ,k3 b' hb']
    rw[vah ⟨hg,vaA hij⟩,rT hn hij]
   |map es=>simp[gh]at hx
   |dead=>simp[gh]at hx
  gl:=λg cs hg=>(h.gl g cs hg).restrict (n:=0) (by simp only[PVal.cl];exact h.gc g cs hg) (λi b hi _=>absurd hi (vaS _))
  gc:=h.gc
  gx:=λg cs hg=>by
   obtain⟨k1,k2,k3,k4⟩:=h.gnow hg
   refine⟨k1,λhT=>?_,k4⟩
   rcases hT with⟨i,hi⟩|hT
   ·obtain⟨j,_,hjb⟩:=hbc hi
    exact k2 j g hjb rfl
   ·cases hL:eQ ρ oa Γ ow g with
    |none=>exact hT hL
    |some L=>
     rcases(hcow hL).2 with⟨j,k,hk',_⟩|⟨x,_,hk',_⟩<;>(rw[k3]at hk';cases hk')
  step:=.refl _ _ _ _}
 refine(hC.2 Γ bsC _ w vs hpre).mono λe w' he=>?_
 obtain⟨v,Γ',owC,rfl,hS⟩:=he
 have hle:Γ.Le w Γ' w':=hS.step.le
 have hTE:∀b,aN bsC (eQ ρ oa Γ ow) b->E.T b\/E.w.heap.size<=b:=by
  intro b hb
  rcases hb with⟨i,hi⟩|hb
  ·obtain⟨j,_,hjb⟩:=hbc hi
   exact h.bn j b hjb
  ·cases hL:eQ ρ oa Γ ow b with
   |none=>exact absurd hL hb
   |some L=>
    rcases(hcow hL).2 with⟨j,k,hk,_⟩|⟨x,_,hk,_⟩<;>exact(h.on b _ hk).2
 have hkeep:∀b,b<w.heap.size->¬aN bsC (eQ ρ oa Γ ow) b->w'.heap[b]? =w.heap[b]?/\Γ' b=Γ b:=λb hb hT=>hS.step.keep b hb hT
 have hnotT_own:∀{b L},ow b=some L->(Γ b).isSome->(∀j k,L=.box j k->j∉ρ)->(∀x∈oa,L≠.tmp x.t x.k)->¬aN bsC (eQ ρ oa Γ ow) b:=by
  intro b L hL hg hne hne2 hT
  rcases hT with⟨i,hi⟩|hT
  ·obtain⟨j,hij,hjb⟩:=hbc hi
   obtain⟨B,_,hB,_⟩:=hH.box i j hij
   rw[(h.bx j b B hjb hB).1]at hg;cases hg
  ·cases hL':eQ ρ oa Γ ow b with
   |none=>exact hT hL'
   | some L' =>
    rcases(hcow hL').2 with⟨j,k,hk,hj,_⟩|⟨x,hx,hk,_⟩
    ·rw[hL]at hk;cases hk
     exact hne j k rfl hj
    ·rw[hL]at hk;cases hk
     exact hne2 x hx rfl
 have hnotT_box:∀{j b:Nat},bs[j]? =some (some b)->j∉ρ->¬aN bsC (eQ ρ oa Γ ow) b:=by
  intro j b hjb hj hT
  rcases hT with⟨i,hi⟩|hT
  ·obtain⟨j',hij,hjb'⟩:=hbc hi
   have:=h.inj _ _ _ hjb hjb'
   subst this
   exact hj (vaA hij)
  ·cases hL':eQ ρ oa Γ ow b with
   |none=>exact hT hL'
   |some L'=>
    have hg:=(hcow hL').1
    have hjl:j<st.boxes.length:=by rw[<-h.bl];exact aq hjb
    rw[(h.bx j b _ hjb (vab hjl)).1]at hg;cases hg
 have hold:∀{b L},ow b=some L->(Γ b).isSome->(∀j k,L=.box j k->j∉ρ)->(∀x∈oa,L≠.tmp x.t x.k)->rR ρ oa d owC ow b=some L:=by
  intro b L hL hg hne hne2
  have hT:=hnotT_own hL hg hne hne2
  have hnone:owC b=none:=by
   cases hx:owC b with
   |none=>rfl
   | some L' =>
    obtain⟨_,k2⟩:=hS.on b L' hx
    rcases k2 with k2|k2
    ·exact absurd k2 hT
    ·have:=(h.on b L hL).1
     exact absurd k2 (vcD.2 this)
  unfold rR
  rw[hnone]
  simp only[hL]
  cases L with
  |tmp t k=>
   simp only
   rw[van]
   intro hx
   obtain⟨x,hx1,hx2⟩:=vbn.1 hx
   simp only[vad,vaP]at hx2
   exact hne2 x hx1 (by rw[hx2.1,hx2.2])
  |box j k=>simp only;rw[van (hne j k rfl)]
 have howned:∀{v:Value} {e:TypeId} {b:Nat},fR P Γ w v e->v.ownBlock=some b->(Γ b).isSome:=by
  intro v e b ho hb
  obtain⟨n,xs,_,o2⟩:=ho
  rw[o2 b hb];rfl
 have hrv:VR Γ' bs w' r v:=hr.from hbb (hS.tm 0 rc v rfl rfl)
 refine⟨v,Γ',rR ρ oa d owC ow,rfl,?_,hle⟩
 exact{
  wi:=hS.wi
  sz:=by simp[h.sz]
  tm:=λt q u hq hu=>by
   simp only[vbc]at hq
   rw[vbt]at hu
   by_cases hdt:d=t
   ·subst hdt
    simp only[if_true]at hq hu
    split at hu
    ·split at hq
     ·cases hu;cases hq;exact hrv
     ·cases hq
    ·rename_i hnd;exact absurd hd hnd
   ·simp only[hdt,if_false]at hq hu
    exact(h.tm t q u hq hu).mono hle (.refl _)
  bl:=by simp[h.bl,hlen]
  bx:=λj b B hjb hB=>by
   by_cases hj:j∈ρ
   ·obtain⟨i,hij⟩:=vbi.1 hj
    obtain⟨B',Bc,hB',hBc,hx⟩:=hH'.box i j hij
    rw[hB]at hB';cases hB'
    obtain⟨k1,k2,k3⟩:=hS.bx i b Bc ((hbb i j hij).trans hjb) hBc
    exact⟨k1,k2,hx.from hbb k3⟩
   ·have hB0:st.boxes[j]? =some B:=(hsame j hj).symm.trans hB
    obtain⟨k1,k2,k3⟩:=h.bx j b B hjb hB0
    obtain⟨q1,q2⟩:=hkeep b k2 (hnotT_box hjb hj)
    exact⟨q2.trans k1,vaM k2 hS.step.size,k3.mono hle (.refl _) q1⟩
  inj:=h.inj
  bn:=h.bn
  on:=λb L hL=>by
   unfold rR at hL
   split at hL
   ·rename_i i k hb
    obtain⟨k1,k2⟩:=hS.on b _ hb
    exact⟨k1,k2.elim (hTE b) (λhx=>.inr (vaH h.step.size hx))⟩
   ·rename_i t k hb
    obtain⟨k1,k2⟩:=hS.on b _ hb
    exact⟨k1,k2.elim (hTE b) (λhx=>.inr (vaH h.step.size hx))⟩
   ·have hsz:=hS.step.size
    cases hb:ow b with
    |none=>rw[hb]at hL;cases hL
    |some L'=>exact⟨vaM (h.on b _ hb).1 hsz,(h.on b _ hb).2⟩
  ot:=λt k e he=>by
   rcases vaw.1 he with he|he
   ·simp only[vag,Prod.mk.injEq]at he
    obtain⟨⟨k',e'⟩,hm,⟨rfl,rfl⟩,rfl⟩:=he
    obtain⟨u,v',h1,h2,h3,h4⟩:=hS.ot 0 k' e' (vag.2 ⟨(k',e'),hm,rfl⟩)
    simp at h1;subst h1
    refine⟨v,v',by simp[hd],h2,h3,λb hb=>?_⟩
    simp only[rR,h4 b hb]
   ·obtain⟨he,htd⟩:=cE he
    obtain⟨he,hne0⟩:=bK he
    have hne2:∀x∈oa,iL.tmp t k≠.tmp x.t x.k:=λx hx e=>by
     cases e
     simp only[va0,vbq,vaP]at hne0
     exact hne0 x hx rfl
    obtain⟨u,v',h1,h2,h3,h4⟩:=h.ot t k e he
    have hq:∀b,v'.ownBlock=some b->¬aN bsC (eQ ρ oa Γ ow) b:=λb hb=>hnotT_own (h4 b hb) (howned h3 hb) (λj k hx=>by cases hx) hne2
    exact⟨u,v',by rw[vaV (λe=>htd e.symm)];exact h1,h2,h3.same λb hb=>hkeep b (h3.lt hb) (hq b hb),λb hb=>hold (h4 b hb) (howned h3 hb) (λj k hx=>by cases hx) hne2⟩
  ob:=λj k e cs own b hB hk hjb=>by
   by_cases hj:j∈ρ
   ·obtain⟨i,hij⟩:=vbi.1 hj
    obtain⟨B',Bc,hB',hBc,hx⟩:=hH'.box i j hij
    rw[hB]at hB';cases hB'
    cases Bc with
    |cells cs' own'=>
     obtain⟨rfl,_,_⟩:=hx
     obtain⟨v',k1,k2,k3⟩:=hS.ob i k e cs' own b hBc hk ((hbb i j hij).trans hjb)
     refine⟨v',k1,k2,λb' hb'=>?_⟩
     have hgd:ρ.getD i 0=j:=by rw[vaq,hij];rfl
     simp only[rR,k3 b' hb',hgd]
    |map es=>simp[gh]at hx
    |dead=>simp[gh]at hx
   ·have hB0:st.boxes[j]? =some (.cells cs own):=(hsame j hj).symm.trans hB
    obtain⟨v',k1,k2,k3⟩:=h.ob j k e cs own b hB0 hk hjb
    obtain⟨_,hlt,_⟩:=h.bx j b _ hjb hB0
    have hne:∀j' k',iL.box j k=.box j' k'->j'∉ρ:=λj' k' hx=>by cases hx;exact hj
    have hne2:∀x∈oa,iL.box j k≠.tmp x.t x.k:=λx _ e=>by cases e
    exact⟨v',(bZ (hkeep b hlt (hnotT_box hjb hj)).1 k).trans k1,k2.same λb' hb'=>hkeep b' (k2.lt hb') (hnotT_own (k3 b' hb') (howned k2 hb') hne hne2),λb' hb'=>hold (k3 b' hb') (howned k2 hb') hne hne2⟩
  gl:=λg cs hg=>(h.gl g cs hg).mono hle (.refl _)
  gc:=h.gc
  gx:=h.gx
  step:={
   os:=hS.step.os.trans h.step.os
   tape:=hS.step.tape.trans h.step.tape
   output:=hS.step.output.trans h.step.output
   size:=vaH h.step.size hS.step.size
   drawn:=vaH h.step.drawn hS.step.drawn
   keep:=λb hb hT=>by
    have hlt:b<w.heap.size:=vaM hb h.step.size
    have hnT:¬aN bsC (eQ ρ oa Γ ow) b:=λhx=>(hTE b hx).elim hT (λhx=>absurd hx (vcD.2 hb))
    obtain⟨k1,k2⟩:=h.step.keep b hb hT
    obtain⟨q1,q2⟩:=hkeep b hlt hnT
    exact⟨q1.trans k1,q2.trans k2⟩
   le:=h.step.le.trans hle}}
end
def CN(P:Program)(GE:List (Nat×List PVal))(f:FuncId)(args:List PVal)(r:PVal)(ro:List (Nat×TypeId))(H':List aA):Prop:=
 (∀vs w,(callFunc f vs).run P w=.ok (.enter f vs) w)/\
 ∀(Γ:aP) (w:World) (vs:Array Value),
  SR P ⟨GE,Γ,w,aN [] λ_=>none⟩ Γ [] (λ_=>none) w vs ⟨args,[],[]⟩->
  Calls P f vs w λe w'=>∃v Γ' bs' ow',e=.returned v/\SR P ⟨GE,Γ,w,aN [] λ_=>none⟩ Γ' bs' ow' w' #[v] ⟨[r],H',ro.map λx=>((0,x.1),x.2)⟩
def AD(d n:Nat)(owC ow:Nat->Option iL):Nat->Option iL:=λb=>
 match owC b with
 |some (.tmp _ k)=>some (.tmp d k)
 |some (.box i k)=>some (.box (n+i) k)
 |none=>ow b
section
variable{P:Program}{E:lh}{Γ:aP}{bs:be}{ow:Nat->Option iL}{w:World}{a:Array Value}{st:aB}
theorem Vz(bs X:be):bs.Sub (bs++X):=λi b hb=>by rw[vac (aq hb)];exact hb
theorem U2{s n i j:Nat}(h:(List.range' s n)[i]? =some j):j=s+i/\i<n:=by
 have hi:=aq h
 rw[List.length_range']at hi
 rw[List.getElem?_range' hi]at h
 simp at h
 exact⟨h.symm,hi⟩
theorem SR.callN(h:SR P E Γ bs ow w a st){args:List PVal}{vs:Array Value}(hl:vs.size=args.length)(hv:∀(i:Nat) p v,args[i]? =some p->vs[i]? =some v->VR Γ bs w p v)(hcl:gZ 0 args):SR P ⟨E.GE,Γ,w,aN [] λ_=>none⟩ Γ [] (λ_=>none) w vs ⟨args,[],[]⟩:=by
 have hpre:SR P ⟨E.GE,Γ,w,aN [] λ_=>none⟩ Γ [] (λ_=>none) w vs ⟨args,[],[]⟩:={
  wi:=h.wi
  sz:=hl
  tm:=λt p v hp hv'=>(hv t p v hp hv').restrict (n:=0) (kr hcl hp) (λi b hi _=>absurd hi (vaS _))
  bl:=rfl
  bx:=λi b B hb=>by simp at hb
  inj:=λi j b hb=>by simp at hb
  bn:=λi b hb=>by simp at hb
  on:=λb L hL=>by cases hL
  ot:=λt k e he=>by simp at he
  ob:=λi j e cs own b hB=>by simp at hB
  gl:=λg cs hg=>(h.gl g cs hg).restrict (n:=0) (by simp only[PVal.cl];exact h.gc g cs hg) (λi b hi _=>absurd hi (vaS _))
  gc:=h.gc
  gx:=λg cs hg=>by
   obtain⟨k1,_,_,k4⟩:=h.gnow hg
   exact⟨k1,λhT=>hT.elim (λhx=>by obtain⟨i,hi⟩:=hx;simp at hi) (λhx=>hx rfl),k4⟩
  step:=.refl _ _ _ _}
 exact hpre
theorem SR.joinN(h:SR P E Γ bs ow w a st){r rc:PVal}{ro:List (Nat×TypeId)}{New Hc':List aA}{d:Nat}{v:Value}{Γ':aP}{bs':be}{owC:Nat->Option iL}{w':World}(hd:d<a.size)(hS:SR P ⟨E.GE,Γ,w,aN [] λ_=>none⟩ Γ' bs' owC w' #[v] ⟨[rc],Hc',ro.map λx=>((0,x.1),x.2)⟩)(hN:New.length=Hc'.length)
  (hB:∀(i:Nat) B Bc,New[i]? =some B->Hc'[i]? =some Bc->gh (List.range' st.boxes.length Hc'.length) B Bc) (hr:tQ (List.range' st.boxes.length Hc'.length) r rc):
  SR P E Γ' (bs++bs') (AD d st.boxes.length owC ow) w' (a.setIfInBounds d v) ⟨st.tmps.set d r,st.boxes++New,(ro.map λx=>((d,x.1),x.2))++bu d st.own⟩/\Γ.Le w Γ' w':=by
 have hT:∀b,¬aN [] (λ_=>none) b:=λb hb=>by
  rcases hb with⟨i,hi⟩|hb
  ·simp at hi
  ·exact hb rfl
 have hle:Γ.Le w Γ' w':=hS.step.le
 have hw:=h.world (λ_=>False) hle hS.wi hS.step.os hS.step.tape hS.step.output hS.step.size (λb hb _=>hS.step.keep b hb (hT b)) (λ_ hx=>hx.elim) (λ_ _ _ hx=>hx) (λ_ _ _ hx=>hx) hS.step.drawn
 have hbl:bs'.length=Hc'.length:=hS.bl
 have hsub:=Vz bs bs'
 have hbb:∀(i j:Nat),(List.range' st.boxes.length Hc'.length)[i]? =some j->bs'[i]? =(bs++bs')[j]?:=λi j hij=>by
  obtain⟨rfl,hi⟩:=U2 hij
  rw[<-h.bl,vaf (vbB _ _),vbE]
 have hnew:∀{i b:Nat},bs'[i]? =some (some b)->w.heap.size<=b:=λhb=>(hS.bn _ _ hb).resolve_left (hT _)
 have hold:∀{i b:Nat},bs[i]? =some (some b)->b<w.heap.size:=λ{i b} hb=>by
  have hi:i<st.boxes.length:=by rw[<-h.bl];exact aq hb
  exact(h.bx i b _ hb (vab hi)).2.1
 have hcase:∀{i:Nat} {x:Option Nat},(bs++bs')[i]? =some x->(i<bs.length/\bs[i]? =some x)\/(∃k,i=bs.length+k/\bs'[k]? =some x):=λ{i x} hi=>by
  by_cases hlt:i<bs.length
  ·rw[vac hlt]at hi;exact .inl ⟨hlt,hi⟩
  ·rw[vaf (by omega)]at hi;exact .inr ⟨i - bs.length,by omega,hi⟩
 have how:∀{b L},ow b=some L->AD d st.boxes.length owC ow b=some L:=λ{b L} hL=>by
  have hb:=(h.on b L hL).1
  unfold AD
  cases hc:owC b with
  |none=>exact hL
  |some L'=>
   have:=((hS.on b L' hc).2.resolve_left (hT b))
   exact absurd hb (vcW.2 this)
 have hrv:VR Γ' (bs++bs') w' r v:=hr.from hbb (hS.tm 0 rc v rfl rfl)
 refine⟨?_,hle⟩
 have hlen:st.boxes.length=bs.length:=h.bl.symm
 exact{
  wi:=hS.wi
  sz:=by simp[h.sz]
  tm:=λt q u hq hu=>by
   simp only[vbc]at hq
   rw[vbt]at hu
   by_cases hdt:d=t
   ·subst hdt
    simp only[if_true]at hq hu
    split at hu
    ·split at hq
     ·cases hu;cases hq;exact hrv
     ·cases hq
    ·rename_i hnd;exact absurd hd hnd
   ·simp only[hdt,if_false]at hq hu
    exact(hw.tm t q u hq hu).mono (.refl _ _) hsub
  bl:=by simp[h.bl,hN,hbl]
  bx:=λi b B hb hBi=>by
   rcases hcase hb with⟨hlt,hb'⟩|⟨k,rfl,hb'⟩
   ·rw[vac (by omega)]at hBi
    obtain⟨h1,h2,h3⟩:=hw.bx i b B hb' hBi
    exact⟨h1,h2,h3.mono (.refl _ _) hsub rfl⟩
   ·rw[vaf (by omega),hlen,vbE]at hBi
    have hk:k<Hc'.length:=by rw[<-hbl];exact aq hb'
    have hBc:Hc'[k]? =some Hc'[k]:=vab hk
    obtain⟨h1,h2,h3⟩:=hS.bx k b _ hb' hBc
    exact⟨h1,h2,(hB k B _ hBi hBc).from hbb h3⟩
  inj:=λi j b hi hj=>by
   rcases hcase hi with⟨_,hi'⟩|⟨k,rfl,hi'⟩<;>rcases hcase hj with⟨_,hj'⟩|⟨k',rfl,hj'⟩
   ·exact h.inj i j b hi' hj'
   ·exact absurd (hold hi') (vcW.2 (hnew hj'))
   ·exact absurd (hold hj') (vcW.2 (hnew hi'))
   ·rw[hS.inj k k' b hi' hj']
  bn:=λi b hb=>by
   rcases hcase hb with⟨_,hb'⟩|⟨k,rfl,hb'⟩
   ·exact h.bn i b hb'
   ·exact .inr (vaH h.step.size (hnew hb'))
  on:=λb L hL=>by
   unfold AD at hL
   cases hc:owC b with
   |none=>rw[hc]at hL;exact hw.on b L hL
   |some L'=>
    obtain⟨k1,k2⟩:=hS.on b L' hc
    exact⟨k1,.inr (vaH h.step.size (k2.resolve_left (hT b)))⟩
  ot:=λt k e he=>by
   rcases vaw.1 he with he|he
   ·simp only[vag,Prod.mk.injEq]at he
    obtain⟨⟨k',e'⟩,hm,⟨rfl,rfl⟩,rfl⟩:=he
    obtain⟨u,v',h1,h2,h3,h4⟩:=hS.ot 0 k' e' (vag.2 ⟨(k',e'),hm,rfl⟩)
    simp at h1;subst h1
    refine⟨v,v',by simp[hd],h2,h3,λb hb=>?_⟩
    simp only[AD,h4 b hb]
   ·obtain⟨he,htd⟩:=cE he
    obtain⟨u,v',h1,h2,h3,h4⟩:=hw.ot t k e he
    exact⟨u,v',by rw[vaV (λe=>htd e.symm)];exact h1,h2,h3,λb hb=>how (h4 b hb)⟩
  ob:=λi j e cs own b hBi hj hb=>by
   rcases hcase hb with⟨hlt,hb'⟩|⟨k,rfl,hb'⟩
   ·rw[vac (by omega)]at hBi
    obtain⟨v',k1,k2,k3⟩:=hw.ob i j e cs own b hBi hj hb'
    exact⟨v',k1,k2,λb' hx=>how (k3 b' hx)⟩
   ·rw[vaf (by omega),hlen,vbE]at hBi
    have hk:k<Hc'.length:=by rw[<-hbl];exact aq hb'
    have hBc:Hc'[k]? =some Hc'[k]:=vab hk
    have hx:=hB k _ _ hBi hBc
    cases hcc:Hc'[k]with
    |cells cs' own'=>
     rw[hcc]at hx hBc
     obtain⟨rfl,_,_⟩:=hx
     obtain⟨v',k1,k2,k3⟩:=hS.ob k j e cs' own b hBc hj hb'
     refine⟨v',k1,k2,λb' hx=>?_⟩
     simp only[AD,k3 b' hx,hlen]
    |map es=>rw[hcc]at hx;simp[gh]at hx
    |dead=>rw[hcc]at hx;simp[gh]at hx
  gl:=λg cs hg=>(hw.gl g cs hg).mono (.refl _ _) hsub
  gc:=h.gc
  gx:=h.gx
  step:=hw.step}
theorem V9(h:SR P E Γ bs ow w a st){g:FuncId}{args:List PVal}{r rc:PVal}{ro:List (Nat×TypeId)}{New Hc':List aA}{vs:Array Value}{d:Nat}(hd:d<a.size)(hC:CN P E.GE g args rc ro Hc')
  (hl:vs.size=args.length) (hv:∀(i:Nat) p v,args[i]? =some p->vs[i]? =some v->VR Γ bs w p v) (hcl:gZ 0 args) (hN:New.length=Hc'.length)
  (hB:∀(i:Nat) B Bc,New[i]? =some B->Hc'[i]? =some Bc->gh (List.range' st.boxes.length Hc'.length) B Bc) (hr:tQ (List.range' st.boxes.length Hc'.length) r rc):
  Calls P g vs w λe w'=>∃v Γ' ow' X,e=.returned v/\SR P E Γ' (bs++X) ow' w' (a.setIfInBounds d v) ⟨st.tmps.set d r,st.boxes++New,(ro.map λx=>((d,x.1),x.2))++bu d st.own⟩/\Γ.Le w Γ' w':=by
 refine(hC.2 Γ w vs (h.callN hl hv hcl)).mono λe w' he=>?_
 obtain⟨v,Γ',bs',owC,rfl,hS⟩:=he
 obtain⟨h1,h2⟩:=h.joinN hd hS hN hB hr
 exact⟨v,Γ',_,bs',rfl,h1,h2⟩
end
def Rk(P:Program)(GE:List (Nat×List PVal))(o:Oper)(K:aB->Prop)(st:aB):Prop:=
 match o.op,o.dst with
 | .call { callee := .value f,args,.. },some d => ∃ (g:FuncId) (rc:PVal) (ro:List (Nat×TypeId)) (New Hc':List aA) (r:PVal),opv GE st.tmps f = .func (.func g) [] []∧CN P GE g (args.toList.map (opv GE st.tmps)) rc ro Hc'∧gZ 0 (args.toList.map (opv GE st.tmps))∧New.length = Hc'.length ∧
   (∀(i:Nat) B Bc,New[i]? =some B->Hc'[i]? =some Bc->gh (List.range' st.boxes.length Hc'.length) B Bc)/\tQ (List.range' st.boxes.length Hc'.length) r rc/\d<st.tmps.length/\
   K ⟨st.tmps.set d r,st.boxes++New,(ro.map λx=>((d,x.1),x.2))++bu d st.own⟩
 |_,_=>False
theorem UY{P:Program}{GE:List (Nat×List PVal)}{o:Oper}{K K':aB->Prop}{st:aB}(hk:∀st,K st->K' st)(h:Rk P GE o K st):Rk P GE o K' st:=by
 unfold Rk at *
 split at h
 ·obtain⟨g,rc,ro,New,Hc',r,h1,h2,h3,h4,h5,h6,h7,h8⟩:=h;exact⟨g,rc,ro,New,Hc',r,h1,h2,h3,h4,h5,h6,h7,hk _ h8⟩
 ·exact h
section
variable{P:Program}{E:lh}{Γ:aP}{bs:be}{ow:Nat->Option iL}{w:World}{a:Act}{st:aB}
theorem SK(h:SR P E Γ bs ow w a.tmps st){o:Oper}{id:Nat}{K:aB->Prop}(hp:Rk P E.GE o K st)(Q:Exit->Act->World->Prop):o.wp P a w (Dp P E bs id (aE o.op) a.defers K) Q:=by
 unfold Rk at hp
 split at hp
 ·rename_i f args tys d ho hdst
  obtain⟨g,rc,ro,New,Hc',r,hf,hC,hcl,hN,hB,hr,hd,hK⟩:=hp
  have hvf:VR Γ bs w (opv E.GE st.tmps f) (a.eval f):=h.opv a.defers f
  rw[hf]at hvf
  generalize hev:a.eval f=vf at hvf
  cases hvf with
  |func _ _ _ fs cs hl hl' k1 k2=>
  have hfs:fs=#[]:=vba (by simpa using hl)
  have hcs:cs=#[]:=vba (by simpa using hl')
  subst hfs;subst hcs
  have hrun:(execOp a.eval o).run P w=.ok (.enter g (args.map a.eval)) w:=by
   simp[execOp,ho,resolve,hev,Deferred.ofValue,invoke,hC.1]
  have hvr:∀(i:Nat) p v,(args.toList.map (opv E.GE st.tmps))[i]? =some p->(args.map a.eval)[i]? =some v->VR Γ bs w p v:=
   λi p v hp hv=>yg (λx=>h.opv a.defers x) args.toList i p v hp (by simpa using hv)
  have hds:d<a.tmps.size:=by rw[h.sz];exact hd
  unfold Oper.wp
  rw[hrun,Oper.upon_enter]
  refine(V9 h hds hC (by simp) hvr hcl hN hB hr).mono λe w' he=>?_
  obtain⟨v,Γ',ow',X,rfl,hS,_⟩:=he
  have hput:(a.put o.dst v).tmps=a.tmps.setIfInBounds d v:=by rw[hdst];rfl
  rw[<-hput]at hS
  show Dp P E bs id (aE o.op) a.defers K (a.put o.dst v) w'
  exact⟨bC _ _ _,Γ',_,_,_,hS,hK,.inr (.inr ⟨X,rfl⟩)⟩
 ·exact hp.elim
end
def nilTo(i:Nat)(T:TypeId):PVal->PVal
 |.val (.pointer none)=>.nptr i T
 |p=>p
def YG(P:Program)(GE:List (Nat×List PVal))(o:Oper)(id:Nat)(K:aB->Prop)(st:aB):Prop:=
 match o.op,o.dst with
 | .box T (.tmp t),some d => ∃ (l:List PVal) (L:List (Nat×TypeId)),st.tmps.getD t .undef = .agg l∧Fx l = true∧(∀ y ∈ L,((t,y.1),y.2) ∈ st.own)∧(L.map (·.1)).Nodup∧d < st.tmps.length ∧
   K ⟨st.tmps.set d (.bptr id 0),st.boxes.set id (.cells (l.map (nilTo id T)) ((L.map λy=>(0+y.1,y.2)).reverse++[])),bu d (st.own.filter λx=>!L.any λy=>x.1==(t,y.1))⟩
 |.alloc T,some d=>∃zs:List PVal,eD P T=some zs/\d<st.tmps.length/\K ⟨st.tmps.set d (.bptr id 0),st.boxes.set id (.cells (zs.map (nilTo id T)) (IB P T)),bu d st.own⟩
 | .call { callee := .builtin .append,args:=⟨[.tmp t,y]⟩,argTypes:=⟨[T,T']⟩ },some d => ∃ (es:List (List PVal)) (s:List UInt8) (e:TypeId) (p:PVal),st.tmps.getD t .undef = .slice es∧opv GE st.tmps y = .str s∧P.underlying T = some (.slice e)∧((t,0),e) ∈ st.own∧FC P T T' es s = some p∧d < st.tmps.length ∧
   K ⟨st.tmps.set d p,st.boxes,((d,0),e)::bu d (st.own.filter λx=>x.1 !=(t,0))⟩
 |_,_=>False
theorem W4{P:Program}{GE:List (Nat×List PVal)}{o:Oper}{id:Nat}{K K':aB->Prop}{st:aB}(hk:∀st,K st->K' st)(h:YG P GE o id K st):YG P GE o id K' st:=by
 unfold YG at *
 split at h
 ·obtain⟨l,L,h1,h0,h2,h3,h4,h5⟩:=h;exact⟨l,L,h1,h0,h2,h3,h4,hk _ h5⟩
 ·obtain⟨zs,h1,h2,h3⟩:=h;exact⟨zs,h1,h2,hk _ h3⟩
 ·obtain⟨es,s,e,p,h1,h2,h3,h4,h5,h6,h7⟩:=h;exact⟨es,s,e,p,h1,h2,h3,h4,h5,h6,hk _ h7⟩
 ·exact h
section
variable{P:Program}{E:lh}{Γ:aP}{bs:be}{ow:Nat->Option iL}{w:World}
theorem VR.nilTo{p:PVal}{v:Value}(h:VR Γ bs w p v)(i:Nat)(T:TypeId):VR Γ bs w (nilTo i T p) v:=by
 unfold Go.Proofs.YtkdahfeiedaahaaGreatDoor.nilTo
 split
 ·cases h;exact .nptrN i T
 ·exact h
section
variable{a:Array Value}{st:aB}
theorem SR.weakBox(h:SR P E Γ bs ow w a st){i:Nat}{cs:List PVal}{own:List (Nat×TypeId)}(hi:st.boxes[i]? =some (.cells cs own)){T:TypeId}(hT:∀(b:Nat) c t,bs[i]? =some (some b)->w.heap[b]? =some (.cells c t (0,0))->t=T/\c.size=cs.length):SR P E Γ bs ow w a {st with boxes:=st.boxes.set i (.cells (cs.map (nilTo i T)) own)}:=
 { h with
  bl:=by simp[h.bl]
  bx:=λj b B hb hB=>by
   by_cases hj:i=j
   ·subst hj
    rw[vae (aq hi)]at hB
    cases hB
    obtain⟨k1,k2,c,t,k3,k4,k5,k6⟩:=h.bx i b _ hb hi
    refine⟨k1,k2,c,t,k3,by simpa using k4,λq p v hp hv=>?_,λq i2 T2 hq=>?_⟩
    rotate_left
    ·rw[vav]at hq
     obtain⟨p0,hp0,hp1⟩:=vaJ.1 hq
     rw[vaO]
     unfold Go.Proofs.YtkdahfeiedaahaaGreatDoor.nilTo at hp1
     split at hp1
     ·cases hp1;exact hT b c t hb k3
     ·subst hp1;exact k6 q i2 T2 hp0
    rw[vav]at hp
    obtain⟨p0,hp0,rfl⟩:=vaJ.1 hp
    exact(k5 q p0 v hp0 hv).nilTo i T
   ·rw[vai hj]at hB
    exact h.bx j b B hb hB
  ob:=λj q e cs' own' b hB hj hb=>by
   by_cases hji:i=j
   ·subst hji
    rw[vae (aq hi)]at hB
    cases hB
    exact h.ob i q e cs own b hi hj hb
   ·rw[vai hji]at hB
    exact h.ob j q e cs' own' b hB hj hb}
end
variable{a:Act}{st:aB}
theorem UP(h:SR P E Γ bs ow w a.tmps st){o:Oper}{id:Nat}(hid:aE o.op=true->bs[id]? =some none){K:aB->Prop}(hp:YG P E.GE o id K st)(Q:Exit->Act->World->Prop):o.wp P a w (Dp P E bs id (aE o.op) a.defers K) Q:=by
 unfold YG at hp
 split at hp
 ·rename_i T t d ho hd
  obtain⟨l,L,ht,hno,hm,hn,hdl,hK⟩:=hp
  have hid':=hid (by simp[ho,aE])
  have htl:t<st.tmps.length:=by
   by_cases hlt:t<st.tmps.length
   ·exact hlt
   ·rw[vaq,vaK (vb5 hlt)]at ht;cases ht
  have hta:t<a.tmps.size:=by rw[h.sz];exact htl
  have hu:a.tmps[t]? =some a.tmps[t]:=by simp[hta]
  generalize a.tmps[t]=u at hu
  have hvt:=yD h hu
  rw[ht]at hvt
  obtain⟨v,w',r1,r2,r3,r4,r5⟩:=Ra (t:=T) h hid' hvt (cs:=l) (LS rfl hno)
  cases hvt with
  |agg _ vs hl hvv=>
  have hrun:(execOp a.eval o).run P w=.ok (.value v) w':=by simp[execOp,ho,dA hu,r1]
  have hw':w'=w.alloc (.cells (Value.agg vs).cells T)/\v=.pointer (some ⟨w.heap.size,0,none⟩):=by
   have:(Instr.box T (.agg vs)).run P w=.ok (.pointer (some ⟨w.heap.size,0,none⟩)) (w.alloc (.cells (Value.agg vs).cells T)):=by simp[Instr.box,newVar,newRow]
   rw[this]at r1
   cases r1
   exact⟨rfl,rfl⟩
  obtain⟨rfl,rfl⟩:=hw'
  unfold Oper.wp
  rw[hrun,Oper.upon_value]
  have hbi:(bs.set id (some w.heap.size))[id]? =some (some w.heap.size):=vae (aq hid')
  have hlid:id<st.boxes.length:=by rw[<-h.bl];exact aq hid'
  obtain⟨ow',g1⟩:=SR.moveOwns (off:=0) hbi hu L r2 (vae hlid) hm hn λy hy=>by
   obtain⟨u',v',e1,e2,_,_⟩:=h.ot t y.1 y.2 (hm y hy)
   rw[hu]at e1
   cases e1
   refine⟨v',e2,?_⟩
   rw[vaI,cell_of_row _ _ _ _ T _ (eJ w _)]
   exact e2
  have g2:=g1.weakBox (i:=id) (cs:=l) (own:=(L.map λy=>(0+y.1,y.2)).reverse++[]) (by rw[vbR];exact vae hlid) (T:=T) (λb c t hb hc=>by
   rw[hbi]at hb;cases hb
   rw[eJ]at hc;cases hc
   exact⟨rfl,hl⟩)
  simp only[vbR]at g2
  have g3:=g2.set (d:=d) r3
  have hput:∀v,(a.put o.dst v).tmps=a.tmps.setIfInBounds d v:=λv=>by rw[hd];rfl
  rw[<-hput]at g3
  exact⟨bC _ _ _,Γ,_,_,_,g3,hK,.inr (.inl ⟨by simp[ho,aE],_,rfl⟩)⟩
 ·rename_i T d ho hd
  obtain⟨zs,hz,hdl,hK⟩:=hp
  have hid':=hid (by simp[ho,aE])
  obtain⟨v,w',r1,r2,r3,r4,r5⟩:=LN (t:=T) h hid' hz
  have hrun:(execOp a.eval o).run P w=.ok (.value v) w':=by simp[execOp,ho,r1]
  unfold Oper.wp
  rw[hrun,Oper.upon_value]
  have hlid:id<st.boxes.length:=by rw[<-h.bl];exact aq hid'
  have g2:=r2.weakBox (i:=id) (cs:=zs) (own:=IB P T) (vae hlid) (T:=T) (λb c t hb hc=>by
   obtain⟨z,hr,e1,i,hi,hz'⟩:=jy (w:=w) hz
   have hw':w'=w.alloc (.cells z.cells T)/\v=.pointer (some ⟨w.heap.size,0,none⟩):=by
    have:(Instr.alloc T true (.tuple #[])).run P w=.ok (.pointer (some ⟨w.heap.size,0,none⟩)) (w.alloc (.cells z.cells T)):=by simp[Instr.alloc,hr,newVar,newRow]
    rw[this]at r1
    cases r1
    exact⟨rfl,rfl⟩
   obtain⟨rfl,rfl⟩:=hw'
   rw[vae (aq hid')]at hb;cases hb
   rw[eJ]at hc;cases hc
   exact⟨rfl,by rw[e1];simp⟩)
  simp only[vbR]at g2
  have g3:=g2.set (d:=d) r3
  have hput:∀v,(a.put o.dst v).tmps=a.tmps.setIfInBounds d v:=λv=>by rw[hd];rfl
  rw[<-hput]at g3
  exact⟨bC _ _ _,Γ,_,_,_,g3,hK,.inr (.inl ⟨by simp[ho,aE],_,rfl⟩)⟩
 ·rename_i t y T T' d ho hd
  obtain⟨es,s,e,p,ht,hy,hT,hm,hpa,hdl,hK⟩:=hp
  obtain⟨u,v,e1,e2,h3,h4⟩:=h.ot t 0 e hm
  have hvt:=yD h e1
  rw[ht]at hvt
  have hvu:v=u:=by
   exact(FA e2 (λvs hx=>by subst hx;cases hvt) (λvs hx=>by subst hx;cases hvt)).symm
  subst hvu
  have hvy:VR Γ bs w (opv E.GE st.tmps y) (a.eval y):=h.opv a.defers y
  rw[hy]at hvy
  have hf:=h.freeT t 0
  obtain⟨v',w',Γ',r1,r2,r3,r4,r5,r6⟩:=PN (ty:=o.type) hf hT hvt hvy h3 (λb hb=>⟨by simp[h4 b hb],(h.on b _ (h4 b hb)).2⟩) hpa
  have hrun:(execOp a.eval o).run P w=.ok (.value v') w':=by
   simp[execOp,ho,resolve,invoke,builtin,dA e1,r1]
  unfold Oper.wp
  rw[hrun,Oper.upon_value]
  have hds:d<a.tmps.size:=by rw[h.sz];exact hdl
  have g1:=r2.set (d:=d) r4
  have g2:=g1.addOwn (d:=d) (k:=0) (e:=e) (u:=v') (v:=v') (by simp[hds]) r5.part r5 r6
  have hput:∀v,(a.put o.dst v).tmps=a.tmps.setIfInBounds d v:=λv=>by rw[hd];rfl
  rw[<-hput]at g2
  exact⟨bC _ _ _,Γ',bs,_,_,g2,hK,.inl rfl⟩
 ·exact hp.elim
end
abbrev nh:Value:=.slice none 0 0
def ZN(v:Value):PVal:=if kR v then .val nh else absC v
def Xj(P:Program)(t:TypeId):Option (List PVal):=((P.info? t).bind (·.zero)).map λz=>z.cells.toList.map ZN
def PO(P:Program)(t:TypeId)(parts:List (Nat×PVal)):Option (List PVal):=
 match P.underlying t,Xj P t with
 |some (.struct fs),some zs=>if fs.all (λf=>(P.info? f.type).isSome)then LU (λi=>(fs[i]?).map λf=>(f.offset,P.cellsOf f.type)) zs parts else none
 |_,_=>none
def SC(cs:List PVal):List (Nat×TypeId)->Prop
 |[]=>True
 |x::r=>cs[x.1]? =some (.val nh)/\SC cs r
def FJ(P:Program)(t:TypeId)(parts:List (Nat×PVal))(L:List (Nat×TypeId)):Prop:=∃cs,PO P t parts=some cs/\SC cs L
def ownLe(H0 H:List aA):Prop:=H0.length=H.length/\∀(i:Nat) B,H0[i]? =some B->∃B',H[i]? =some B'/\(B=B'\/∃cs own own',B'=.cells cs own/\B=.cells cs own'/\∀x∈own',x∈own)
structure El(P:Program)(GE:List (Nat×List PVal))(f:Operand)(args:List Operand)(st:aB)(r:PVal)(ro:List (Nat×TypeId))(H':List aA)(oa:List OA):Prop where
 ex:∃(g:FuncId) (first cap argsC:List PVal) (ρ:List Nat) (H0 Hc Hc':List aA) (rc:PVal),opv GE st.tmps f=.func (.func g) first cap/\ρ.Nodup/\C P GE g argsC (oa.map λx=>((x.i,x.k),x.e)) Hc rc ro Hc'/\
  ownLe H0 st.boxes/\zr ρ H0 Hc/\zr ρ H' Hc'/\H'.length=st.boxes.length/\(∀j:Nat,j∉ρ->H'[j]? =H0[j]?)/\tQ ρ r rc/\(first++args.map (opv GE st.tmps)++cap).length=argsC.length/\
  (∀(i:Nat) p q,(first++args.map (opv GE st.tmps)++cap)[i]? =some p->argsC[i]? =some q->tQ ρ p q)/\
  (∀x∈oa,∃j,x.i=first.length+j/\((args[j]? =some (.const nh)/\x.k=0)\/(((x.t,x.k),x.e)∈st.own/\args[j]? =some (.tmp x.t))))/\(∀x∈oa,∀y∈oa,x.t=y.t->x.k=y.k->x.i=y.i)
def L4(P:Program)(GE:List (Nat×List PVal))(o:Oper)(K:aB->Prop)(st:aB):Prop:=
 match o.op,o.dst with
 | .build T parts,some d => ∃ (p:PVal) (L:List (Nat×TypeId)),dh P T (parts.toList.map fun x => (x.1,opv GE st.tmps x.2)) = some p∧FJ P T (parts.toList.map fun x => (x.1,opv GE st.tmps x.2)) L ∧
   d<st.tmps.length/\K {st with tmps:=st.tmps.set d p,own:=(L.map λx=>((d,x.1),x.2))++bu d st.own}
 | .store T x (.tmp t),none => ∃ (i off:Nat) (H:List aA) (cs:List PVal) (own L:List (Nat×TypeId)) (l:List PVal),opv GE st.tmps x = .bptr i off∧st.tmps.getD t .undef = .agg l∧di P T (.bptr i off) (.agg l) st.boxes = some H∧H[i]? = some (.cells cs own) ∧
   (∀y∈L,((t,y.1),y.2)∈st.own)/\(L.map (·.1)).Nodup/\
   K ⟨st.tmps,H.set i (.cells cs ((L.map λy=>(off+y.1,y.2)).reverse++own)),st.own.filter λx=>!L.any λy=>x.1==(t,y.1)⟩
 | .load T x,some d => ∃ (i off:Nat) (cs:List PVal) (own L:List (Nat×TypeId)) (l:List PVal),(∃ fs,P.underlying T = some (.struct fs))∧opv GE st.tmps x = .bptr i off∧st.boxes[i]? = some (.cells cs own)∧aY P T (cs.drop off) = some (.agg l) ∧
   (∀y∈L,(off+y.1,y.2)∈own)/\(L.map (·.1)).Nodup/\(∀y∈L,y.1<l.length)/\d<st.tmps.length/\
   K ⟨st.tmps.set d (.agg l),st.boxes.set i (.cells cs (own.filter λx=>!L.any λy=>x.1==off+y.1)),(L.map λy=>((d,y.1),y.2)).reverse++bu d st.own⟩
 |.box _ x,some d=>∃vs:List PVal,cj (opv GE st.tmps x)=some vs/\d<st.tmps.length/\K {st with tmps:=st.tmps.set d (.eptr vs),own:=bu d st.own}
 | .call { callee := .value f,args,.. },some d => ∃ (r:PVal) (ro:List (Nat×TypeId)) (H':List aA) (oa:List OA),El P GE f args.toList st r ro H' oa∧d < st.tmps.length ∧
   K ⟨st.tmps.set d r,H',(ro.map λx=>((d,x.1),x.2))++bu d (st.own.filter λz=>!oa.any λx=>z.1==(x.t,x.k))⟩
 |_,_=>False
def AP(P:Program)(GE:List (Nat×List PVal))(A:List Nat)(o:Oper)(id:Nat)(K:aB->Prop)(st:aB):Prop:=IA P GE A o id K st\/L4 P GE o K st\/Rl P GE o K st\/Rk P GE o K st\/YG P GE o id K st
def cU(P:Program)(GE:List (Nat×List PVal))(A:List Nat)(ops:Array Oper)(K:aB->Prop):List Oper->Nat->aB->Prop
 |[],_,st=>K st
 | o :: rest,id,st =>
  match o.guard with
  |none=>AP P GE A o id (cU P GE A ops K rest (id+if aE o.op then 1 else 0)) st
  |some (j,want)=>match tj ops st.tmps j with
   | some x => (x = some want→AP P GE A o id (cU P GE A ops K rest (id + if aE o.op then 1 else 0)) st) ∧
     (x≠some want->cU P GE A ops K rest (id+if aE o.op then 1 else 0) (vY st o.dst (.val undef) [] st.boxes))
   |none=>False
section
variable{P:Program}{E:lh}{Γ:aP}{bs:be}{ow:Nat->Option iL}{w:World}
theorem XV{z:Value}(j:Nat)(p:PVal)(v:Value)(hp:(z.cells.toList.map ZN)[j]? =some p)(hv:z.cells[j]? =some v):VR Γ bs w p v:=by
 simp only[vav,va2,hv,vak,vax]at hp
 subst hp
 unfold ZN
 split
 ·rename_i hn
  unfold kR at hn
  split at hn
  ·exact .val _
  ·cases hn
 ·exact .absC v
theorem Rb{t:TypeId}{parts:List (Nat×PVal)}{vs:List (Nat×Value)}{cs:List PVal}(hl:parts.length=vs.length)
  (hv:∀(j:Nat) p v,parts[j]? =some p->vs[j]? =some v->p.1=v.1/\VR Γ bs w p.2 v.2) (h:PO P t parts=some cs):
  ∃ov,(Instr.build t vs.toArray).run P w=.ok (.agg ov) w/\ov.size=cs.length/\∀(j:Nat) p v,cs[j]? =some p->ov[j]? =some v->VR Γ bs w p v:=by
 unfold PO at h
 split at h
 ·rename_i fs zs ht hz
  unfold Xj at hz
  simp only[vaJ,vbm]at hz
  obtain⟨z,⟨i,hi,hz'⟩,rfl⟩:=hz
  have hr:(zeroValue t).run P w=.ok z w:=by simp[zeroValue,run_typeInfo w hi,hz']
  split at h
  ·rename_i hall
   have hplaces:∀(l:List Field),(∀f∈l,(P.info? f.type).isSome=true)->(l.mapM λf=>do pure (f.offset,<-sizeOf f.type):Sem (List (Nat×Nat))).run P w=.ok (l.map λf=>(f.offset,P.cellsOf f.type)) w:=by
    intro l hl
    induction l with
    |nil=>simp
    |cons f l ih=>
     obtain⟨inf,hinf⟩:=vaT.1 (hl f (by simp))
     have:=ih λg hg=>hl g (by simp[hg])
     simp only[vcd,Sem.run_bind,run_sizeOf w hinf,Result.andThen_ok,this,Sem.run_pure,vaz]
   have hp:(fs.mapM λf=>do pure (f.offset,<-sizeOf f.type):Sem (Array (Nat×Nat))).run P w=.ok (fs.map λf=>(f.offset,P.cellsOf f.type)) w:=by
    rw[vcx]
    simp only[Sem.run_map]
    rw[hplaces fs.toList λf hf=>by
     have:=vbv.1 hall f (by simpa using hf)
     simpa using this]
    simp only[Result.andThen_ok]
    exact vbd (λx=>Result.ok x w) (vbO (by simp))
   obtain⟨ov,r1,r2,r3⟩:=BV (place':=((fs.map λf=>(f.offset,P.cellsOf f.type))[·]?)) (λi x hx=>by simpa using hx) parts vs _ z.cells hl hv (by simp) (λj p v hp hv=>XV j p v hp hv) h
   refine⟨ov,?_,r2,r3⟩
   simp only[Instr.build,Sem.run_bind,hr,Result.andThen_ok,run_underlying ht,hp]
   rw[r1]
   simp
  ·cases h
 ·cases h
theorem LH{cs:List PVal}:∀{L:List (Nat×TypeId)},SC cs L->∀x∈L,cs[x.1]? =some (.val nh)
 |[],_,x,hx=>by cases hx
 | y :: L,h,x,hx => by
  rcases vaB.1 hx with rfl|hx
  ·exact h.1
  ·exact LH h.2 x hx
section
variable{a:Array Value}{st:aB}
theorem SR.ownNils(h:SR P E Γ bs ow w a st){d:Nat}{u:Value}(hu:a[d]? =some u)(L:List (Nat×TypeId))(hL:∀x∈L,jU u x.1=some nh):SR P E Γ bs ow w a {st with own:=(L.map λx=>((d,x.1),x.2))++st.own}:=
 { h with
  ot:=λt k e he=>by
   rcases vaw.1 he with he|he
   ·simp only[vag,Prod.mk.injEq]at he
    obtain⟨x,hx,⟨rfl,rfl⟩,rfl⟩:=he
    exact⟨u,nh,hu,hL x hx,⟨0,[],World.ownsRow_nil _ _ _ _,λb hb=>by simp[Value.ownBlock]at hb⟩,λb hb=>by simp[Value.ownBlock]at hb⟩
   ·exact h.ot t k e he}
theorem SR.takeOwn(h:SR P E Γ bs ow w a st){i b d k off:Nat}{e:TypeId}{u v:Value}{cs:List PVal}{own:List (Nat×TypeId)}(hi:bs[i]? =some (some b))(hB:st.boxes[i]? =some (.cells cs own))
  (hm:(off,e)∈own) (hu:a[d]? =some u) (hp:jU u k=some v) (hc:w.cell? ⟨b,off,none⟩=some v):
  ∃ow',SR P E Γ bs ow' w a {st with own:=((d,k),e)::st.own,boxes:=st.boxes.set i (.cells cs (own.filter λx=>x.1 !=off))}:=by
 obtain⟨v',q1,q2,q3⟩:=h.ob i off e cs own b hB hm hi
 rw[hc]at q1
 cases q1
 exact⟨_,(h.freeB (j:=off) hB).addOwn (d:=d) (k:=k) (e:=e) (u:=u) (v:=v) hu hp q2 (λb' hb'=>⟨by simp[q3 b' hb'],(h.on b' _ (q3 b' hb')).2⟩)⟩
theorem SR.takeOwns{i b d off:Nat}{u:Value}{cs:List PVal}(hi:bs[i]? =some (some b))(hu:a[d]? =some u):∀(L:List (Nat×TypeId)) {ow:Nat->Option iL} {st:aB} {own:List (Nat×TypeId)},SR P E Γ bs ow w a st->st.boxes[i]? =some (.cells cs own)->
  (∀x∈L,(off+x.1,x.2)∈own)->(L.map (·.1)).Nodup->(∀x∈L,∃v,jU u x.1=some v/\w.cell? ⟨b,off+x.1,none⟩=some v)->
  ∃ow',SR P E Γ bs ow' w a ⟨st.tmps,st.boxes.set i (.cells cs (own.filter λx=>!L.any λy=>x.1==off+y.1)),(L.map λy=>((d,y.1),y.2)).reverse++st.own⟩
 | [],ow,st,own,h,hB,_,_,_ => by
  refine⟨ow,?_⟩
  have e2:(own.filter λx=>!([]:List (Nat×TypeId)).any λy=>x.1==off+y.1)=own:=by
   apply vcn.2
   intro x _
   rfl
  have e1:st.boxes.set i (.cells cs (own.filter λx=>!([]:List (Nat×TypeId)).any λy=>x.1==off+y.1))=st.boxes:=by
   rw[e2]
   apply vbf
   intro j
   by_cases hj:i=j
   ·subst hj
    rw[vae (aq hB),hB]
   ·rw[vai hj]
  rw[e1]
  exact h
 | x :: L,ow,st,own,h,hB,hm,hn,hc => by
  rw[vaz,vbu]at hn
  obtain⟨v,hv1,hv2⟩:=hc x (by simp)
  obtain⟨ow1,h1⟩:=h.takeOwn hi hB (hm x (by simp)) hu hv1 hv2
  obtain⟨ow2,h2⟩:=SR.takeOwns (off:=off) hi hu L h1 (vae (aq hB)) (λy hy=>by
   refine va1.2 ⟨hm y (by simp[hy]),?_⟩
   simp only[bne_iff_ne,ne_eq]
   exact λe=>hn.1 (vag.2 ⟨y,hy,by omega⟩)) hn.2 (λy hy=>hc y (by simp[hy]))
  refine⟨ow2,?_⟩
  simp only[vbR,vc5]at h2
  have e1:((x::L).map λy=>((d,y.1),y.2)).reverse++st.own=(L.map λy=>((d,y.1),y.2)).reverse++((d,x.1),x.2)::st.own:=by simp
  have e2:(own.filter λz=>!(x::L).any λy=>z.1==off+y.1)=own.filter λz=>(!L.any λy=>z.1==off+y.1)&&(z.1 !=off+x.1):=by
   congr 1
   funext z
   rw[List.any_cons]
   cases(L.any λy=>z.1==off+y.1)<;>cases hz:(z.1==off+x.1)<;>simp[bne,hz]
  rw[e1,e2]
  exact h2
theorem DQ(h:SR P E Γ bs ow w a st){T:TypeId}{i off b:Nat}{cs:List PVal}{own:List (Nat×TypeId)}{l:List PVal}(hi:bs[i]? =some (some b))(hB:st.boxes[i]? =some (.cells cs own))(hp:aY P T (cs.drop off)=some (.agg l)):∃v,(loadVar T ⟨b,off,none⟩).run P w=.ok v w/\VR Γ bs w (.agg l) v/\((∃d,P.underlying T=some d/\(match d with|.struct _|.array _ _=>True|_=>False))->∀k,k<l.length->jU v k=w.cell? ⟨b,off+k,none⟩):=by
 obtain⟨c,t',h1,h2,h3,h4⟩:=h.box_cells hi hB
 have hval:∀(k:Nat) q,(cs.drop off)[k]? =some q->w.cell? ⟨b,off+k,none⟩=some (c.getD (off+k) undef)/\VR Γ bs w q (c.getD (off+k) undef):=by
  intro k q hq
  rw[vbg]at hq
  have hlt:off+k<c.size:=vaM (aq hq) h2
  have hc:c[off+k]? =some (c.getD (off+k) undef):=by simp[vaF,hlt]
  exact⟨(h4 _).trans hc,h3 _ _ _ hq hc⟩
 obtain⟨v,hr,hv⟩:=kW hp (vals:=λk=>c.getD (off+k) undef) (λk q hq=>(hval k q hq).1) (λk q hq=>(hval k q hq).2)
 refine⟨v,hr,hv,λhagg k hk=>?_⟩
 obtain⟨dd,hd,hm⟩:=hagg
 have hlen:P.cellsOf T<=(cs.drop off).length/\l.length=P.cellsOf T:=by
  unfold aY at hp
  rw[hd]at hp
  have key:(if P.cellsOf T<=(cs.drop off).length then some (PVal.agg ((cs.drop off).take (P.cellsOf T)))else none)=some (.agg l):=by
   cases dd<;>simp only at hm<;>exact hp
  split at key
  ·rename_i hh;cases key;exact⟨hh,by rw[vaQ];omega⟩
  ·cases key
 have hp2:aY P T ((List.range (cs.drop off).length).map λk=>PVal.val (c.getD (off+k) undef))=some (.agg (((List.range (cs.drop off).length).map λk=>PVal.val (c.getD (off+k) undef)).take (P.cellsOf T))):=by
  unfold aY
  rw[hd]
  cases dd<;>simp at hm<;>simp only<;>rw[vah (by simpa using hlen.1)]
 obtain⟨v2,hr2,hv2⟩:=kW (Γ:=Γ) (bs:=bs) hp2 (vals:=λk=>c.getD (off+k) undef) (λk q hq=>by
   have hlt:k<(cs.drop off).length:=by have:=aq hq;simpa using this
   exact(hval k _ (vab hlt)).1) (λk q hq=>by
   have hlt:k<(cs.drop off).length:=by have:=aq hq;simpa using this
   simp only[vav,vbG hlt,vak,vax]at hq
   subst hq
   exact .val _)
 rw[hr]at hr2
 cases hr2
 have hk2:k<(cs.drop off).length:=by omega
 cases hv2 with
 | agg _ vs hl hvv =>
  have hd1:(cs.drop off).length=cs.length - off:=vbC
  have hkv:k<vs.size:=by rw[hl];simp;omega
  have hq:(((List.range (cs.drop off).length).map λk=>PVal.val (c.getD (off+k) undef)).take (P.cellsOf T))[k]? =some (.val (c.getD (off+k) undef)):=by
   rw[vap (by omega)]
   simp only[vav,vbG hk2,vak]
  have:=hvv k _ vs[k] hq (by simp[hkv])
  show vs[k]? =_
  rw[(hval k _ (vab hk2)).1]
  rw[vaE hkv]
  generalize vs[k]=q at this
  generalize c.getD (off+k) undef=q2 at this
  cases this
  rfl
end
variable{a:Act}{st:aB}
theorem Al(h:SR P E Γ bs ow w a.tmps st){o:Oper}{id d:Nat}{T:TypeId}{parts:Array (Nat×Operand)}{p:PVal}{L:List (Nat×TypeId)}{K:aB->Prop}(ho:o.op=.build T parts)(hdst:o.dst=some d)(hd:d<st.tmps.length)
  (hp:dh P T (parts.toList.map λx=>(x.1,opv E.GE st.tmps x.2))=some p) (hL:FJ P T (parts.toList.map λx=>(x.1,opv E.GE st.tmps x.2)) L)
  (hK:K {st with tmps:=st.tmps.set d p,own:=(L.map λx=>((d,x.1),x.2))++bu d st.own}) (Q:Exit->Act->World->Prop):
  o.wp P a w (fP P E bs id (aE o.op) a.defers K) Q:=by
 have hρ:∀x,VR Γ bs w (opv E.GE st.tmps x) (a.eval x):=λx=>h.opv a.defers x
 obtain⟨k1,k2⟩:=wU hρ parts.toList
 obtain⟨v,r1,r2⟩:=yi k1 k2 hp
 obtain⟨cs,hcs,hn⟩:=hL
 obtain⟨ov,s1,s2,s3⟩:=Rb k1 k2 hcs
 rw[r1]at s1
 cases s1
 have hrun:(execOp a.eval o).run P w=.ok (.value (.agg ov)) w:=by
  have:(parts.map λx=>(x.1,a.eval x.2))=(parts.toList.map λx=>(x.1,a.eval x.2)).toArray:=by apply vbO;simp
  simp only[execOp,ho]
  rw[this]
  simp[r1]
 unfold Oper.wp
 rw[hrun,Oper.upon_value]
 have hds:d<a.tmps.size:=by rw[h.sz];exact hd
 have g1:=h.set (d:=d) r2
 have g2:=g1.ownNils (d:=d) (u:=.agg ov) (by simp[hds]) L λx hx=>by
  have hq:=LH hn x hx
  have hlt:x.1<ov.size:=by rw[s2];exact aq hq
  have hv:=s3 x.1 _ ov[x.1] hq (by simp[hlt])
  show ov[x.1]? =_
  rw[vaE hlt]
  generalize ov[x.1]=q at hv
  cases hv
  rfl
 have hput:∀v,(a.put o.dst v).tmps=a.tmps.setIfInBounds d v:=λv=>by rw[hdst];rfl
 rw[<-hput]at g2
 exact⟨bC _ _ _,Γ,bs,_,_,g2,hK,.inl rfl⟩
theorem SR.ownLe(h:SR P E Γ bs ow w a.tmps st){H0:List aA}(hs:ownLe H0 st.boxes):SR P E Γ bs ow w a.tmps {st with boxes:=H0}:=
 { h with
  bl:=h.bl.trans hs.1.symm
  bx:=λi b B hb hB=>by
   obtain⟨B',hB',hx⟩:=hs.2 i B hB
   obtain⟨k1,k2,k3⟩:=h.bx i b B' hb hB'
   rcases hx with rfl|⟨cs,own,own',rfl,rfl,_⟩
   ·exact⟨k1,k2,k3⟩
   ·exact⟨k1,k2,k3⟩
  ob:=λi j e cs own b hB hj hb=>by
   obtain⟨B',hB',hx⟩:=hs.2 i _ hB
   rcases hx with rfl|⟨cs1,oJ,own2,rfl,e2,hsub⟩
   ·exact h.ob i j e cs own b hB' hj hb
   ·cases e2;exact h.ob i j e _ oJ b hB' (hsub _ hj) hb}
theorem uH(h:SR P E Γ bs ow w a.tmps st){o:Oper}{id d:Nat}{f:Operand}{args:Array Operand}{tys:Array TypeId}{r:PVal}{ro:List (Nat×TypeId)}{H':List aA}{oa:List OA}{K:aB->Prop}(ho:o.op=.call {callee:=.value f,args,argTypes:=tys})(hdst:o.dst=some d)(hd:d<st.tmps.length)
  (hg:El P E.GE f args.toList st r ro H' oa) (hK:K ⟨st.tmps.set d r,H',(ro.map λx=>((d,x.1),x.2))++bu d (st.own.filter λz=>!oa.any λx=>z.1==(x.t,x.k))⟩) (Q:Exit->Act->World->Prop):
  o.wp P a w (fP P E bs id (aE o.op) a.defers K) Q:=by
 obtain⟨g,first,cap,argsC,ρ,H0,Hc,Hc',rc,hfv,hnd,hC,hle,hH,hH',hlen,hsame,hr,hal,ha,ho1,ho3⟩:=hg.ex
 have hρ:∀x,VR Γ bs w (opv E.GE st.tmps x) (a.eval x):=λx=>h.opv a.defers x
 have hf:=hρ f
 rw[hfv]at hf
 generalize hvf:a.eval f=vf at hf
 cases hf with
 |func _ _ _ fs cs hl hl' h1 h2=>
 have hargs:(fs++args.map a.eval++cs).size=(first++args.toList.map (opv E.GE st.tmps)++cap).length:=by simp[hl,hl']
 have hvr:∀(i:Nat) p v,(first++args.toList.map (opv E.GE st.tmps)++cap)[i]? =some p->(fs++args.map a.eval++cs)[i]? =some v->VR Γ bs w p v:=by
  refine Bw (by simp[hl]) (Bw hl h1 λi p v hp hv=>?_) h2
  exact yg hρ args.toList i p v hp (by simpa using hv)
 have hrun:(execOp a.eval o).run P w=.ok (.enter g (fs++args.map a.eval++cs)) w:=by
  simp[execOp,ho,resolve,hvf,Deferred.ofValue,invoke,hC.1]
 have hds:d<a.tmps.size:=by rw[h.sz];exact hd
 have hw:=h.ownLe hle
 unfold Oper.wp
 rw[hrun,Oper.upon_enter]
 refine(V8 hw hds hnd hC (λx hx=>?_) ho3 hH hH' (hlen.trans hle.1.symm) hsame hr hal ha hargs hvr).mono λe w' he=>?_
 ·obtain⟨j,hj,hj2⟩:=ho1 x hx
  have hat:∀{y:Operand},args.toList[j]? =some y->(fs++args.map a.eval++cs)[x.i]? =some (a.eval y):=by
   intro y hy
   have hjl:j<args.size:=by have:=aq hy;simpa using this
   have hja:args[j]? =some y:=by simpa using hy
   rw[hj,<-hl,vaX (by simp;omega),vco (by omega),vbE]
   simp only[vc6,hja,vak]
  rcases hj2 with⟨hj2,hk⟩|⟨ht,hj2⟩
  ·exact .inl ⟨hat hj2,hk⟩
  ·obtain⟨u,v,e1,_⟩:=h.ot _ _ _ ht
   exact .inr ⟨ht,by rw[hat hj2,dA e1];exact e1.symm⟩
 ·obtain⟨v,Γ',ow',rfl,hS,_⟩:=he
  have hput:(a.put o.dst v).tmps=a.tmps.setIfInBounds d v:=by rw[hdst];rfl
  show fP P E bs id (aE o.op) a.defers K (a.put o.dst v) w'
  refine⟨bC _ _ _,Γ',bs,ow',_,?_,hK,.inl rfl⟩
  rw[hput];exact hS
theorem DZ(h:SR P E Γ bs ow w a.tmps st){o:Oper}{id:Nat}{K:aB->Prop}(hp:L4 P E.GE o K st)(Q:Exit->Act->World->Prop):o.wp P a w (fP P E bs id (aE o.op) a.defers K) Q:=by
 unfold L4 at hp
 split at hp
 ·rename_i T parts d ho hd
  obtain⟨p,L,h1,h2,h3,h4⟩:=hp
  exact Al h ho hd h3 h1 h2 h4 Q
 ·rename_i T x t ho hd
  obtain⟨i,off,H,cs,own,L,l,hx,ht,hst,hB,hm,hn,hK⟩:=hp
  have htl:t<st.tmps.length:=by
   by_cases hlt:t<st.tmps.length
   ·exact hlt
   ·rw[vaq,vaK (vb5 hlt)]at ht;cases ht
  have hta:t<a.tmps.size:=by rw[h.sz];exact htl
  have hu:a.tmps[t]? =some a.tmps[t]:=by simp[hta]
  generalize a.tmps[t]=u at hu
  have hvt:=yD h hu
  rw[ht]at hvt
  have hvx:VR Γ bs w (opv E.GE st.tmps x) (a.eval x):=h.opv a.defers x
  rw[hx]at hvx
  obtain⟨w',r1,r2,_,r4⟩:=uT h hvx hvt hst
  have hrun:(execOp a.eval o).run P w=.ok .skip w':=by simp[execOp,ho,dA hu,r1]
  unfold Oper.wp
  rw[hrun,Oper.upon_skip]
  generalize a.eval x=vx at hvx r1
  cases hvx with
  |bptr _ _ b hb=>
  obtain⟨c1,_⟩:=r4 i off b rfl hb
  obtain⟨ow',g⟩:=SR.moveOwns (off:=off) hb hu L r2 hB hm hn λy hy=>by
   obtain⟨u',v,e1,e2,_,_⟩:=h.ot t y.1 y.2 (hm y hy)
   rw[hu]at e1
   cases e1
   refine⟨v,e2,?_⟩
   cases hvt with
   |agg _ vs _ _=>exact c1 y.1 v e2
  have hput:a.put o.dst undef=a:=by rw[hd];rfl
  rw[hput]
  exact⟨rfl,Γ,bs,ow',_,g,hK,.inl rfl⟩
 ·rename_i T x d ho hd
  obtain⟨i,off,cs,own,L,l,⟨fs,hfs⟩,hx,hB,hp,hm,hn,hll,hdl,hK⟩:=hp
  have hvx:VR Γ bs w (opv E.GE st.tmps x) (a.eval x):=h.opv a.defers x
  rw[hx]at hvx
  generalize hve:a.eval x=vx at hvx
  cases hvx with
  |bptr _ _ b hb=>
  obtain⟨v,r1,r2,r3⟩:=DQ h hb hB hp
  have hrun:(execOp a.eval o).run P w=.ok (.value v) w:=by simp[execOp,ho,hve,Instr.loadAt,Instr.sureAddr,r1]
  unfold Oper.wp
  rw[hrun,Oper.upon_value]
  have hds:d<a.tmps.size:=by rw[h.sz];exact hdl
  have g1:=h.set (d:=d) r2
  obtain⟨ow',g2⟩:=SR.takeOwns (off:=off) (d:=d) (u:=v) hb (by simp[hds]) L g1 hB hm hn λy hy=>by
   have:=r3 ⟨_,hfs,vzz⟩ y.1 (hll y hy)
   obtain⟨v',q1,_⟩:=h.ob i (off+y.1) y.2 cs own b hB (hm y hy) hb
   exact⟨v',this.trans q1,q1⟩
  have hput:∀v,(a.put o.dst v).tmps=a.tmps.setIfInBounds d v:=λv=>by rw[hd];rfl
  rw[<-hput]at g2
  exact⟨bC _ _ _,Γ,bs,ow',_,g2,hK,.inl rfl⟩
 ·rename_i T x d ho hd
  obtain⟨vs,hvs,hdl,hK⟩:=hp
  have hvx:VR Γ bs w (opv E.GE st.tmps x) (a.eval x):=h.opv a.defers x
  generalize hve:a.eval x=vx at hvx
  obtain⟨k1,k2⟩:=hvx.cells hvs
  obtain⟨g1,hle⟩:=h.alloc_imm vx.cells T vx.cells.size (var _)
  have hrun:(execOp a.eval o).run P w=.ok (.value (.pointer (some ⟨w.heap.size,0,none⟩))) (w.alloc (.cells vx.cells T)):=by simp[execOp,ho,hve,Instr.box,newVar,newRow]
  unfold Oper.wp
  rw[hrun,Oper.upon_value]
  have hcell:∀j,(w.alloc (.cells vx.cells T)).cell? ⟨w.heap.size,j,none⟩=vx.cells[j]?:=λj=>cell_of_row _ _ _ _ _ _ (eJ w _)
  have hget:∀{k:Nat} {p:PVal},vs[k]? =some p->vx.cells[k]? =some (vx.cells.getD k undef):=λ{k p} hp=>by
   have hlt:k<vx.cells.size:=by rw[k1];exact aq hp
   simp[vaF,hlt]
  have hvr:VR (Γ.put w.heap.size vx.cells.size) bs (w.alloc (.cells vx.cells T)) (.eptr vs) (.pointer (some ⟨w.heap.size,0,none⟩)):=
   .eptr vs w.heap.size 0 vx.cells.size (λk=>vx.cells.getD k undef) (Γ.put_same _ _) (by omega)
    (λk p hp=>by rw[hcell,vaI];exact hget hp) (λk p hp=>(k2 k p _ hp (hget hp)).mono hle (.refl _))
  have g2:=g1.set (d:=d) hvr
  have hput:∀v,(a.put o.dst v).tmps=a.tmps.setIfInBounds d v:=λv=>by rw[hd];rfl
  rw[<-hput]at g2
  exact⟨bC _ _ _,_,bs,_,_,g2,hK,.inl rfl⟩
 ·rename_i f args tys d ho hd
  obtain⟨r,ro,H',oa,h1,h2,h3⟩:=hp
  exact uH h ho hd h2 h1 h3 Q
 ·exact hp.elim
theorem FO(h:SR P E Γ bs ow w a.tmps st){A:List Nat}{o:Oper}{id:Nat}(hid:aE o.op=true->bs[id]? =some none){K:aB->Prop}(hp:AP P E.GE A o id K st)(Q:Exit->Act->World->Prop):o.wp P a w (Dp P E bs id (aE o.op) a.defers K) Q:=by
 rcases hp with hp|hp|hp|hp|hp
 ·exact Oper.wp_mono (λ_ _ hA=>hA.to3) (Rm h hid hp Q)
 ·exact Oper.wp_mono (λ_ _ hA=>hA.to3) (DZ h hp Q)
 ·exact SL h hp Q
 ·exact SK h hp Q
 ·exact UP h hid hp Q
theorem yl{bs0:be}{ds:List Deferred}{A:List Nat}{ops:Array Oper}{K:aB->Prop}{Q:Exit->Act->World->Prop}
  (hQ:∀a w st,a.defers=ds->OM P E bs0 st a w->K st->Q .normal a w):
  ∀(rest:List Oper) (k id:Nat) (Γ:aP) (bs:be) (ow:Nat->Option iL) (a:Act) (w:World) (st:aB),(∀j,rest[j]? =ops[k+j]?)->SR P E Γ bs ow w a.tmps st->a.defers=ds->S8 bs0 bs->bs0.length<=id->
   (∀m,id<=m->m<id+ch rest->bs[m]? =some none)->cU P E.GE A ops K rest id st->wpOps P ops Q ((List.range ops.size).drop k) a w
 | [],k,id,Γ,bs,ow,a,w,st,hr,h,hd,hk,_,_,hp => by
  have hsz:ops.size<=k:=by
   have:=hr 0
   simp only[List.getElem?_nil,Nat.add_zero]at this
   exact vb4.1 this.symm
  rw[List.drop_eq_nil_of_le (by simpa using hsz)]
  exact hQ a w st hd ⟨Γ,bs,ow,h,hk⟩ hp
 | o :: rest,k,id,Γ,bs,ow,a,w,st,hr,h,hd,hk,hid,hfree,hp => by
  have hok:ops[k]? =some o:=by have:=hr 0;simpa using this.symm
  have hlt:k<ops.size:=(vaj.1 hok).1
  have hcons:(List.range ops.size).drop k=k::(List.range ops.size).drop (k+1):=by
   rw[vbx (by simpa using hlt)];simp
  rw[hcons,wpOps_cons]
  unfold wpOp
  rw[hok]
  simp only
  have hcnt:ch (o::rest)=(if aE o.op then 1 else 0)+ch rest:=by
   unfold ch
   simp only[vbU]
   split<;>simp<;>omega
  have hrest:∀j,rest[j]? =ops[k+1+j]?:=λj=>by
   have:=hr (j+1)
   simpa[vb9,vcu 1 j]using this
  have hmk:aE o.op=true->bs[id]? =some none:=λhm=>hfree id (var _) (by rw[hcnt,hm];simp;omega)
  have step:AP P E.GE A o id (cU P E.GE A ops K rest (id+if aE o.op then 1 else 0)) st->o.wp P a w (wpOps P ops Q ((List.range ops.size).drop (k+1))) Q:=by
   intro hs
   refine Oper.wp_mono (λa' w' hA=>?_) (FO h hmk hs Q)
   obtain⟨hd',Γ',bs',ow',st',h1,h2,h3⟩:=hA
   refine yl hQ rest (k+1) _ Γ' bs' ow' a' w' st' hrest h1 (hd'.trans hd) ?_ (by omega) ?_ h2
   ·rcases h3 with rfl|⟨hm,b,rfl⟩|⟨x,rfl⟩
    ·exact hk
    ·intro i hi
     rw[vai (by omega)]
     exact hk i hi
    ·intro i hi
     have hki:=hk i hi
     have hlt:i<bs.length:=by
      have h1:bs0[i]? =some bs0[i]:=vab hi
      rw[h1]at hki
      exact aq hki
     rw[vac hlt]
     exact hki
   ·intro m hm1 hm2
    have hb:=hfree m (by omega) (by rw[hcnt];omega)
    rcases h3 with rfl|⟨hm,b,rfl⟩|⟨x,rfl⟩
    ·exact hb
    ·rw[hm]at hm1
     simp only[if_true]at hm1
     rw[vai (by omega)]
     exact hb
    ·rw[vac (aq hb)]
     exact hb
  have skip:cU P E.GE A ops K rest (id+if aE o.op then 1 else 0) (vY st o.dst (.val undef) [] st.boxes)->wpOps P ops Q ((List.range ops.size).drop (k+1)) (a.put o.dst undef) w:=by
   intro hs
   refine yl hQ rest (k+1) _ Γ bs ow (a.put o.dst undef) w _ hrest (h.putv_nil (.val undef) o.dst rfl) ((bC _ _ _).trans hd) hk (by omega) (λm hm1 hm2=>hfree m (by omega) (by rw[hcnt];omega)) hs
  simp only[cU]at hp
  have hgo:(Region.wanted o (yielded ops a.tmps)=true->o.wp P a w (wpOps P ops Q ((List.range ops.size).drop (k+1))) Q)/\(¬Region.wanted o (yielded ops a.tmps)=true->wpOps P ops Q ((List.range ops.size).drop (k+1)) (a.put o.dst undef) w):=by
   split at hp
   ·rename_i hg
    exact⟨λ_=>step hp,λhn=>absurd (by simp[Region.wanted,hg]) hn⟩
   ·rename_i j want hg
    split at hp
    ·rename_i x hx
     have hw:Region.wanted o (yielded ops a.tmps)=(x==some want):=by simp[Region.wanted,hg,Ix h hx]
     rw[hw]
     exact⟨λhx=>step (hp.1 (by simpa using hx)),λhx=>skip (hp.2 (by simpa using hx))⟩
    ·exact hp.elim
  by_cases hw:Region.wanted o (yielded ops a.tmps)=true
  ·rw[vah hw];exact .inl (hgo.1 hw)
  ·rw[van hw];exact hgo.2 hw
theorem Db{bs0:be}{A:List Nat}{ops:Array Oper}{K:aB->Prop}{Q:Exit->Act->World->Prop}(hR:OM P E bs0 st a w)(hl:bs0.length<=st.boxes.length)
  (hQ:∀a' w' st',a'.defers=a.defers->OM P E bs0 st' a' w'->K st'->Q .normal a' w') (hp:cU P E.GE A ops K ops.toList st.boxes.length {st with boxes:=st.boxes++fc P ops.toList}):
  wpOps P ops Q (List.range ops.size) a w:=by
 obtain⟨Γ,bs,ow,h,hk⟩:=hR
 have hext:=h.extend (fc P ops.toList)
 have hlen:=y1 P ops.toList
 have:=yl (P:=P) (E:=E) (bs0:=bs0) (ds:=a.defers) hQ ops.toList 0 st.boxes.length Γ _ ow a w _ (λj=>by simp) hext rfl (λi hi=>?_) hl (λm hm1 hm2=>?_) hp
 ·simpa using this
 ·rw[vac (by rw[h.bl];omega)];exact hk i hi
 ·rw[vaf (by rw[h.bl];omega),vaW,vah (by rw[h.bl];omega)]
end
def He(ro:Option Nat)(P:Program)(c:Code)(Q:Exit->Act->World->Prop)(a:Act)(w:World):Prop:=match ro with
 |none=>c.wp P Q a w
 |some l=>∀n,c.wpIn (Fence.wide.inRound l) n P Q a w
def ee(o:Oper):Bool:=match o.op with
 |.defer _=>false
 |_=>true
section
variable{P:Program}{ro:Option Nat}{Q:Exit->Act->World->Prop}{a:Act}{w:World}
theorem ek{c:Code}{Q':Exit->Act->World->Prop}(h:He ro P c Q a w)(hq:∀e a w,Q e a w->Q' e a w):He ro P c Q' a w:=by
 cases ro with
 |none=>exact wp_mono h hq
 |some l=>exact λn=>wpIn_mono (h n) hq
theorem QE(h:Q .normal a w):He ro P .skip Q a w:=by
 cases ro with
 |none=>exact wp_skip h
 |some l=>exact λn=>wpIn_skip h
theorem Um{l:Nat}(h:Q .normal a w):He ro P (.label l) Q a w:=by
 cases ro with
 |none=>exact wp_label h
 |some l=>exact λn=>wpIn_label h
theorem QD{id:Nat}(h:Q (.exit id) a w):He ro P (.exit id) Q a w:=by
 cases ro with
 |none=>exact wp_exit h
 |some l=>exact λn=>wpIn_exit h
theorem Yi(h:Q .ret a w):He ro P .ret Q a w:=by
 cases ro with
 |none=>exact wp_ret h
 |some l=>exact λn=>wpIn_ret h
theorem BC{x y:Code}(h:He ro P x (Exit.then (He ro P y Q) Q) a w):He ro P (.seq x y) Q a w:=by
 cases ro with
 |none=>exact wp_seq h
 |some l=>exact λn=>wpIn_seq (wpIn_mono (h n) λe a w hq=>by cases e<;>first|exact hq n|exact hq)
theorem K4{c:Operand}{x y:Code}{t:Bool}(hc:a.eval c=.bool t)(h1:t=true->He ro P x Q a w)(h2:t=false->He ro P y Q a w):He ro P (.cond c x y) Q a w:=by
 cases t with
 |true=>cases ro with
  |none=>exact wp_cond hc (h1 rfl)
  |some l=>exact λn=>wpIn_cond hc (h1 rfl n)
 |false=>cases ro with
  |none=>exact wp_cond hc (h2 rfl)
  |some l=>exact λn=>wpIn_cond hc (h2 rfl n)
theorem Hf{id:Nat}{c:Code}(h:He ro P c (Exit.inBlock id Q) a w):He ro P (.block id c) Q a w:=by
 cases ro with
 |none=>exact wp_block h
 |some l=>exact λn=>wpIn_block (h n)
theorem sJ{c:Code}(I:Nat->Act->World->Prop)(n₀:Nat)(h₀:I n₀ a w)(round:∀n a w,I n a w->He ro P c (Exit.then (λa' w'=>∃n',n'<n/\I n' a' w') Q) a w):He ro P (.loop c) Q a w:=by
 cases ro with
 |none=>exact wp_loop_ghost I n₀ h₀ round
 |some l=>exact λn=>wpIn_loop_ghost I n₀ h₀ λk a w hI=>round k a w hI n
theorem YX{l n:Nat}{row:String}{args:Array Value}{R:Value->World->Prop}(h:Rows P row args w R):RowsIn (Fence.wide.inRound l) n P row args w R:=λc cs _=>by
 obtain⟨v,w',r,s⟩:=h c cs
 exact⟨v,w',r,by rw[fenced_inRound];exact stepsIn_wide.2 s⟩
theorem Wa{l n:Nat}{f:FuncId}{args:Array Value}{R:Ending->World->Prop}(h:Calls P f args w R):CallsIn (Fence.wide.inRound l) n P f args w R:=CallsIn.inRound l (callsIn_wide.2 h)
theorem TP{l n:Nat}{o:Oper}{next:Act->World->Prop}(hd:ee o=true)(h:o.wp P a w next Q):o.wpIn (Fence.wide.inRound l) n P a w next Q:=by
 refine⟨λ_ _=>trivial,?_⟩
 have hs:o.semAt (Fence.wide.inRound l).round a.eval=execOp a.eval o:=Oper.semAt_eq _ _ _ λc hc=>by unfold ee at hd;rw[hc]at hd;cases hd
 rw[hs]
 unfold Oper.wp at h
 generalize (execOp a.eval o).run P w=r at *
 have hdep:(Fence.wide.inRound l).depth.isSome=true->1<=n:=λh=>by simp[Fence.wide]at h
 cases r with
 | ok x w' =>
  cases x<;>simp only[Oper.upon]at h<;>simp only[Oper.uponIn]<;>first
   |exact h.elim
   |exact h
   |exact⟨hdep,Wa h⟩
   |exact⟨hdep,YX h⟩
 |halt x w'=>cases x<;>simp only[Oper.upon]at h<;>simp only[Oper.uponIn]<;>exact h
theorem FB{l n:Nat}{ops:Array Oper}(hd:ops.toList.all ee=true)(hQ:¬LetsOut Q):∀(L:List Nat) (a:Act) (w:World),wpOps P ops Q L a w->wpOpsIn (Fence.wide.inRound l) n P ops Q L a w
 |[],a,w,h=>h
 | i :: rest,a,w,h => by
  unfold wpOps at h
  unfold wpOpsIn
  split at h
  ·rename_i ho;simp only[ho];exact FB hd hQ rest a w h
  ·rename_i o ho
   simp only[ho]
   have hn:ee o=true:=vas.1 hd o (by
    have:=vcQ ho
    simpa using this)
   split at h
   ·rename_i hw
    rw[vah hw]
    rcases h with h|h
    ·exact Oper.wpIn_mono (λa w h=>FB hd hQ rest a w h) (TP hn h)
    ·exact absurd h.2 hQ
   ·rename_i hw
    rw[van hw]
    exact⟨λ_ _=>trivial,FB hd hQ rest _ w h⟩
theorem YC{l n:Nat}{ops:Array Oper}(hd:ops.toList.all ee=true)(hQ:¬LetsOut Q){i:Nat}{K:Act->World->Prop}(h:wpOp P ops Q i K a w):wpOpIn (Fence.wide.inRound l) n P ops Q i K a w:=by
 unfold wpOp at h
 unfold wpOpIn
 split at h
 ·rename_i ho;simp only[ho];exact h
 ·rename_i o ho
  simp only[ho]
  have hn:ee o=true:=vas.1 hd o (by
   have:=vcQ ho
   simpa using this)
  split at h
  ·rename_i hw
   rw[vah hw]
   rcases h with h|h
   ·exact TP hn h
   ·exact absurd h.2 hQ
  ·rename_i hw
   rw[van hw]
   exact⟨λ_ _=>trivial,h⟩
theorem Qo{l n:Nat}{md:Region.Mode}{ops:Array Oper}(hd:ops.toList.all ee=true)(hQ:¬LetsOut Q):∀(fuel:Nat) (listed:Array Bool) (a:Act) (w:World),wpAny P md ops Q fuel listed a w->wpAnyIn (Fence.wide.inRound l) n P md ops Q fuel listed a w
 |0,_,_,_,h=>h
 |fuel+1,_,_,_,h=>⟨h.1,λi hi=>wpOpIn_mono (λa w h=>Qo hd hQ fuel _ a w h) (YC hd hQ (h.2 i hi))⟩
theorem sK{id:Nat}{ops:Array Oper}(hd:ops.toList.all ee=true)(hQ:¬LetsOut Q)(h:wpOps P ops Q (List.range ops.size) a w):He ro P (.region id ops false) Q a w:=by
 cases ro with
 |none=>exact wp_region h
 |some l=>exact λn=>wpIn_region (FB hd hQ _ _ _ h)
theorem Ao{id:Nat}{ops:Array Oper}(hf:P.follows .mixedOrders=true)(hd:ops.toList.all ee=true)(hQ:¬LetsOut Q)
  (h:wpAny P .any ops Q ops.size (Array.replicate ops.size false) a {w with drawn:=w.drawn+1}):He ro P (.region id ops true) Q a w:=by
 cases ro with
 |none=>exact wp_region_any hf h
 |some l=>exact λn=>wpIn_region_any hf (Qo hd hQ _ _ _ _ h)
end
section plain
variable{σ X:Type}
def qJ(body:σ->Option (σ⊕X)):Nat->σ->Option X
 |0,_=>none
 |n+1,s=>match body s with
  |none=>none
  |some (.inl s')=>qJ body n s'
  |some (.inr x)=>some x
theorem Lz{body:σ->Option (σ⊕X)}:∀{n:Nat} {s:σ} {x:X},qJ body n s=some x->∀k,qJ body (n+k) s=some x
 |0,_,_,h,_=>by cases h
 | n + 1,s,x,h,k => by
  rw[Nat.add_right_comm]
  unfold qJ at h ⊢
  split at h
  ·cases h
  ·exact Lz h k
  ·exact h
theorem NT{body:σ->Option (σ⊕X)}{n m:Nat}{s:σ}{x y:X}(h1:qJ body n s=some x)(h2:qJ body m s=some y):x=y:=by
 have h3:=Lz h1 m
 have h4:=Lz h2 n
 rw[vcu]at h4
 exact vbb (h3.symm.trans h4)
open Classical in
def WB(body:σ->Option (σ⊕X))(s:σ):Option X:=if h:∃x n,qJ body n s=some x then some h.choose else none
def X9:Nat:=2 ^ 200
def loop(body:σ->Option (σ⊕X))(s:σ):Option X:=match qJ body X9 s with
 |some x=>some x
 |none=>WB body s
theorem BH{body:σ->Option (σ⊕X)}{s:σ}{x:X}:loop body s=some x↔∃n,qJ body n s=some x:=by
 have hC:WB body s=some x↔∃n,qJ body n s=some x:=by
  unfold WB
  constructor
  ·intro h
   split at h
   ·rename_i he;cases h;exact he.choose_spec
   ·cases h
  ·rintro⟨n,h⟩
   have he:∃x n,qJ body n s=some x:=⟨x,n,h⟩
   rw[dif_pos he]
   obtain⟨m,hm⟩:=he.choose_spec
   rw[NT hm h]
 unfold loop
 split
 ·rename_i y hy
  exact⟨λh=>⟨X9,hy.trans h⟩,λ⟨n,h⟩=>vbd some (NT hy h)⟩
 ·exact hC
theorem gP(body:σ->Option (σ⊕X))(s:σ):loop body s=match body s with
  |none=>none
  |some (.inl s')=>loop body s'
  |some (.inr x)=>some x:=by
 have key:∀y,loop body s=some y↔(match body s with
  |none=>none
  |some (.inl s')=>loop body s'
  |some (.inr x)=>some x)=some y:=by
  intro y
  rw[BH]
  constructor
  ·rintro⟨n,h⟩
   cases n with
   |zero=>cases h
   | succ n =>
    unfold qJ at h
    cases hb:body s with
    |none=>rw[hb]at h;cases h
    |some v=>
     cases v with
     |inl s'=>rw[hb]at h;exact BH.2 ⟨n,h⟩
     |inr x=>rw[hb]at h;exact h
  ·intro h
   cases hb:body s with
   |none=>rw[hb]at h;cases h
   | some v =>
    cases v with
    |inl s'=>
     rw[hb]at h
     obtain⟨n,hn⟩:=BH.1 h
     exact⟨n+1,by unfold qJ;rw[hb];exact hn⟩
    |inr x=>rw[hb]at h;exact⟨1,by unfold qJ;rw[hb];exact h⟩
 cases h1:loop body s with
 | none =>
  cases h2:(match body s with
   |none=>none
   |some (.inl s')=>loop body s'
   |some (.inr x)=>some x)with
  |none=>rfl
  |some y=>rw[(key y).2 h2]at h1;cases h1
 |some y=>exact((key y).1 h1).symm
def ey{α:Type}(l:List α)(i:Int):Option α:=if 0<=i then l[i.toNat]? else none
theorem JK{α β:Type}{o:Option α}{k:α->Option β}{x:β}(h:o.bind k=some x):∃a,o=some a/\k a=some x:=by
 cases o with
 |none=>cases h
 |some a=>exact⟨a,rfl,h⟩
theorem qaX{β:Type}{b:Bool}{x y:Option β}{z:β}(h:(if b=true then x else y)=some z):(b=true/\x=some z)\/(b=false/\y=some z):=by
 cases b
 ·exact .inr ⟨rfl,h⟩
 ·exact .inl ⟨rfl,h⟩
end plain
structure nj(GE:List (Nat×List PVal))(m:Nat)(E:lh):Prop where
 ge:E.GE=GE
 low:∀b n,E.Γ b=some n->b<E.w.heap.size
 nt:m=0->∀b,¬E.T b
 gl:∀g cs,(g,cs)∈GE->VR E.Γ [] E.w (.eptr cs) (.pointer (some ⟨g,0,none⟩))
def d8(P:Program)(GE:List (Nat×List PVal))(m:Nat)(c:Code)(Q:Exit->aB->Prop)(st:aB):Prop:=
 ∀(ro:Option Nat) (E:lh) (bs0:be) (a:Act) (w:World),nj GE m E->bs0.length=m % 1000->OM P E bs0 st a w->He ro P c (Nw P E bs0 a.defers Q) a w
def EX(e:Exit)(st:aB):Exit->aB->Prop:=λe' st'=>e'=e/\st'=st
def sG(P:Program)(m:Nat)(st st':aB):Prop:=∀(E:lh) (bs0:be) (a:Act) (w:World),bs0.length=m % 1000->OM P E bs0 st a w->OM P E bs0 st' a w
section
variable{P:Program}{GE:List (Nat×List PVal)}{m:Nat}
theorem sG.refl(st:aB):sG P m st st:=λ_ _ _ _ _ h=>h
theorem sG.trans{a b c:aB}(h:sG P m a b)(h':sG P m b c):sG P m a c:=λE bs0 x w hb h0=>h' E bs0 x w hb (h E bs0 x w hb h0)
theorem sG.of_less{st st':aB}(h:qa7 st st')(hm:m % 1000<=st'.boxes.length):sG P m st st':=λ_ _ _ _ hb hR=>hR.less h (by rw[hb];exact hm)
theorem d8.mono{c:Code}{Q Q':Exit->aB->Prop}{st:aB}(h:d8 P GE m c Q st)(hq:∀e st,Q e st->∃st',sG P m st st'/\Q' e st'):d8 P GE m c Q' st:=
 λro E bs0 a w hE hb hR=>ek (h ro E bs0 a w hE hb hR) λe a' w' hP=>by
  obtain⟨hd,st1,hR1,hQ⟩:=hP
  obtain⟨st2,hw,hQ2⟩:=hq e st1 hQ
  exact⟨hd,st2,hw E bs0 a' w' hb hR1,hQ2⟩
theorem d8.imp{c:Code}{Q Q':Exit->aB->Prop}{st:aB}(h:d8 P GE m c Q st)(hq:∀e st,Q e st->Q' e st):d8 P GE m c Q' st:=h.mono λe st hQ=>⟨st,.refl st,hq e st hQ⟩
theorem d8.weak{c:Code}{Q:Exit->aB->Prop}{st st':aB}(hw:sG P m st st')(h:d8 P GE m c Q st'):d8 P GE m c Q st:=
 λro E bs0 a w hE hb hR=>h ro E bs0 a w hE hb (hw E bs0 a w hb hR)
theorem d8.skip{Q:Exit->aB->Prop}{st:aB}(h:Q .normal st):d8 P GE m .skip Q st:=λ_ _ _ _ _ _ _ hR=>QE ⟨rfl,st,hR,h⟩
theorem d8.label{l:Nat}{Q:Exit->aB->Prop}{st:aB}(h:Q .normal st):d8 P GE m (.label l) Q st:=λ_ _ _ _ _ _ _ hR=>Um ⟨rfl,st,hR,h⟩
theorem d8.exit{id:Nat}{Q:Exit->aB->Prop}{st:aB}(h:Q (.exit id) st):d8 P GE m (.exit id) Q st:=λ_ _ _ _ _ _ _ hR=>QD ⟨rfl,st,hR,h⟩
theorem d8.ret{Q:Exit->aB->Prop}{st:aB}(h:Q .ret st):d8 P GE m .ret Q st:=λ_ _ _ _ _ _ _ hR=>Yi ⟨rfl,st,hR,h⟩
theorem d8.seq{x y:Code}{Q:Exit->aB->Prop}{st:aB}(h:d8 P GE m x (λe st'=>match e with|.normal=>d8 P GE m y Q st'|e=>Q e st') st):d8 P GE m (.seq x y) Q st:=by
 intro ro E bs0 a w hE hb hR
 refine BC (ek (h ro E bs0 a w hE hb hR) λe a' w' hq=>?_)
 obtain⟨hd,st',hR',hq⟩:=hq
 cases e with
 |normal=>
  have:=hq ro E bs0 a' w' hE hb hR'
  rw[hd]at this
  exact this
 |exit id=>exact⟨hd,st',hR',hq⟩
 |goto l=>exact⟨hd,st',hR',hq⟩
 |ret=>exact⟨hd,st',hR',hq⟩
 |panic c=>exact⟨hd,st',hR',hq⟩
 |outgrown=>exact⟨hd,st',hR',hq⟩
theorem d8.cond{c:Operand}{x y:Code}{Q:Exit->aB->Prop}{st:aB}{t:Bool}(hv:opv GE st.tmps c=.bool t)(h1:t=true->d8 P GE m x Q st)(h2:t=false->d8 P GE m y Q st):d8 P GE m (.cond c x y) Q st:=by
 intro ro E bs0 a w hE hb hR
 obtain⟨Γ,bs,ow,h,hk⟩:=hR
 have hv':=h.opv a.defers c
 rw[hE.ge,hv]at hv'
 generalize hc:(Act.mk a.tmps a.defers).eval c=vc at hv'
 cases hv'
 exact K4 (t:=t) hc (λht=>h1 ht ro E bs0 a w hE hb ⟨Γ,bs,ow,h,hk⟩) (λht=>h2 ht ro E bs0 a w hE hb ⟨Γ,bs,ow,h,hk⟩)
theorem d8.block{id:Nat}{c:Code}{Q:Exit->aB->Prop}{st:aB}(h:d8 P GE m c (O8 id Q) st):d8 P GE m (.block id c) Q st:=by
 intro ro E bs0 a w hE hb hR
 refine Hf (ek (h ro E bs0 a w hE hb hR) λe a' w' hq=>?_)
 obtain⟨hd,st',hR',hq⟩:=hq
 cases e with
 | exit id' =>
  simp only[O8]at hq
  simp only[Exit.inBlock]
  split at hq
  ·rename_i hid;rw[vah hid];exact⟨hd,st',hR',hq⟩
  ·rename_i hid;rw[van hid];exact⟨hd,st',hR',hq⟩
 |normal=>exact⟨hd,st',hR',hq⟩
 |goto l=>exact⟨hd,st',hR',hq⟩
 |ret=>exact⟨hd,st',hR',hq⟩
 |panic c=>exact⟨hd,st',hR',hq⟩
 |outgrown=>exact⟨hd,st',hR',hq⟩
theorem d8.text{A:List Nat}{id:Nat}{ops:Array Oper}{Q:Exit->aB->Prop}{st:aB}(hd:ops.toList.all ee=true)
  (h:cU P GE A ops (Q .normal) ops.toList st.boxes.length {st with boxes:=st.boxes++fc P ops.toList}):d8 P GE m (.region id ops false) Q st:=by
 intro ro E bs0 a w hE hb hR
 obtain⟨rfl,_,_,_⟩:=hE
 refine ek (sK (Q:=λe a' w'=>e=.normal/\Nw P E bs0 a.defers Q .normal a' w') hd (by rintro⟨_,_,h,_⟩;cases h) ?_) λe a' w' hq=>by obtain⟨rfl,hq⟩:=hq;exact hq
 exact Db hR hR.len (λa' w' st' hd hR' hK=>⟨rfl,hd,st',hR',hK⟩) h
def LQ{σ X:Type}(S:σ->aB)(ex:X->Exit)(so:X->aB):σ⊕X->Exit->aB->Prop
 |.inl s,e,st=>e=.normal/\st=S s
 |.inr x,e,st=>e≠.normal/\e=ex x/\st=so x
theorem d8.loop{σ X:Type}{S:σ->aB}{ex:X->Exit}{so:X->aB}{body:σ->Option (σ⊕X)}{c:Code}{s:σ}{x:X}(h:loop body s=some x)
  (hb:∀s y,body s=some y->d8 P GE m c (LQ S ex so y) (S s)):d8 P GE m (.loop c) (EX (ex x) (so x)) (S s):=by
 obtain⟨n,hn⟩:=BH.1 h
 intro ro E bs0 a w hE hb0 hR
 refine sJ (λk a' w'=>a'.defers=a.defers/\∃s',OM P E bs0 (S s') a' w'/\qJ body k s'=some x) n ⟨rfl,s,hR,hn⟩ ?_
 intro k a1 w1 hI
 obtain⟨hd1,s1,hR1,hl⟩:=hI
 cases k with
 |zero=>cases hl
 | succ k =>
  unfold qJ at hl
  split at hl
  ·cases hl
  ·rename_i s2 hs2
   refine ek (hb s1 _ hs2 ro E bs0 a1 w1 hE hb0 hR1) λe a' w' hq=>?_
   obtain⟨hd,st',hR',rfl,rfl⟩:=hq
   exact⟨k,vb6 k,hd.trans hd1,s2,hR',hl⟩
  ·rename_i x2 hs2
   cases hl
   refine ek (hb s1 _ hs2 ro E bs0 a1 w1 hE hb0 hR1) λe a' w' hq=>?_
   obtain⟨hd,st',hR',hne,rfl,rfl⟩:=hq
   have hd':=hd.trans hd1
   cases hex:ex x with
   |normal=>exact absurd hex hne
   |exit id=>exact⟨hd',_,hR',rfl,rfl⟩
   |goto l=>exact⟨hd',_,hR',rfl,rfl⟩
   |ret=>exact⟨hd',_,hR',rfl,rfl⟩
   |panic c=>exact⟨hd',_,hR',rfl,rfl⟩
   |outgrown=>exact⟨hd',_,hR',rfl,rfl⟩
def Mr:List PVal->List PVal->List PVal
 |[],_=>[]
 |_::ps,[]=>.undef::Mr ps []
 |_::ps,.undef::qs=>.undef::Mr ps qs
 |p::ps,_::qs=>p::Mr ps qs
def tS:aA->aA->aA
 |_,.dead=>.dead
 |.cells cs own,.cells _ own'=>.cells cs (match own'.all λx=>decide (x∈own)with
  |true=>own'
  |false=>own)
 |p,_=>p
def Qc:List aA->List aA->List aA
 |[],_=>[]
 |p::ps,[]=>p::Qc ps []
 |p::ps,q::qs=>tS p q::Qc ps qs
def qeg(B B':aA):Prop:=B=.dead\/B=B'\/∃cs own own',B'=.cells cs own/\B=.cells cs own'/\∀x∈own',x∈own
theorem Tt(p q:aA):qeg (tS p q) p:=by
 unfold tS
 split
 ·exact .inl rfl
 ·split
  ·rename_i h
   exact .inr (.inr ⟨_,_,_,rfl,rfl,λx hx=>by simpa using vas.1 h x hx⟩)
  ·exact .inr (.inl rfl)
 ·exact .inr (.inl rfl)
theorem QG(p:PVal)(ps qs:List PVal):∃q r,Mr (p::ps) qs=q::Mr ps r/\(q=.undef\/q=p):=by
 cases qs with
 |nil=>exact⟨_,[],by simp[Mr],.inl rfl⟩
 |cons q qs=>cases q<;>first|(refine⟨p,qs,?_,.inr rfl⟩;simp only[Mr];done)|(refine⟨.undef,qs,?_,.inl rfl⟩;simp only[Mr];done)
theorem Pq:∀{l bs:List PVal} {i:Nat} {p:PVal},(Mr l bs)[i]? =some p->p=.undef\/l[i]? =some p
 |[],bs,i,p,h=>by simp[Mr]at h
 |q::l,bs,i,p,h=>by
  obtain⟨q',r,h1,h2⟩:=QG q l bs
  rw[h1]at h
  cases i with
  |zero=>simp at h;subst h;rcases h2 with h2|h2<;>simp[h2]
  |succ i=>simpa using Pq (by simpa using h)
theorem Pr:∀{l bs:List PVal},(Mr l bs).length=l.length
 |[],bs=>by simp[Mr]
 |q::l,bs=>by obtain⟨q',r,h1,h2⟩:=QG q l bs;rw[h1];simp[Pr]
theorem JP:∀{l bs:List aA} {i:Nat} {B:aA},(Qc l bs)[i]? =some B->∃B',l[i]? =some B'/\qeg B B'
 |[],bs,i,p,h=>by simp[Qc]at h
 |q::l,[],i,B,h=>by
  simp only[Qc]at h
  cases i with
  |zero=>simp at h;subst h;exact⟨q,rfl,.inr (.inl rfl)⟩
  |succ i=>simpa using JP (by simpa using h)
 |q::l,r::bs,i,B,h=>by
  simp only[Qc]at h
  cases i with
  |zero=>simp at h;subst h;exact⟨q,rfl,Tt q r⟩
  |succ i=>simpa using JP (by simpa using h)
theorem Pp:∀{l bs:List aA},(Qc l bs).length=l.length
 |[],bs=>by simp[Qc]
 |q::l,[]=>by simp only[Qc,vau,Pp]
 |q::l,r::bs=>by simp only[Qc,vau,Pp]
theorem sG.forget{st:aB}(bt:List PVal)(bb:List aA)(own:List ((Nat×Nat)×TypeId))(ho:∀x∈own,x∈st.own):sG P m st ⟨Mr st.tmps bt,Qc st.boxes bb,own⟩:=by
 intro E bs0 a w hb hR
 obtain⟨Γ,bs,ow,h,hk⟩:=hR
 refine⟨Γ,bs,ow,?_,hk⟩
 exact{h with
  sz:=by rw[h.sz];exact Pr.symm
  tm:=λt p v hp hv=>by
   rcases Pq hp with rfl|hp'
   ·exact .undef v
   ·exact h.tm t p v hp' hv
  bl:=by rw[h.bl];exact Pp.symm
  bx:=λi b B hib hB=>by
   obtain⟨B',hB',hx⟩:=JP hB
   obtain⟨k1,k2,k3⟩:=h.bx i b B' hib hB'
   rcases hx with rfl|rfl|⟨cs,own,own',rfl,rfl,_⟩
   ·exact⟨k1,k2,vzz⟩
   ·exact⟨k1,k2,k3⟩
   ·exact⟨k1,k2,k3⟩
  ot:=λt k e he=>h.ot t k e (ho _ he)
  ob:=λi j e cs own' b hB hj hib=>by
   obtain⟨B',hB',hx⟩:=JP hB
   rcases hx with hx|rfl|⟨cs1,oJ,own2,rfl,e2,hs⟩
   ·cases hx
   ·exact h.ob i j e cs own' b hB' hj hib
   ·cases e2;exact h.ob i j e _ oJ b hB' (hs _ hj) hib}
theorem EX.of{c:Code}{e:Exit}{st st0:aB}{Q:Exit->aB->Prop}(h:d8 P GE m c (EX e st0) st)(hq:Q e st0):d8 P GE m c Q st:=
 h.imp λe' st' hx=>by obtain⟨rfl,rfl⟩:=hx;exact hq
end
end Go.Proofs.YtkdahfeiedaahaaGreatDoor
