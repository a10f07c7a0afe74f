/- PROVED: a part of the proof. Conditions: none. -/
import Derived.Test.YtkdahfeiedaahaaGreatDoorPkD2
import Derived.Test.YtkdahfeiedaahaaGreatDoorPkD3
import Derived.WalkKit
import Derived.RangeFuncNested
import Derived.RangeFuncCalls
import Derived.Sort.LoopGhostIn
import Derived.OrdersIn
noncomputable section
namespace Go.Proofs.YtkdahfeiedaahaaGreatDoor
open Go
structure OA where
 i:Nat
 t:Nat
 k:Nat
 e:TypeId
def fJ(ρ:List Nat)(oa:List OA)(Γ:aU)(ow:Nat->Option lX):Nat->Option lX:=fun b=>
 match ow b with
 |some (.box j k)=>if(Γ b).isSome/\j∈ρ then some (.box (ρ.idxOf j) k)else none
 |some (.tmp t k)=>match oa.find? fun y=>y.t==t&&y.k==k with
  |some x=>if(Γ b).isSome then some (.tmp x.i k)else none
  |none=>none
 |_=>none
def vQ(ρ:List Nat)(oa:List OA)(d:Nat)(owC ow:Nat->Option lX):Nat->Option lX:=fun b=>
 match owC b with
 |some (.box i k)=>some (.box (ρ.getD i 0) k)
 |some (.tmp _ k)=>some (.tmp d k)
 |none=>match ow b with
  |some (.box j k)=>if j∈ρ then none else some (.box j k)
  |some (.tmp t k)=>if(oa.any fun x=>x.t==t&&x.k==k)=true then none else some (.tmp t k)
  |none=>none
section
variable{P:Program}{E:rD}{Γ:aU}{bs:bD}{ow:Nat->Option lX}{w:World}{a:Array Value}{st:aB}{ρ:List Nat}
theorem Uz(h:SR P E Γ bs ow w a st){g:FuncId}{args argsC:List PVal}{r rc:PVal}{ro:List (Nat×TypeId)}{Hc Hc' H':List aC}{vs:Array Value}{d:Nat}{oa:List OA}(hd:d<a.size)
  (hn:ρ.Nodup) (hC:C P E.GE g argsC (oa.map fun x=>((x.i,x.k),x.e)) Hc rc ro Hc') (ho1:∀x∈oa,(vs[x.i]? =some (.slice none 0 0)/\x.k=0)\/(((x.t,x.k),x.e)∈st.own/\vs[x.i]? =a[x.t]?)) (ho3:∀x∈oa,∀y∈oa,x.t=y.t->x.k=y.k->x.i=y.i) (hH:BH ρ st.boxes Hc) (hH':BH ρ H' Hc') (hlen:H'.length=st.boxes.length) (hsame:∀j:Nat,j∉ρ->H'[j]? =st.boxes[j]?)
  (hr:B6 ρ r rc) (hal:args.length=argsC.length) (ha:∀(i:Nat) p q,args[i]? =some p->argsC[i]? =some q->B6 ρ p q)
  (hl:vs.size=args.length) (hv:∀(i:Nat) p v,args[i]? =some p->vs[i]? =some v->VR Γ bs w p v):
  Calls P g vs w fun e w'=>∃v Γ' ow',e=.returned v/\SR P E Γ' bs ow' w' (a.setIfInBounds d v) {st with tmps:=st.tmps.set d r,boxes:=H',own:=(ro.map fun x=>((d,x.1),x.2))++bT d (st.own.filter fun z=>!oa.any fun x=>z.1==(x.t,x.k))}/\Γ.Le w Γ' w':=by
 let bsC:bD:=ρ.map fun j=>(bs[j]?).getD none
 have hjlt:∀{i j:Nat},ρ[i]? =some j->j<st.boxes.length:=fun{i j} hij=>by
  obtain⟨B,_,hB,_⟩:=hH.box i j hij;exact aq hB
 have hbb:∀(i j:Nat),ρ[i]? =some j->bsC[i]? =bs[j]?:=by
  intro i j hij
  have hj:j<bs.length:=by rw[h.bl];exact hjlt hij
  simp[bsC,hij,vaa hj]
 have hbc:∀{i b:Nat},bsC[i]? =some (some b)->∃j,ρ[i]? =some j/\bs[j]? =some (some b):=by
  intro i b hib
  have hi:i<ρ.length:=by have:=aq hib;simpa[bsC]using this
  have hij:ρ[i]? =some ρ[i]:=vaa hi
  exact⟨_,hij,(hbb i _ hij).symm.trans hib⟩
 have hcow:∀{b L},fJ ρ oa Γ ow b=some L->(Γ b).isSome/\((∃j k,ow b=some (.box j k)/\j∈ρ/\L=.box (ρ.idxOf j) k)\/(∃x∈oa,ow b=some (.tmp x.t x.k)/\L=.tmp x.i x.k)):=by
  intro b L hL
  unfold fJ at hL
  split at hL
  ·rename_i j k hb
   split at hL
   ·rename_i hc;cases hL;exact⟨hc.1,.inl ⟨j,k,hb,hc.2,rfl⟩⟩
   ·cases hL
  ·rename_i t k hb
   split at hL
   ·rename_i x hx
    split at hL
    ·rename_i hc
     cases hL
     have h1:=vbb hx
     have h2:=vbJ hx
     simp only[vad,vaZ]at h2
     exact⟨hc,.inr ⟨x,h1,by rw[hb,h2.1,h2.2],by rw[h2.2]⟩⟩
    ·cases hL
   ·cases hL
  ·cases hL
 have hpre:SR P ⟨E.GE,Γ,w,bj bsC (fJ ρ oa Γ ow)⟩ Γ bsC (fJ ρ oa Γ ow) w vs ⟨argsC,Hc,oa.map fun x=>((x.i,x.k),x.e)⟩:={
  wi:=h.wi
  sz:=by simpa[hal]using hl
  tm:=fun t q v hq hv'=>by
   have ht:=aq hq
   have hp:=vaa (l:=args) (i:=t) (by rw[hal];exact ht)
   exact(ha t _ q hp hq).to hbb (hv t _ v hp hv')
  bl:=by simp[bsC,hH.len]
  bx:=fun i b Bc hib hBc=>by
   obtain⟨j,hij,hjb⟩:=hbc hib
   obtain⟨B,Bc',hB,hBc',hx⟩:=hH.box i j hij
   rw[hBc]at hBc';cases hBc'
   obtain⟨k1,k2,k3⟩:=h.bx j b B hjb hB
   exact⟨k1,k2,hx.to hbb k3⟩
  inj:=fun i j b hi hj=>by
   obtain⟨x,hx,hxb⟩:=hbc hi
   obtain⟨y,hy,hyb⟩:=hbc hj
   have:=h.inj x y b hxb hyb
   subst this
   rw[<-vS hn hx,vS hn hy]
  bn:=fun i b hb=>.inl (.inl ⟨i,hb⟩)
  on:=fun b L hL=>by
   refine⟨?_,.inl (.inr (by rw[hL];simp))⟩
   rcases(hcow hL).2 with⟨j,k,hb,_⟩|⟨x,_,hb,_⟩<;>exact(h.on b _ hb).1
  ot:=fun t k e he=>by
   simp only[vah,Prod.mk.injEq]at he
   obtain⟨x,hx,⟨rfl,rfl⟩,rfl⟩:=he
   rcases ho1 x hx with⟨hn1,hn2⟩|⟨ht1,ht2⟩
   ·exact⟨_,.slice none 0 0,hn1,by rw[hn2];rfl,⟨0,[],World.ownsRow_nil _ _ _ _,fun b hb=>by simp[Value.ownBlock]at hb⟩,fun b hb=>by simp[Value.ownBlock]at hb⟩
   obtain⟨u,v',h1,h2,h3,h4⟩:=h.ot _ _ _ ht1
   refine⟨u,v',ht2.trans h1,h2,h3,fun b hb=>?_⟩
   have hg:(Γ b).isSome:=by obtain⟨n,xs,_,o2⟩:=h3;rw[o2 b hb];rfl
   unfold fJ
   rw[h4 b hb]
   simp only
   cases hf:oa.find? fun y=>y.t==x.t&&y.k==x.k with
   |none=>
    have:=vcE.1 hf x hx
    simp at this
   |some y=>
    have q1:=vbb hf
    have q2:=vbJ hf
    simp only[vad,vaZ]at q2
    simp only[vax hg,ho3 y q1 x hx q2.1 q2.2]
  ob:=fun i k e cs own b hB hk hb=>by
   obtain⟨j,hij,hjb⟩:=hbc hb
   obtain⟨B,Bc',hB',hBc',hx⟩:=hH.box i j hij
   rw[hB]at hBc';cases hBc'
   cases B with
   |cells cs' own'=>
    obtain⟨rfl,_,_⟩:=hx
    obtain⟨v,k1,k2,k3⟩:=h.ob j k e cs' own' b hB' hk hjb
    refine⟨v,k1,k2,fun b' hb'=>?_⟩
    have hg:(Γ b').isSome:=by obtain⟨n,xs,_,o2⟩:=k2;rw[o2 b' hb'];rfl
    simp only[fJ,k3 b' hb']
    rw[vax ⟨hg,vaC hij⟩,vS hn hij]
   |map es=>simp[jw]at hx
   |dead=>simp[jw]at hx
  gl:=fun g cs hg=>(h.gl g cs hg).restrict (n:=0) (by simp only[PVal.cl];exact h.gc g cs hg) (fun i b hi _=>absurd hi (vaK _))
  gc:=h.gc
  gx:=fun g cs hg=>by
   obtain⟨k1,k2,k3,k4⟩:=h.gnow hg
   refine⟨k1,fun hT=>?_,k4⟩
   rcases hT with⟨i,hi⟩|hT
   ·obtain⟨j,_,hjb⟩:=hbc hi
    exact k2 j g hjb rfl
   ·cases hL:fJ ρ oa Γ ow g with
    |none=>exact hT hL
    |some L=>
     rcases(hcow hL).2 with⟨j,k,hk',_⟩|⟨x,_,hk',_⟩<;>(rw[k3]at hk';cases hk')
  step:=.refl _ _ _ _}
 refine(hC.2 Γ bsC _ w vs hpre).mono fun e w' he=>?_
 obtain⟨v,Γ',owC,rfl,hS⟩:=he
 have hle:Γ.Le w Γ' w':=hS.step.le
 have hTE:∀b,bj bsC (fJ ρ oa Γ ow) b->E.T b\/E.w.heap.size<=b:=by
  intro b hb
  rcases hb with⟨i,hi⟩|hb
  ·obtain⟨j,_,hjb⟩:=hbc hi
   exact h.bn j b hjb
  ·cases hL:fJ ρ oa Γ ow b with
   |none=>exact absurd hL hb
   |some L=>
    rcases(hcow hL).2 with⟨j,k,hk,_⟩|⟨x,_,hk,_⟩<;>exact(h.on b _ hk).2
 have hkeep:∀b,b<w.heap.size->¬bj bsC (fJ ρ oa Γ ow) b->w'.heap[b]? =w.heap[b]?/\Γ' b=Γ b:=fun b hb hT=>hS.step.keep b hb hT
 have hnotT_own:∀{b L},ow b=some L->(Γ b).isSome->(∀j k,L=.box j k->j∉ρ)->(∀x∈oa,L≠.tmp x.t x.k)->¬bj bsC (fJ ρ oa Γ ow) b:=by
  intro b L hL hg hne hne2 hT
  rcases hT with⟨i,hi⟩|hT
  ·obtain⟨j,hij,hjb⟩:=hbc hi
   obtain⟨B,_,hB,_⟩:=hH.box i j hij
   rw[(h.bx j b B hjb hB).1]at hg;cases hg
  ·cases hL':fJ ρ oa Γ ow b with
   |none=>exact hT hL'
   | some L' =>
    rcases(hcow hL').2 with⟨j,k,hk,hj,_⟩|⟨x,hx,hk,_⟩
    ·rw[hL]at hk;cases hk
     exact hne j k rfl hj
    ·rw[hL]at hk;cases hk
     exact hne2 x hx rfl
 have hnotT_box:∀{j b:Nat},bs[j]? =some (some b)->j∉ρ->¬bj bsC (fJ ρ oa Γ ow) b:=by
  intro j b hjb hj hT
  rcases hT with⟨i,hi⟩|hT
  ·obtain⟨j',hij,hjb'⟩:=hbc hi
   have:=h.inj _ _ _ hjb hjb'
   subst this
   exact hj (vaC hij)
  ·cases hL':fJ ρ oa Γ ow b with
   |none=>exact hT hL'
   |some L'=>
    have hg:=(hcow hL').1
    have hjl:j<st.boxes.length:=by rw[<-h.bl];exact aq hjb
    rw[(h.bx j b _ hjb (vaa hjl)).1]at hg;cases hg
 have hold:∀{b L},ow b=some L->(Γ b).isSome->(∀j k,L=.box j k->j∉ρ)->(∀x∈oa,L≠.tmp x.t x.k)->vQ ρ oa d owC ow b=some L:=by
  intro b L hL hg hne hne2
  have hT:=hnotT_own hL hg hne hne2
  have hnone:owC b=none:=by
   cases hx:owC b with
   |none=>rfl
   | some L' =>
    obtain⟨_,k2⟩:=hS.on b L' hx
    rcases k2 with k2|k2
    ·exact absurd k2 hT
    ·have:=(h.on b L hL).1
     exact absurd k2 (vcf.2 this)
  unfold vQ
  rw[hnone]
  simp only[hL]
  cases L with
  |tmp t k=>
   simp only
   rw[vaz]
   intro hx
   obtain⟨x,hx1,hx2⟩:=vcK.1 hx
   simp only[vad,vaZ]at hx2
   exact hne2 x hx1 (by rw[hx2.1,hx2.2])
  |box j k=>simp only;rw[vaz (hne j k rfl)]
 have howned:∀{v:Value} {e:TypeId} {b:Nat},jQ P Γ w v e->v.ownBlock=some b->(Γ b).isSome:=by
  intro v e b ho hb
  obtain⟨n,xs,_,o2⟩:=ho
  rw[o2 b hb];rfl
 have hrv:VR Γ' bs w' r v:=hr.from hbb (hS.tm 0 rc v rfl rfl)
 refine⟨v,Γ',vQ ρ oa d owC ow,rfl,?_,hle⟩
 exact{
  wi:=hS.wi
  sz:=by simp[h.sz]
  tm:=fun t q u hq hu=>by
   simp only[vbm]at hq
   rw[vbg]at hu
   by_cases hdt:d=t
   ·subst hdt
    simp only[if_true]at hq hu
    split at hu
    ·split at hq
     ·cases hu;cases hq;exact hrv
     ·cases hq
    ·rename_i hnd;exact absurd hd hnd
   ·simp only[hdt,if_false]at hq hu
    exact(h.tm t q u hq hu).mono hle (.refl _)
  bl:=by simp[h.bl,hlen]
  bx:=fun j b B hjb hB=>by
   by_cases hj:j∈ρ
   ·obtain⟨i,hij⟩:=vbd.1 hj
    obtain⟨B',Bc,hB',hBc,hx⟩:=hH'.box i j hij
    rw[hB]at hB';cases hB'
    obtain⟨k1,k2,k3⟩:=hS.bx i b Bc ((hbb i j hij).trans hjb) hBc
    exact⟨k1,k2,hx.from hbb k3⟩
   ·have hB0:st.boxes[j]? =some B:=(hsame j hj).symm.trans hB
    obtain⟨k1,k2,k3⟩:=h.bx j b B hjb hB0
    obtain⟨q1,q2⟩:=hkeep b k2 (hnotT_box hjb hj)
    exact⟨q2.trans k1,vaA k2 hS.step.size,k3.mono hle (.refl _) q1⟩
  inj:=h.inj
  bn:=h.bn
  on:=fun b L hL=>by
   unfold vQ at hL
   split at hL
   ·rename_i i k hb
    obtain⟨k1,k2⟩:=hS.on b _ hb
    exact⟨k1,k2.elim (hTE b) (fun hx=>.inr (vaB h.step.size hx))⟩
   ·rename_i t k hb
    obtain⟨k1,k2⟩:=hS.on b _ hb
    exact⟨k1,k2.elim (hTE b) (fun hx=>.inr (vaB h.step.size hx))⟩
   ·have hsz:=hS.step.size
    cases hb:ow b with
    |none=>rw[hb]at hL;cases hL
    |some L'=>exact⟨vaA (h.on b _ hb).1 hsz,(h.on b _ hb).2⟩
  ot:=fun t k e he=>by
   rcases vaw.1 he with he|he
   ·simp only[vah,Prod.mk.injEq]at he
    obtain⟨⟨k',e'⟩,hm,⟨rfl,rfl⟩,rfl⟩:=he
    obtain⟨u,v',h1,h2,h3,h4⟩:=hS.ot 0 k' e' (vah.2 ⟨(k',e'),hm,rfl⟩)
    simp at h1;subst h1
    refine⟨v,v',by simp[hd],h2,h3,fun b hb=>?_⟩
    simp only[vQ,h4 b hb]
   ·obtain⟨he,htd⟩:=dS he
    obtain⟨he,hne0⟩:=ch he
    have hne2:∀x∈oa,lX.tmp t k≠.tmp x.t x.k:=fun x hx e=>by
     cases e
     simp only[vaT,vbn,vaZ]at hne0
     exact hne0 x hx rfl
    obtain⟨u,v',h1,h2,h3,h4⟩:=h.ot t k e he
    have hq:∀b,v'.ownBlock=some b->¬bj bsC (fJ ρ oa Γ ow) b:=fun b hb=>hnotT_own (h4 b hb) (howned h3 hb) (fun j k hx=>by cases hx) hne2
    exact⟨u,v',by rw[vaQ (fun e=>htd e.symm)];exact h1,h2,h3.same fun b hb=>hkeep b (h3.lt hb) (hq b hb),fun b hb=>hold (h4 b hb) (howned h3 hb) (fun j k hx=>by cases hx) hne2⟩
  ob:=fun j k e cs own b hB hk hjb=>by
   by_cases hj:j∈ρ
   ·obtain⟨i,hij⟩:=vbd.1 hj
    obtain⟨B',Bc,hB',hBc,hx⟩:=hH'.box i j hij
    rw[hB]at hB';cases hB'
    cases Bc with
    |cells cs' own'=>
     obtain⟨rfl,_,_⟩:=hx
     obtain⟨v',k1,k2,k3⟩:=hS.ob i k e cs' own b hBc hk ((hbb i j hij).trans hjb)
     refine⟨v',k1,k2,fun b' hb'=>?_⟩
     have hgd:ρ.getD i 0=j:=by rw[van,hij];rfl
     simp only[vQ,k3 b' hb',hgd]
    |map es=>simp[jw]at hx
    |dead=>simp[jw]at hx
   ·have hB0:st.boxes[j]? =some (.cells cs own):=(hsame j hj).symm.trans hB
    obtain⟨v',k1,k2,k3⟩:=h.ob j k e cs own b hB0 hk hjb
    obtain⟨_,hlt,_⟩:=h.bx j b _ hjb hB0
    have hne:∀j' k',lX.box j k=.box j' k'->j'∉ρ:=fun j' k' hx=>by cases hx;exact hj
    have hne2:∀x∈oa,lX.box j k≠.tmp x.t x.k:=fun x _ e=>by cases e
    exact⟨v',(bR (hkeep b hlt (hnotT_box hjb hj)).1 k).trans k1,k2.same fun b' hb'=>hkeep b' (k2.lt hb') (hnotT_own (k3 b' hb') (howned k2 hb') hne hne2),fun b' hb'=>hold (k3 b' hb') (howned k2 hb') hne hne2⟩
  gl:=fun g cs hg=>(h.gl g cs hg).mono hle (.refl _)
  gc:=h.gc
  gx:=h.gx
  step:={
   os:=hS.step.os.trans h.step.os
   tape:=hS.step.tape.trans h.step.tape
   output:=hS.step.output.trans h.step.output
   size:=vaB h.step.size hS.step.size
   drawn:=vaB h.step.drawn hS.step.drawn
   keep:=fun b hb hT=>by
    have hlt:b<w.heap.size:=vaA hb h.step.size
    have hnT:¬bj bsC (fJ ρ oa Γ ow) b:=fun hx=>(hTE b hx).elim hT (fun hx=>absurd hx (vcf.2 hb))
    obtain⟨k1,k2⟩:=h.step.keep b hb hT
    obtain⟨q1,q2⟩:=hkeep b hlt hnT
    exact⟨q1.trans k1,q2.trans k2⟩
   le:=h.step.le.trans hle}}
end
def CN(P:Program)(GE:List (Nat×List PVal))(f:FuncId)(args:List PVal)(r:PVal)(ro:List (Nat×TypeId))(H':List aC):Prop:=
 (∀vs w,(callFunc f vs).run P w=.ok (.enter f vs) w)/\
 ∀(Γ:aU) (w:World) (vs:Array Value),
  SR P ⟨GE,Γ,w,bj [] fun _=>none⟩ Γ [] (fun _=>none) w vs ⟨args,[],[]⟩->
  Calls P f vs w fun e w'=>∃v Γ' bs' ow',e=.returned v/\SR P ⟨GE,Γ,w,bj [] fun _=>none⟩ Γ' bs' ow' w' #[v] ⟨[r],H',ro.map fun x=>((0,x.1),x.2)⟩
def Ia(d n:Nat)(owC ow:Nat->Option lX):Nat->Option lX:=fun b=>
 match owC b with
 |some (.tmp _ k)=>some (.tmp d k)
 |some (.box i k)=>some (.box (n+i) k)
 |none=>ow b
section
variable{P:Program}{E:rD}{Γ:aU}{bs:bD}{ow:Nat->Option lX}{w:World}{a:Array Value}{st:aB}
theorem Us(bs X:bD):bs.Sub (bs++X):=fun i b hb=>by rw[vac (aq hb)];exact hb
theorem TY{s n i j:Nat}(h:(List.range' s n)[i]? =some j):j=s+i/\i<n:=by
 have hi:=aq h
 rw[List.length_range']at hi
 rw[List.getElem?_range' hi]at h
 simp at h
 exact⟨h.symm,hi⟩
theorem UA(h:SR P E Γ bs ow w a st){g:FuncId}{args:List PVal}{r rc:PVal}{ro:List (Nat×TypeId)}{New Hc':List aC}{vs:Array Value}{d:Nat}(hd:d<a.size)(hC:CN P E.GE g args rc ro Hc')
  (hl:vs.size=args.length) (hv:∀(i:Nat) p v,args[i]? =some p->vs[i]? =some v->VR Γ bs w p v) (hcl:jl 0 args) (hN:New.length=Hc'.length)
  (hB:∀(i:Nat) B Bc,New[i]? =some B->Hc'[i]? =some Bc->jw (List.range' st.boxes.length Hc'.length) B Bc) (hr:B6 (List.range' st.boxes.length Hc'.length) r rc):
  Calls P g vs w fun e w'=>∃v Γ' ow' X,e=.returned v/\SR P E Γ' (bs++X) ow' w' (a.setIfInBounds d v) ⟨st.tmps.set d r,st.boxes++New,(ro.map fun x=>((d,x.1),x.2))++bT d st.own⟩/\Γ.Le w Γ' w':=by
 have hpre:SR P ⟨E.GE,Γ,w,bj [] fun _=>none⟩ Γ [] (fun _=>none) w vs ⟨args,[],[]⟩:={
  wi:=h.wi
  sz:=hl
  tm:=fun t p v hp hv'=>(hv t p v hp hv').restrict (n:=0) (oX hcl hp) (fun i b hi _=>absurd hi (vaK _))
  bl:=rfl
  bx:=fun i b B hb=>by simp at hb
  inj:=fun i j b hb=>by simp at hb
  bn:=fun i b hb=>by simp at hb
  on:=fun b L hL=>by cases hL
  ot:=fun t k e he=>by simp at he
  ob:=fun i j e cs own b hB=>by simp at hB
  gl:=fun g cs hg=>(h.gl g cs hg).restrict (n:=0) (by simp only[PVal.cl];exact h.gc g cs hg) (fun i b hi _=>absurd hi (vaK _))
  gc:=h.gc
  gx:=fun g cs hg=>by
   obtain⟨k1,_,_,k4⟩:=h.gnow hg
   exact⟨k1,fun hT=>hT.elim (fun hx=>by obtain⟨i,hi⟩:=hx;simp at hi) (fun hx=>hx rfl),k4⟩
  step:=.refl _ _ _ _}
 refine(hC.2 Γ w vs hpre).mono fun e w' he=>?_
 obtain⟨v,Γ',bs',owC,rfl,hS⟩:=he
 have hT:∀b,¬bj [] (fun _=>none) b:=fun b hb=>by
  rcases hb with⟨i,hi⟩|hb
  ·simp at hi
  ·exact hb rfl
 have hle:Γ.Le w Γ' w':=hS.step.le
 have hw:=h.world (fun _=>False) hle hS.wi hS.step.os hS.step.tape hS.step.output hS.step.size (fun b hb _=>hS.step.keep b hb (hT b)) (fun _ hx=>hx.elim) (fun _ _ _ hx=>hx) (fun _ _ _ hx=>hx) hS.step.drawn
 have hbl:bs'.length=Hc'.length:=hS.bl
 have hsub:=Us bs bs'
 have hbb:∀(i j:Nat),(List.range' st.boxes.length Hc'.length)[i]? =some j->bs'[i]? =(bs++bs')[j]?:=fun i j hij=>by
  obtain⟨rfl,hi⟩:=TY hij
  rw[<-h.bl,vaf (vbE _ _),vbt]
 have hnew:∀{i b:Nat},bs'[i]? =some (some b)->w.heap.size<=b:=fun hb=>(hS.bn _ _ hb).resolve_left (hT _)
 have hold:∀{i b:Nat},bs[i]? =some (some b)->b<w.heap.size:=fun{i b} hb=>by
  have hi:i<st.boxes.length:=by rw[<-h.bl];exact aq hb
  exact(h.bx i b _ hb (vaa hi)).2.1
 have hcase:∀{i:Nat} {x:Option Nat},(bs++bs')[i]? =some x->(i<bs.length/\bs[i]? =some x)\/(∃k,i=bs.length+k/\bs'[k]? =some x):=fun{i x} hi=>by
  by_cases hlt:i<bs.length
  ·rw[vac hlt]at hi;exact .inl ⟨hlt,hi⟩
  ·rw[vaf (by omega)]at hi;exact .inr ⟨i - bs.length,by omega,hi⟩
 have how:∀{b L},ow b=some L->Ia d st.boxes.length owC ow b=some L:=fun{b L} hL=>by
  have hb:=(h.on b L hL).1
  unfold Ia
  cases hc:owC b with
  |none=>exact hL
  |some L'=>
   have:=((hS.on b L' hc).2.resolve_left (hT b))
   exact absurd hb (vcF.2 this)
 have hrv:VR Γ' (bs++bs') w' r v:=hr.from hbb (hS.tm 0 rc v rfl rfl)
 refine⟨v,Γ',Ia d st.boxes.length owC ow,bs',rfl,?_,hle⟩
 have hlen:st.boxes.length=bs.length:=h.bl.symm
 exact{
  wi:=hS.wi
  sz:=by simp[h.sz]
  tm:=fun t q u hq hu=>by
   simp only[vbm]at hq
   rw[vbg]at hu
   by_cases hdt:d=t
   ·subst hdt
    simp only[if_true]at hq hu
    split at hu
    ·split at hq
     ·cases hu;cases hq;exact hrv
     ·cases hq
    ·rename_i hnd;exact absurd hd hnd
   ·simp only[hdt,if_false]at hq hu
    exact(hw.tm t q u hq hu).mono (.refl _ _) hsub
  bl:=by simp[h.bl,hN,hbl]
  bx:=fun i b B hb hBi=>by
   rcases hcase hb with⟨hlt,hb'⟩|⟨k,rfl,hb'⟩
   ·rw[vac (by omega)]at hBi
    obtain⟨h1,h2,h3⟩:=hw.bx i b B hb' hBi
    exact⟨h1,h2,h3.mono (.refl _ _) hsub rfl⟩
   ·rw[vaf (by omega),hlen,vbt]at hBi
    have hk:k<Hc'.length:=by rw[<-hbl];exact aq hb'
    have hBc:Hc'[k]? =some Hc'[k]:=vaa hk
    obtain⟨h1,h2,h3⟩:=hS.bx k b _ hb' hBc
    exact⟨h1,h2,(hB k B _ hBi hBc).from hbb h3⟩
  inj:=fun i j b hi hj=>by
   rcases hcase hi with⟨_,hi'⟩|⟨k,rfl,hi'⟩<;>rcases hcase hj with⟨_,hj'⟩|⟨k',rfl,hj'⟩
   ·exact h.inj i j b hi' hj'
   ·exact absurd (hold hi') (vcF.2 (hnew hj'))
   ·exact absurd (hold hj') (vcF.2 (hnew hi'))
   ·rw[hS.inj k k' b hi' hj']
  bn:=fun i b hb=>by
   rcases hcase hb with⟨_,hb'⟩|⟨k,rfl,hb'⟩
   ·exact h.bn i b hb'
   ·exact .inr (vaB h.step.size (hnew hb'))
  on:=fun b L hL=>by
   unfold Ia at hL
   cases hc:owC b with
   |none=>rw[hc]at hL;exact hw.on b L hL
   |some L'=>
    obtain⟨k1,k2⟩:=hS.on b L' hc
    exact⟨k1,.inr (vaB h.step.size (k2.resolve_left (hT b)))⟩
  ot:=fun t k e he=>by
   rcases vaw.1 he with he|he
   ·simp only[vah,Prod.mk.injEq]at he
    obtain⟨⟨k',e'⟩,hm,⟨rfl,rfl⟩,rfl⟩:=he
    obtain⟨u,v',h1,h2,h3,h4⟩:=hS.ot 0 k' e' (vah.2 ⟨(k',e'),hm,rfl⟩)
    simp at h1;subst h1
    refine⟨v,v',by simp[hd],h2,h3,fun b hb=>?_⟩
    simp only[Ia,h4 b hb]
   ·obtain⟨he,htd⟩:=dS he
    obtain⟨u,v',h1,h2,h3,h4⟩:=hw.ot t k e he
    exact⟨u,v',by rw[vaQ (fun e=>htd e.symm)];exact h1,h2,h3,fun b hb=>how (h4 b hb)⟩
  ob:=fun i j e cs own b hBi hj hb=>by
   rcases hcase hb with⟨hlt,hb'⟩|⟨k,rfl,hb'⟩
   ·rw[vac (by omega)]at hBi
    obtain⟨v',k1,k2,k3⟩:=hw.ob i j e cs own b hBi hj hb'
    exact⟨v',k1,k2,fun b' hx=>how (k3 b' hx)⟩
   ·rw[vaf (by omega),hlen,vbt]at hBi
    have hk:k<Hc'.length:=by rw[<-hbl];exact aq hb'
    have hBc:Hc'[k]? =some Hc'[k]:=vaa hk
    have hx:=hB k _ _ hBi hBc
    cases hcc:Hc'[k]with
    |cells cs' own'=>
     rw[hcc]at hx hBc
     obtain⟨rfl,_,_⟩:=hx
     obtain⟨v',k1,k2,k3⟩:=hS.ob k j e cs' own b hBc hj hb'
     refine⟨v',k1,k2,fun b' hx=>?_⟩
     simp only[Ia,k3 b' hx,hlen]
    |map es=>rw[hcc]at hx;simp[jw]at hx
    |dead=>rw[hcc]at hx;simp[jw]at hx
  gl:=fun g cs hg=>(hw.gl g cs hg).mono (.refl _ _) hsub
  gc:=h.gc
  gx:=h.gx
  step:=hw.step}
end
def QO(P:Program)(GE:List (Nat×List PVal))(o:Oper)(K:aB->Prop)(st:aB):Prop:=
 match o.op,o.dst with
 | .call { callee := .value f,args,.. },some d => ∃ (g:FuncId) (rc:PVal) (ro:List (Nat×TypeId)) (New Hc':List aC) (r:PVal),opv GE st.tmps f = .func (.func g) [] []∧CN P GE g (args.toList.map (opv GE st.tmps)) rc ro Hc'∧jl 0 (args.toList.map (opv GE st.tmps))∧New.length = Hc'.length ∧
   (∀(i:Nat) B Bc,New[i]? =some B->Hc'[i]? =some Bc->jw (List.range' st.boxes.length Hc'.length) B Bc)/\B6 (List.range' st.boxes.length Hc'.length) r rc/\d<st.tmps.length/\
   K ⟨st.tmps.set d r,st.boxes++New,(ro.map fun x=>((d,x.1),x.2))++bT d st.own⟩
 |_,_=>False
theorem TS{P:Program}{GE:List (Nat×List PVal)}{o:Oper}{K K':aB->Prop}{st:aB}(hk:∀st,K st->K' st)(h:QO P GE o K st):QO P GE o K' st:=by
 unfold QO at *
 split at h
 ·obtain⟨g,rc,ro,New,Hc',r,h1,h2,h3,h4,h5,h6,h7,h8⟩:=h;exact⟨g,rc,ro,New,Hc',r,h1,h2,h3,h4,h5,h6,h7,hk _ h8⟩
 ·exact h
section
variable{P:Program}{E:rD}{Γ:aU}{bs:bD}{ow:Nat->Option lX}{w:World}{a:Act}{st:aB}
theorem RW(h:SR P E Γ bs ow w a.tmps st){o:Oper}{id:Nat}{K:aB->Prop}(hp:QO P E.GE o K st)(Q:Exit->Act->World->Prop):o.wp P a w (Hw P E bs id (aK o.op) a.defers K) Q:=by
 unfold QO at hp
 split at hp
 ·rename_i f args tys d ho hdst
  obtain⟨g,rc,ro,New,Hc',r,hf,hC,hcl,hN,hB,hr,hd,hK⟩:=hp
  have hvf:VR Γ bs w (opv E.GE st.tmps f) (a.eval f):=h.opv a.defers f
  rw[hf]at hvf
  generalize hev:a.eval f=vf at hvf
  cases hvf with
  |func _ _ _ fs cs hl hl' k1 k2=>
  have hfs:fs=#[]:=vaY (by simpa using hl)
  have hcs:cs=#[]:=vaY (by simpa using hl')
  subst hfs;subst hcs
  have hrun:(execOp a.eval o).run P w=.ok (.enter g (args.map a.eval)) w:=by
   simp[execOp,ho,resolve,hev,Deferred.ofValue,invoke,hC.1]
  have hvr:∀(i:Nat) p v,(args.toList.map (opv E.GE st.tmps))[i]? =some p->(args.map a.eval)[i]? =some v->VR Γ bs w p v:=
   fun i p v hp hv=>Ay (fun x=>h.opv a.defers x) args.toList i p v hp (by simpa using hv)
  have hds:d<a.tmps.size:=by rw[h.sz];exact hd
  unfold Oper.wp
  rw[hrun,Oper.upon_enter]
  refine(UA h hds hC (by simp) hvr hcl hN hB hr).mono fun e w' he=>?_
  obtain⟨v,Γ',ow',X,rfl,hS,_⟩:=he
  have hput:(a.put o.dst v).tmps=a.tmps.setIfInBounds d v:=by rw[hdst];rfl
  rw[<-hput]at hS
  show Hw P E bs id (aK o.op) a.defers K (a.put o.dst v) w'
  exact⟨bu _ _ _,Γ',_,_,_,hS,hK,.inr (.inr ⟨X,rfl⟩)⟩
 ·exact hp.elim
end
abbrev jW:Value:=.slice none 0 0
def Xt(v:Value):PVal:=if na v then .val jW else absC v
def Vz(P:Program)(t:TypeId):Option (List PVal):=((P.info? t).bind (·.zero)).map fun z=>z.cells.toList.map Xt
def Pf(P:Program)(t:TypeId)(parts:List (Nat×PVal)):Option (List PVal):=
 match P.underlying t,Vz P t with
 |some (.struct fs),some zs=>if fs.all (fun f=>(P.info? f.type).isSome)then LX (fun i=>(fs[i]?).map fun f=>(f.offset,P.cellsOf f.type)) zs parts else none
 |_,_=>none
def RN(cs:List PVal):List (Nat×TypeId)->Prop
 |[]=>True
 |x::r=>cs[x.1]? =some (.val jW)/\RN cs r
def Fp(P:Program)(t:TypeId)(parts:List (Nat×PVal))(L:List (Nat×TypeId)):Prop:=∃cs,Pf P t parts=some cs/\RN cs L
def ownLe(H0 H:List aC):Prop:=H0.length=H.length/\∀(i:Nat) B,H0[i]? =some B->∃B',H[i]? =some B'/\(B=B'\/∃cs own own',B'=.cells cs own/\B=.cells cs own'/\∀x∈own',x∈own)
structure KD(P:Program)(GE:List (Nat×List PVal))(f:Operand)(args:List Operand)(st:aB)(r:PVal)(ro:List (Nat×TypeId))(H':List aC)(oa:List OA):Prop where
 ex:∃(g:FuncId) (first cap argsC:List PVal) (ρ:List Nat) (H0 Hc Hc':List aC) (rc:PVal),opv GE st.tmps f=.func (.func g) first cap/\ρ.Nodup/\C P GE g argsC (oa.map fun x=>((x.i,x.k),x.e)) Hc rc ro Hc'/\
  ownLe H0 st.boxes/\BH ρ H0 Hc/\BH ρ H' Hc'/\H'.length=st.boxes.length/\(∀j:Nat,j∉ρ->H'[j]? =H0[j]?)/\B6 ρ r rc/\(first++args.map (opv GE st.tmps)++cap).length=argsC.length/\
  (∀(i:Nat) p q,(first++args.map (opv GE st.tmps)++cap)[i]? =some p->argsC[i]? =some q->B6 ρ p q)/\
  (∀x∈oa,∃j,x.i=first.length+j/\((args[j]? =some (.const jW)/\x.k=0)\/(((x.t,x.k),x.e)∈st.own/\args[j]? =some (.tmp x.t))))/\(∀x∈oa,∀y∈oa,x.t=y.t->x.k=y.k->x.i=y.i)
def L4(P:Program)(GE:List (Nat×List PVal))(o:Oper)(K:aB->Prop)(st:aB):Prop:=
 match o.op,o.dst with
 | .build T parts,some d => ∃ (p:PVal) (L:List (Nat×TypeId)),dG P T (parts.toList.map fun x => (x.1,opv GE st.tmps x.2)) = some p∧Fp P T (parts.toList.map fun x => (x.1,opv GE st.tmps x.2)) L ∧
   d<st.tmps.length/\K {st with tmps:=st.tmps.set d p,own:=(L.map fun x=>((d,x.1),x.2))++bT d st.own}
 | .store T x (.tmp t),none => ∃ (i off:Nat) (H:List aC) (cs:List PVal) (own L:List (Nat×TypeId)) (l:List PVal),opv GE st.tmps x = .bptr i off∧st.tmps.getD t .undef = .agg l∧fo P T (.bptr i off) (.agg l) st.boxes = some H∧H[i]? = some (.cells cs own) ∧
   (∀y∈L,((t,y.1),y.2)∈st.own)/\(L.map (·.1)).Nodup/\
   K ⟨st.tmps,H.set i (.cells cs ((L.map fun y=>(off+y.1,y.2)).reverse++own)),st.own.filter fun x=>!L.any fun y=>x.1==(t,y.1)⟩
 | .load T x,some d => ∃ (i off:Nat) (cs:List PVal) (own L:List (Nat×TypeId)) (l:List PVal),(∃ fs,P.underlying T = some (.struct fs))∧opv GE st.tmps x = .bptr i off∧st.boxes[i]? = some (.cells cs own)∧bo P T (cs.drop off) = some (.agg l) ∧
   (∀y∈L,(off+y.1,y.2)∈own)/\(L.map (·.1)).Nodup/\(∀y∈L,y.1<l.length)/\d<st.tmps.length/\
   K ⟨st.tmps.set d (.agg l),st.boxes.set i (.cells cs (own.filter fun x=>!L.any fun y=>x.1==off+y.1)),(L.map fun y=>((d,y.1),y.2)).reverse++bT d st.own⟩
 |.box _ x,some d=>∃vs:List PVal,ct (opv GE st.tmps x)=some vs/\d<st.tmps.length/\K {st with tmps:=st.tmps.set d (.eptr vs),own:=bT d st.own}
 | .call { callee := .value f,args,.. },some d => ∃ (r:PVal) (ro:List (Nat×TypeId)) (H':List aC) (oa:List OA),KD P GE f args.toList st r ro H' oa∧d < st.tmps.length ∧
   K ⟨st.tmps.set d r,H',(ro.map fun x=>((d,x.1),x.2))++bT d (st.own.filter fun z=>!oa.any fun x=>z.1==(x.t,x.k))⟩
 |_,_=>False
def CG(P:Program)(GE:List (Nat×List PVal))(A:List Nat)(o:Oper)(id:Nat)(K:aB->Prop)(st:aB):Prop:=Jg P GE A o id K st\/L4 P GE o K st\/RX P GE o K st\/QO P GE o K st
def dn(P:Program)(GE:List (Nat×List PVal))(A:List Nat)(ops:Array Oper)(K:aB->Prop):List Oper->Nat->aB->Prop
 |[],_,st=>K st
 | o :: rest,id,st =>
  match o.guard with
  |none=>CG P GE A o id (dn P GE A ops K rest (id+if aK o.op then 1 else 0)) st
  |some (j,want)=>match wL ops st.tmps j with
   | some x => (x = some want→CG P GE A o id (dn P GE A ops K rest (id + if aK o.op then 1 else 0)) st) ∧
     (x≠some want->dn P GE A ops K rest (id+if aK o.op then 1 else 0) (yO st o.dst (.val undef) [] st.boxes))
   |none=>False
section
variable{P:Program}{E:rD}{Γ:aU}{bs:bD}{ow:Nat->Option lX}{w:World}
theorem V7{z:Value}(j:Nat)(p:PVal)(v:Value)(hp:(z.cells.toList.map Xt)[j]? =some p)(hv:z.cells[j]? =some v):VR Γ bs w p v:=by
 simp only[var,vaH,hv,vag,vat]at hp
 subst hp
 unfold Xt
 split
 ·rename_i hn
  unfold na at hn
  split at hn
  ·exact .val _
  ·cases hn
 ·exact .absC v
theorem QC{t:TypeId}{parts:List (Nat×PVal)}{vs:List (Nat×Value)}{cs:List PVal}(hl:parts.length=vs.length)
  (hv:∀(j:Nat) p v,parts[j]? =some p->vs[j]? =some v->p.1=v.1/\VR Γ bs w p.2 v.2) (h:Pf P t parts=some cs):
  ∃ov,(Instr.build t vs.toArray).run P w=.ok (.agg ov) w/\ov.size=cs.length/\∀(j:Nat) p v,cs[j]? =some p->ov[j]? =some v->VR Γ bs w p v:=by
 unfold Pf at h
 split at h
 ·rename_i fs zs ht hz
  unfold Vz at hz
  simp only[vaS,vbh]at hz
  obtain⟨z,⟨i,hi,hz'⟩,rfl⟩:=hz
  have hr:(zeroValue t).run P w=.ok z w:=by simp[zeroValue,run_typeInfo w hi,hz']
  split at h
  ·rename_i hall
   have hplaces:∀(l:List Field),(∀f∈l,(P.info? f.type).isSome=true)->(l.mapM fun f=>do pure (f.offset,<-sizeOf f.type):Sem (List (Nat×Nat))).run P w=.ok (l.map fun f=>(f.offset,P.cellsOf f.type)) w:=by
    intro l hl
    induction l with
    |nil=>simp
    |cons f l ih=>
     obtain⟨inf,hinf⟩:=vaG.1 (hl f (by simp))
     have:=ih fun g hg=>hl g (by simp[hg])
     simp only[vbV,Sem.run_bind,run_sizeOf w hinf,Result.andThen_ok,this,Sem.run_pure,vaD]
   have hp:(fs.mapM fun f=>do pure (f.offset,<-sizeOf f.type):Sem (Array (Nat×Nat))).run P w=.ok (fs.map fun f=>(f.offset,P.cellsOf f.type)) w:=by
    rw[vcb]
    simp only[Sem.run_map]
    rw[hplaces fs.toList fun f hf=>by
     have:=vbl.1 hall f (by simpa using hf)
     simpa using this]
    simp only[Result.andThen_ok]
    exact va6 (fun x=>Result.ok x w) (vbL (by simp))
   obtain⟨ov,r1,r2,r3⟩:=DA (place':=((fs.map fun f=>(f.offset,P.cellsOf f.type))[·]?)) (fun i x hx=>by simpa using hx) parts vs _ z.cells hl hv (by simp) (fun j p v hp hv=>V7 j p v hp hv) h
   refine⟨ov,?_,r2,r3⟩
   simp only[Instr.build,Sem.run_bind,hr,Result.andThen_ok,run_underlying ht,hp]
   rw[r1]
   simp
  ·cases h
 ·cases h
theorem LM{cs:List PVal}:∀{L:List (Nat×TypeId)},RN cs L->∀x∈L,cs[x.1]? =some (.val jW)
 |[],_,x,hx=>by cases hx
 | y :: L,h,x,hx => by
  rcases vay.1 hx with rfl|hx
  ·exact h.1
  ·exact LM h.2 x hx
section
variable{a:Array Value}{st:aB}
theorem SR.ownNils(h:SR P E Γ bs ow w a st){d:Nat}{u:Value}(hu:a[d]? =some u)(L:List (Nat×TypeId))(hL:∀x∈L,lG u x.1=some jW):SR P E Γ bs ow w a {st with own:=(L.map fun x=>((d,x.1),x.2))++st.own}:=
 { h with
  ot:=fun t k e he=>by
   rcases vaw.1 he with he|he
   ·simp only[vah,Prod.mk.injEq]at he
    obtain⟨x,hx,⟨rfl,rfl⟩,rfl⟩:=he
    exact⟨u,jW,hu,hL x hx,⟨0,[],World.ownsRow_nil _ _ _ _,fun b hb=>by simp[Value.ownBlock]at hb⟩,fun b hb=>by simp[Value.ownBlock]at hb⟩
   ·exact h.ot t k e he}
theorem SR.takeOwn(h:SR P E Γ bs ow w a st){i b d k off:Nat}{e:TypeId}{u v:Value}{cs:List PVal}{own:List (Nat×TypeId)}(hi:bs[i]? =some (some b))(hB:st.boxes[i]? =some (.cells cs own))
  (hm:(off,e)∈own) (hu:a[d]? =some u) (hp:lG u k=some v) (hc:w.cell? ⟨b,off,none⟩=some v):
  ∃ow',SR P E Γ bs ow' w a {st with own:=((d,k),e)::st.own,boxes:=st.boxes.set i (.cells cs (own.filter fun x=>x.1 !=off))}:=by
 obtain⟨v',q1,q2,q3⟩:=h.ob i off e cs own b hB hm hi
 rw[hc]at q1
 cases q1
 exact⟨_,(h.freeB (j:=off) hB).addOwn (d:=d) (k:=k) (e:=e) (u:=u) (v:=v) hu hp q2 (fun b' hb'=>⟨by simp[q3 b' hb'],(h.on b' _ (q3 b' hb')).2⟩)⟩
theorem SR.takeOwns{i b d off:Nat}{u:Value}{cs:List PVal}(hi:bs[i]? =some (some b))(hu:a[d]? =some u):∀(L:List (Nat×TypeId)) {ow:Nat->Option lX} {st:aB} {own:List (Nat×TypeId)},SR P E Γ bs ow w a st->st.boxes[i]? =some (.cells cs own)->
  (∀x∈L,(off+x.1,x.2)∈own)->(L.map (·.1)).Nodup->(∀x∈L,∃v,lG u x.1=some v/\w.cell? ⟨b,off+x.1,none⟩=some v)->
  ∃ow',SR P E Γ bs ow' w a ⟨st.tmps,st.boxes.set i (.cells cs (own.filter fun x=>!L.any fun y=>x.1==off+y.1)),(L.map fun y=>((d,y.1),y.2)).reverse++st.own⟩
 | [],ow,st,own,h,hB,_,_,_ => by
  refine⟨ow,?_⟩
  have e2:(own.filter fun x=>!([]:List (Nat×TypeId)).any fun y=>x.1==off+y.1)=own:=by
   apply vcz.2
   intro x _
   rfl
  have e1:st.boxes.set i (.cells cs (own.filter fun x=>!([]:List (Nat×TypeId)).any fun y=>x.1==off+y.1))=st.boxes:=by
   rw[e2]
   apply va2
   intro j
   by_cases hj:i=j
   ·subst hj
    rw[vaj (aq hB),hB]
   ·rw[vap hj]
  rw[e1]
  exact h
 | x :: L,ow,st,own,h,hB,hm,hn,hc => by
  rw[vaD,vbA]at hn
  obtain⟨v,hv1,hv2⟩:=hc x (by simp)
  obtain⟨ow1,h1⟩:=h.takeOwn hi hB (hm x (by simp)) hu hv1 hv2
  obtain⟨ow2,h2⟩:=SR.takeOwns (off:=off) hi hu L h1 (vaj (aq hB)) (fun y hy=>by
   refine vaJ.2 ⟨hm y (by simp[hy]),?_⟩
   simp only[bne_iff_ne,ne_eq]
   exact fun e=>hn.1 (vah.2 ⟨y,hy,by omega⟩)) hn.2 (fun y hy=>hc y (by simp[hy]))
  refine⟨ow2,?_⟩
  simp only[vbX,vcD]at h2
  have e1:((x::L).map fun y=>((d,y.1),y.2)).reverse++st.own=(L.map fun y=>((d,y.1),y.2)).reverse++((d,x.1),x.2)::st.own:=by simp
  have e2:(own.filter fun z=>!(x::L).any fun y=>z.1==off+y.1)=own.filter fun z=>(!L.any fun y=>z.1==off+y.1)&&(z.1 !=off+x.1):=by
   congr 1
   funext z
   rw[List.any_cons]
   cases(L.any fun y=>z.1==off+y.1)<;>cases hz:(z.1==off+x.1)<;>simp[bne,hz]
  rw[e1,e2]
  exact h2
theorem Fd(h:SR P E Γ bs ow w a st){T:TypeId}{i off b:Nat}{cs:List PVal}{own:List (Nat×TypeId)}{l:List PVal}(hi:bs[i]? =some (some b))(hB:st.boxes[i]? =some (.cells cs own))(hp:bo P T (cs.drop off)=some (.agg l)):∃v,(loadVar T ⟨b,off,none⟩).run P w=.ok v w/\VR Γ bs w (.agg l) v/\((∃d,P.underlying T=some d/\(match d with|.struct _|.array _ _=>True|_=>False))->∀k,k<l.length->lG v k=w.cell? ⟨b,off+k,none⟩):=by
 obtain⟨c,t',h1,h2,h3,h4⟩:=h.box_cells hi hB
 have hval:∀(k:Nat) q,(cs.drop off)[k]? =some q->w.cell? ⟨b,off+k,none⟩=some (c.getD (off+k) undef)/\VR Γ bs w q (c.getD (off+k) undef):=by
  intro k q hq
  rw[vbc]at hq
  have hlt:off+k<c.size:=vaA (aq hq) h2
  have hc:c[off+k]? =some (c.getD (off+k) undef):=by simp[vas,hlt]
  exact⟨(h4 _).trans hc,h3 _ _ _ hq hc⟩
 obtain⟨v,hr,hv⟩:=nc hp (vals:=fun k=>c.getD (off+k) undef) (fun k q hq=>(hval k q hq).1) (fun k q hq=>(hval k q hq).2)
 refine⟨v,hr,hv,fun hagg k hk=>?_⟩
 obtain⟨dd,hd,hm⟩:=hagg
 have hlen:P.cellsOf T<=(cs.drop off).length/\l.length=P.cellsOf T:=by
  unfold bo at hp
  rw[hd]at hp
  have key:(if P.cellsOf T<=(cs.drop off).length then some (PVal.agg ((cs.drop off).take (P.cellsOf T)))else none)=some (.agg l):=by
   cases dd<;>simp only at hm<;>exact hp
  split at key
  ·rename_i hh;cases key;exact⟨hh,by rw[vbk];omega⟩
  ·cases key
 have hp2:bo P T ((List.range (cs.drop off).length).map fun k=>PVal.val (c.getD (off+k) undef))=some (.agg (((List.range (cs.drop off).length).map fun k=>PVal.val (c.getD (off+k) undef)).take (P.cellsOf T))):=by
  unfold bo
  rw[hd]
  cases dd<;>simp at hm<;>simp only<;>rw[vax (by simpa using hlen.1)]
 obtain⟨v2,hr2,hv2⟩:=nc (Γ:=Γ) (bs:=bs) hp2 (vals:=fun k=>c.getD (off+k) undef) (fun k q hq=>by
   have hlt:k<(cs.drop off).length:=by have:=aq hq;simpa using this
   exact(hval k _ (vaa hlt)).1) (fun k q hq=>by
   have hlt:k<(cs.drop off).length:=by have:=aq hq;simpa using this
   simp only[var,vbw hlt,vag,vat]at hq
   subst hq
   exact .val _)
 rw[hr]at hr2
 cases hr2
 have hk2:k<(cs.drop off).length:=by omega
 cases hv2 with
 | agg _ vs hl hvv =>
  have hd1:(cs.drop off).length=cs.length - off:=vbN
  have hkv:k<vs.size:=by rw[hl];simp;omega
  have hq:(((List.range (cs.drop off).length).map fun k=>PVal.val (c.getD (off+k) undef)).take (P.cellsOf T))[k]? =some (.val (c.getD (off+k) undef)):=by
   rw[vak (by omega)]
   simp only[var,vbw hk2,vag]
  have:=hvv k _ vs[k] hq (by simp[hkv])
  show vs[k]? =_
  rw[(hval k _ (vaa hk2)).1]
  rw[vaM hkv]
  generalize vs[k]=q at this
  generalize c.getD (off+k) undef=q2 at this
  cases this
  rfl
end
variable{a:Act}{st:aB}
theorem Ce(h:SR P E Γ bs ow w a.tmps st){o:Oper}{id d:Nat}{T:TypeId}{parts:Array (Nat×Operand)}{p:PVal}{L:List (Nat×TypeId)}{K:aB->Prop}(ho:o.op=.build T parts)(hdst:o.dst=some d)(hd:d<st.tmps.length)
  (hp:dG P T (parts.toList.map fun x=>(x.1,opv E.GE st.tmps x.2))=some p) (hL:Fp P T (parts.toList.map fun x=>(x.1,opv E.GE st.tmps x.2)) L)
  (hK:K {st with tmps:=st.tmps.set d p,own:=(L.map fun x=>((d,x.1),x.2))++bT d st.own}) (Q:Exit->Act->World->Prop):
  o.wp P a w (ib P E bs id (aK o.op) a.defers K) Q:=by
 have hρ:∀x,VR Γ bs w (opv E.GE st.tmps x) (a.eval x):=fun x=>h.opv a.defers x
 obtain⟨k1,k2⟩:=zo hρ parts.toList
 obtain⟨v,r1,r2⟩:=Az k1 k2 hp
 obtain⟨cs,hcs,hn⟩:=hL
 obtain⟨ov,s1,s2,s3⟩:=QC k1 k2 hcs
 rw[r1]at s1
 cases s1
 have hrun:(execOp a.eval o).run P w=.ok (.value (.agg ov)) w:=by
  have:(parts.map fun x=>(x.1,a.eval x.2))=(parts.toList.map fun x=>(x.1,a.eval x.2)).toArray:=by apply vbL;simp
  simp only[execOp,ho]
  rw[this]
  simp[r1]
 unfold Oper.wp
 rw[hrun,Oper.upon_value]
 have hds:d<a.tmps.size:=by rw[h.sz];exact hd
 have g1:=h.set (d:=d) r2
 have g2:=g1.ownNils (d:=d) (u:=.agg ov) (by simp[hds]) L fun x hx=>by
  have hq:=LM hn x hx
  have hlt:x.1<ov.size:=by rw[s2];exact aq hq
  have hv:=s3 x.1 _ ov[x.1] hq (by simp[hlt])
  show ov[x.1]? =_
  rw[vaM hlt]
  generalize ov[x.1]=q at hv
  cases hv
  rfl
 have hput:∀v,(a.put o.dst v).tmps=a.tmps.setIfInBounds d v:=fun v=>by rw[hdst];rfl
 rw[<-hput]at g2
 exact⟨bu _ _ _,Γ,bs,_,_,g2,hK,.inl rfl⟩
theorem SR.ownLe(h:SR P E Γ bs ow w a.tmps st){H0:List aC}(hs:ownLe H0 st.boxes):SR P E Γ bs ow w a.tmps {st with boxes:=H0}:=
 { h with
  bl:=h.bl.trans hs.1.symm
  bx:=fun i b B hb hB=>by
   obtain⟨B',hB',hx⟩:=hs.2 i B hB
   obtain⟨k1,k2,k3⟩:=h.bx i b B' hb hB'
   rcases hx with rfl|⟨cs,own,own',rfl,rfl,_⟩
   ·exact⟨k1,k2,k3⟩
   ·exact⟨k1,k2,k3⟩
  ob:=fun i j e cs own b hB hj hb=>by
   obtain⟨B',hB',hx⟩:=hs.2 i _ hB
   rcases hx with rfl|⟨cs1,sG,own2,rfl,e2,hsub⟩
   ·exact h.ob i j e cs own b hB' hj hb
   ·cases e2;exact h.ob i j e _ sG b hB' (hsub _ hj) hb}
theorem Ck(h:SR P E Γ bs ow w a.tmps st){o:Oper}{id d:Nat}{f:Operand}{args:Array Operand}{tys:Array TypeId}{r:PVal}{ro:List (Nat×TypeId)}{H':List aC}{oa:List OA}{K:aB->Prop}(ho:o.op=.call {callee:=.value f,args,argTypes:=tys})(hdst:o.dst=some d)(hd:d<st.tmps.length)
  (hg:KD P E.GE f args.toList st r ro H' oa) (hK:K ⟨st.tmps.set d r,H',(ro.map fun x=>((d,x.1),x.2))++bT d (st.own.filter fun z=>!oa.any fun x=>z.1==(x.t,x.k))⟩) (Q:Exit->Act->World->Prop):
  o.wp P a w (ib P E bs id (aK o.op) a.defers K) Q:=by
 obtain⟨g,first,cap,argsC,ρ,H0,Hc,Hc',rc,hfv,hnd,hC,hle,hH,hH',hlen,hsame,hr,hal,ha,ho1,ho3⟩:=hg.ex
 have hρ:∀x,VR Γ bs w (opv E.GE st.tmps x) (a.eval x):=fun x=>h.opv a.defers x
 have hf:=hρ f
 rw[hfv]at hf
 generalize hvf:a.eval f=vf at hf
 cases hf with
 |func _ _ _ fs cs hl hl' h1 h2=>
 have hargs:(fs++args.map a.eval++cs).size=(first++args.toList.map (opv E.GE st.tmps)++cap).length:=by simp[hl,hl']
 have hvr:∀(i:Nat) p v,(first++args.toList.map (opv E.GE st.tmps)++cap)[i]? =some p->(fs++args.map a.eval++cs)[i]? =some v->VR Γ bs w p v:=by
  refine Dk (by simp[hl]) (Dk hl h1 fun i p v hp hv=>?_) h2
  exact Ay hρ args.toList i p v hp (by simpa using hv)
 have hrun:(execOp a.eval o).run P w=.ok (.enter g (fs++args.map a.eval++cs)) w:=by
  simp[execOp,ho,resolve,hvf,Deferred.ofValue,invoke,hC.1]
 have hds:d<a.tmps.size:=by rw[h.sz];exact hd
 have hw:=h.ownLe hle
 unfold Oper.wp
 rw[hrun,Oper.upon_enter]
 refine(Uz hw hds hnd hC (fun x hx=>?_) ho3 hH hH' (hlen.trans hle.1.symm) hsame hr hal ha hargs hvr).mono fun e w' he=>?_
 ·obtain⟨j,hj,hj2⟩:=ho1 x hx
  have hat:∀{y:Operand},args.toList[j]? =some y->(fs++args.map a.eval++cs)[x.i]? =some (a.eval y):=by
   intro y hy
   have hjl:j<args.size:=by have:=aq hy;simpa using this
   have hja:args[j]? =some y:=by simpa using hy
   rw[hj,<-hl,vaR (by simp;omega),vb5 (by omega),vbt]
   simp only[Array.getElem?_map,hja,vag]
  rcases hj2 with⟨hj2,hk⟩|⟨ht,hj2⟩
  ·exact .inl ⟨hat hj2,hk⟩
  ·obtain⟨u,v,e1,_⟩:=h.ot _ _ _ ht
   exact .inr ⟨ht,by rw[hat hj2,bU e1];exact e1.symm⟩
 ·obtain⟨v,Γ',ow',rfl,hS,_⟩:=he
  have hput:(a.put o.dst v).tmps=a.tmps.setIfInBounds d v:=by rw[hdst];rfl
  show ib P E bs id (aK o.op) a.defers K (a.put o.dst v) w'
  refine⟨bu _ _ _,Γ',bs,ow',_,?_,hK,.inl rfl⟩
  rw[hput];exact hS
theorem Fq(h:SR P E Γ bs ow w a.tmps st){o:Oper}{id:Nat}{K:aB->Prop}(hp:L4 P E.GE o K st)(Q:Exit->Act->World->Prop):o.wp P a w (ib P E bs id (aK o.op) a.defers K) Q:=by
 unfold L4 at hp
 split at hp
 ·rename_i T parts d ho hd
  obtain⟨p,L,h1,h2,h3,h4⟩:=hp
  exact Ce h ho hd h3 h1 h2 h4 Q
 ·rename_i T x t ho hd
  obtain⟨i,off,H,cs,own,L,l,hx,ht,hst,hB,hm,hn,hK⟩:=hp
  have htl:t<st.tmps.length:=by
   by_cases hlt:t<st.tmps.length
   ·exact hlt
   ·rw[van,vaE (vb0 hlt)]at ht;cases ht
  have hta:t<a.tmps.size:=by rw[h.sz];exact htl
  have hu:a.tmps[t]? =some a.tmps[t]:=by simp[hta]
  generalize a.tmps[t]=u at hu
  have hvt:=Kz h hu
  rw[ht]at hvt
  have hvx:VR Γ bs w (opv E.GE st.tmps x) (a.eval x):=h.opv a.defers x
  rw[hx]at hvx
  obtain⟨w',r1,r2,_,r4⟩:=CH h hvx hvt hst
  have hrun:(execOp a.eval o).run P w=.ok .skip w':=by simp[execOp,ho,bU hu,r1]
  unfold Oper.wp
  rw[hrun,Oper.upon_skip]
  generalize a.eval x=vx at hvx r1
  cases hvx with
  |bptr _ _ b hb=>
  obtain⟨c1,_⟩:=r4 i off b rfl hb
  obtain⟨ow',g⟩:=SR.moveOwns (off:=off) hb hu L r2 hB hm hn fun y hy=>by
   obtain⟨u',v,e1,e2,_,_⟩:=h.ot t y.1 y.2 (hm y hy)
   rw[hu]at e1
   cases e1
   refine⟨v,e2,?_⟩
   cases hvt with
   |agg _ vs _ _=>exact c1 y.1 v e2
  have hput:a.put o.dst undef=a:=by rw[hd];rfl
  rw[hput]
  exact⟨rfl,Γ,bs,ow',_,g,hK,.inl rfl⟩
 ·rename_i T x d ho hd
  obtain⟨i,off,cs,own,L,l,⟨fs,hfs⟩,hx,hB,hp,hm,hn,hll,hdl,hK⟩:=hp
  have hvx:VR Γ bs w (opv E.GE st.tmps x) (a.eval x):=h.opv a.defers x
  rw[hx]at hvx
  generalize hve:a.eval x=vx at hvx
  cases hvx with
  |bptr _ _ b hb=>
  obtain⟨v,r1,r2,r3⟩:=Fd h hb hB hp
  have hrun:(execOp a.eval o).run P w=.ok (.value v) w:=by simp[execOp,ho,hve,Instr.loadAt,Instr.sureAddr,r1]
  unfold Oper.wp
  rw[hrun,Oper.upon_value]
  have hds:d<a.tmps.size:=by rw[h.sz];exact hdl
  have g1:=h.set (d:=d) r2
  obtain⟨ow',g2⟩:=SR.takeOwns (off:=off) (d:=d) (u:=v) hb (by simp[hds]) L g1 hB hm hn fun y hy=>by
   have:=r3 ⟨_,hfs,trivial⟩ y.1 (hll y hy)
   obtain⟨v',q1,_⟩:=h.ob i (off+y.1) y.2 cs own b hB (hm y hy) hb
   exact⟨v',this.trans q1,q1⟩
  have hput:∀v,(a.put o.dst v).tmps=a.tmps.setIfInBounds d v:=fun v=>by rw[hd];rfl
  rw[<-hput]at g2
  exact⟨bu _ _ _,Γ,bs,ow',_,g2,hK,.inl rfl⟩
 ·rename_i T x d ho hd
  obtain⟨vs,hvs,hdl,hK⟩:=hp
  have hvx:VR Γ bs w (opv E.GE st.tmps x) (a.eval x):=h.opv a.defers x
  generalize hve:a.eval x=vx at hvx
  obtain⟨k1,k2⟩:=hvx.cells hvs
  obtain⟨g1,hle⟩:=h.alloc_imm vx.cells T vx.cells.size (vam _)
  have hrun:(execOp a.eval o).run P w=.ok (.value (.pointer (some ⟨w.heap.size,0,none⟩))) (w.alloc (.cells vx.cells T)):=by simp[execOp,ho,hve,Instr.box,newVar,newRow]
  unfold Oper.wp
  rw[hrun,Oper.upon_value]
  have hcell:∀j,(w.alloc (.cells vx.cells T)).cell? ⟨w.heap.size,j,none⟩=vx.cells[j]?:=fun j=>cell_of_row _ _ _ _ _ _ (j9 w _)
  have hget:∀{k:Nat} {p:PVal},vs[k]? =some p->vx.cells[k]? =some (vx.cells.getD k undef):=fun{k p} hp=>by
   have hlt:k<vx.cells.size:=by rw[k1];exact aq hp
   simp[vas,hlt]
  have hvr:VR (Γ.put w.heap.size vx.cells.size) bs (w.alloc (.cells vx.cells T)) (.eptr vs) (.pointer (some ⟨w.heap.size,0,none⟩)):=
   .eptr vs w.heap.size 0 vx.cells.size (fun k=>vx.cells.getD k undef) (Γ.put_same _ _) (by omega)
    (fun k p hp=>by rw[hcell,vaI];exact hget hp) (fun k p hp=>(k2 k p _ hp (hget hp)).mono hle (.refl _))
  have g2:=g1.set (d:=d) hvr
  have hput:∀v,(a.put o.dst v).tmps=a.tmps.setIfInBounds d v:=fun v=>by rw[hd];rfl
  rw[<-hput]at g2
  exact⟨bu _ _ _,_,bs,_,_,g2,hK,.inl rfl⟩
 ·rename_i f args tys d ho hd
  obtain⟨r,ro,H',oa,h1,h2,h3⟩:=hp
  exact Ck h ho hd h2 h1 h3 Q
 ·exact hp.elim
theorem GV(h:SR P E Γ bs ow w a.tmps st){A:List Nat}{o:Oper}{id:Nat}(hid:aK o.op=true->bs[id]? =some none){K:aB->Prop}(hp:CG P E.GE A o id K st)(Q:Exit->Act->World->Prop):o.wp P a w (Hw P E bs id (aK o.op) a.defers K) Q:=by
 rcases hp with hp|hp|hp|hp
 ·exact Oper.wp_mono (fun _ _ hA=>hA.to3) (QP h hid hp Q)
 ·exact Oper.wp_mono (fun _ _ hA=>hA.to3) (Fq h hp Q)
 ·exact RY h hp Q
 ·exact RW h hp Q
theorem AC{bs0:bD}{ds:List Deferred}{A:List Nat}{ops:Array Oper}{K:aB->Prop}{Q:Exit->Act->World->Prop}
  (hQ:∀a w st,a.defers=ds->Oo P E bs0 st a w->K st->Q .normal a w):
  ∀(rest:List Oper) (k id:Nat) (Γ:aU) (bs:bD) (ow:Nat->Option lX) (a:Act) (w:World) (st:aB),(∀j,rest[j]? =ops[k+j]?)->SR P E Γ bs ow w a.tmps st->a.defers=ds->Up bs0 bs->bs0.length<=id->
   (∀m,id<=m->m<id+cf rest->bs[m]? =some none)->dn P E.GE A ops K rest id st->wpOps P ops Q ((List.range ops.size).drop k) a w
 | [],k,id,Γ,bs,ow,a,w,st,hr,h,hd,hk,_,_,hp => by
  have hsz:ops.size<=k:=by
   have:=hr 0
   simp only[List.getElem?_nil,Nat.add_zero]at this
   exact vbM.1 this.symm
  rw[List.drop_eq_nil_of_le (by simpa using hsz)]
  exact hQ a w st hd ⟨Γ,bs,ow,h,hk⟩ hp
 | o :: rest,k,id,Γ,bs,ow,a,w,st,hr,h,hd,hk,hid,hfree,hp => by
  have hok:ops[k]? =some o:=by have:=hr 0;simpa using this.symm
  have hlt:k<ops.size:=(vae.1 hok).1
  have hcons:(List.range ops.size).drop k=k::(List.range ops.size).drop (k+1):=by
   rw[vbo (by simpa using hlt)];simp
  rw[hcons,wpOps_cons]
  unfold wpOp
  rw[hok]
  simp only
  have hcnt:cf (o::rest)=(if aK o.op then 1 else 0)+cf rest:=by
   unfold cf
   simp only[vbs]
   split<;>simp<;>omega
  have hrest:∀j,rest[j]? =ops[k+1+j]?:=fun j=>by
   have:=hr (j+1)
   simpa[vb3,vcs 1 j]using this
  have hmk:aK o.op=true->bs[id]? =some none:=fun hm=>hfree id (vam _) (by rw[hcnt,hm];simp;omega)
  have step:CG P E.GE A o id (dn P E.GE A ops K rest (id+if aK o.op then 1 else 0)) st->o.wp P a w (wpOps P ops Q ((List.range ops.size).drop (k+1))) Q:=by
   intro hs
   refine Oper.wp_mono (fun a' w' hA=>?_) (GV h hmk hs Q)
   obtain⟨hd',Γ',bs',ow',st',h1,h2,h3⟩:=hA
   refine AC hQ rest (k+1) _ Γ' bs' ow' a' w' st' hrest h1 (hd'.trans hd) ?_ (by omega) ?_ h2
   ·rcases h3 with rfl|⟨hm,b,rfl⟩|⟨x,rfl⟩
    ·exact hk
    ·intro i hi
     rw[vap (by omega)]
     exact hk i hi
    ·intro i hi
     have hki:=hk i hi
     have hlt:i<bs.length:=by
      have h1:bs0[i]? =some bs0[i]:=vaa hi
      rw[h1]at hki
      exact aq hki
     rw[vac hlt]
     exact hki
   ·intro m hm1 hm2
    have hb:=hfree m (by omega) (by rw[hcnt];omega)
    rcases h3 with rfl|⟨hm,b,rfl⟩|⟨x,rfl⟩
    ·exact hb
    ·rw[hm]at hm1
     simp only[if_true]at hm1
     rw[vap (by omega)]
     exact hb
    ·rw[vac (aq hb)]
     exact hb
  have skip:dn P E.GE A ops K rest (id+if aK o.op then 1 else 0) (yO st o.dst (.val undef) [] st.boxes)->wpOps P ops Q ((List.range ops.size).drop (k+1)) (a.put o.dst undef) w:=by
   intro hs
   refine AC hQ rest (k+1) _ Γ bs ow (a.put o.dst undef) w _ hrest (h.putv_nil (.val undef) o.dst rfl) ((bu _ _ _).trans hd) hk (by omega) (fun m hm1 hm2=>hfree m (by omega) (by rw[hcnt];omega)) hs
  simp only[dn]at hp
  have hgo:(Region.wanted o (yielded ops a.tmps)=true->o.wp P a w (wpOps P ops Q ((List.range ops.size).drop (k+1))) Q)/\(¬Region.wanted o (yielded ops a.tmps)=true->wpOps P ops Q ((List.range ops.size).drop (k+1)) (a.put o.dst undef) w):=by
   split at hp
   ·rename_i hg
    exact⟨fun _=>step hp,fun hn=>absurd (by simp[Region.wanted,hg]) hn⟩
   ·rename_i j want hg
    split at hp
    ·rename_i x hx
     have hw:Region.wanted o (yielded ops a.tmps)=(x==some want):=by simp[Region.wanted,hg,Jd h hx]
     rw[hw]
     exact⟨fun hx=>step (hp.1 (by simpa using hx)),fun hx=>skip (hp.2 (by simpa using hx))⟩
    ·exact hp.elim
  by_cases hw:Region.wanted o (yielded ops a.tmps)=true
  ·rw[vax hw];exact .inl (hgo.1 hw)
  ·rw[vaz hw];exact hgo.2 hw
theorem EC{bs0:bD}{A:List Nat}{ops:Array Oper}{K:aB->Prop}{Q:Exit->Act->World->Prop}(hR:Oo P E bs0 st a w)(hl:bs0.length<=st.boxes.length)
  (hQ:∀a' w' st',a'.defers=a.defers->Oo P E bs0 st' a' w'->K st'->Q .normal a' w') (hp:dn P E.GE A ops K ops.toList st.boxes.length {st with boxes:=st.boxes++gb P ops.toList}):
  wpOps P ops Q (List.range ops.size) a w:=by
 obtain⟨Γ,bs,ow,h,hk⟩:=hR
 have hext:=h.extend (gb P ops.toList)
 have hlen:=A7 P ops.toList
 have:=AC (P:=P) (E:=E) (bs0:=bs0) (ds:=a.defers) hQ ops.toList 0 st.boxes.length Γ _ ow a w _ (fun j=>by simp) hext rfl (fun i hi=>?_) hl (fun m hm1 hm2=>?_) hp
 ·simpa using this
 ·rw[vac (by rw[h.bl];omega)];exact hk i hi
 ·rw[vaf (by rw[h.bl];omega),vaW,vax (by rw[h.bl];omega)]
end
def I0(ro:Option Nat)(P:Program)(c:Code)(Q:Exit->Act->World->Prop)(a:Act)(w:World):Prop:=match ro with
 |none=>c.wp P Q a w
 |some l=>∀n,c.wpIn (Fence.wide.inRound l) n P Q a w
def ft(o:Oper):Bool:=match o.op with
 |.defer _=>false
 |_=>true
section
variable{P:Program}{ro:Option Nat}{Q:Exit->Act->World->Prop}{a:Act}{w:World}
theorem lA{c:Code}{Q':Exit->Act->World->Prop}(h:I0 ro P c Q a w)(hq:∀e a w,Q e a w->Q' e a w):I0 ro P c Q' a w:=by
 cases ro with
 |none=>exact wp_mono h hq
 |some l=>exact fun n=>wpIn_mono (h n) hq
theorem P1(h:Q .normal a w):I0 ro P .skip Q a w:=by
 cases ro with
 |none=>exact wp_skip h
 |some l=>exact fun n=>wpIn_skip h
theorem Td{l:Nat}(h:Q .normal a w):I0 ro P (.label l) Q a w:=by
 cases ro with
 |none=>exact wp_label h
 |some l=>exact fun n=>wpIn_label h
theorem P0{id:Nat}(h:Q (.exit id) a w):I0 ro P (.exit id) Q a w:=by
 cases ro with
 |none=>exact wp_exit h
 |some l=>exact fun n=>wpIn_exit h
theorem Wr(h:Q .ret a w):I0 ro P .ret Q a w:=by
 cases ro with
 |none=>exact wp_ret h
 |some l=>exact fun n=>wpIn_ret h
theorem Gi{x y:Code}(h:I0 ro P x (Exit.then (I0 ro P y Q) Q) a w):I0 ro P (.seq x y) Q a w:=by
 cases ro with
 |none=>exact wp_seq h
 |some l=>exact fun n=>wpIn_seq (wpIn_mono (h n) fun e a w hq=>by cases e<;>first|exact hq n|exact hq)
theorem Lj{c:Operand}{x y:Code}{t:Bool}(hc:a.eval c=.bool t)(h1:t=true->I0 ro P x Q a w)(h2:t=false->I0 ro P y Q a w):I0 ro P (.cond c x y) Q a w:=by
 cases t with
 |true=>cases ro with
  |none=>exact wp_cond hc (h1 rfl)
  |some l=>exact fun n=>wpIn_cond hc (h1 rfl n)
 |false=>cases ro with
  |none=>exact wp_cond hc (h2 rfl)
  |some l=>exact fun n=>wpIn_cond hc (h2 rfl n)
theorem NA{id:Nat}{c:Code}(h:I0 ro P c (Exit.inBlock id Q) a w):I0 ro P (.block id c) Q a w:=by
 cases ro with
 |none=>exact wp_block h
 |some l=>exact fun n=>wpIn_block (h n)
theorem Ch{c:Code}(I:Nat->Act->World->Prop)(n₀:Nat)(h₀:I n₀ a w)(round:∀n a w,I n a w->I0 ro P c (Exit.then (fun a' w'=>∃n',n'<n/\I n' a' w') Q) a w):I0 ro P (.loop c) Q a w:=by
 cases ro with
 |none=>exact wp_loop_ghost I n₀ h₀ round
 |some l=>exact fun n=>wpIn_loop_ghost I n₀ h₀ fun k a w hI=>round k a w hI n
theorem WV{l n:Nat}{row:String}{args:Array Value}{R:Value->World->Prop}(h:Rows P row args w R):RowsIn (Fence.wide.inRound l) n P row args w R:=fun c cs _=>by
 obtain⟨v,w',r,s⟩:=h c cs
 exact⟨v,w',r,by rw[fenced_inRound];exact stepsIn_wide.2 s⟩
theorem UB{l n:Nat}{f:FuncId}{args:Array Value}{R:Ending->World->Prop}(h:Calls P f args w R):CallsIn (Fence.wide.inRound l) n P f args w R:=CallsIn.inRound l (callsIn_wide.2 h)
theorem SE{l n:Nat}{o:Oper}{next:Act->World->Prop}(hd:ft o=true)(h:o.wp P a w next Q):o.wpIn (Fence.wide.inRound l) n P a w next Q:=by
 refine⟨fun _ _=>trivial,?_⟩
 have hs:o.semAt (Fence.wide.inRound l).round a.eval=execOp a.eval o:=Oper.semAt_eq _ _ _ fun c hc=>by unfold ft at hd;rw[hc]at hd;cases hd
 rw[hs]
 unfold Oper.wp at h
 generalize (execOp a.eval o).run P w=r at *
 have hdep:(Fence.wide.inRound l).depth.isSome=true->1<=n:=fun h=>by simp[Fence.wide]at h
 cases r with
 | ok x w' =>
  cases x<;>simp only[Oper.upon]at h<;>simp only[Oper.uponIn]<;>first
   |exact h.elim
   |exact h
   |exact⟨hdep,UB h⟩
   |exact⟨hdep,WV h⟩
 |halt x w'=>cases x<;>simp only[Oper.upon]at h<;>simp only[Oper.uponIn]<;>exact h
theorem GM{l n:Nat}{ops:Array Oper}(hd:ops.toList.all ft=true)(hQ:¬LetsOut Q):∀(L:List Nat) (a:Act) (w:World),wpOps P ops Q L a w->wpOpsIn (Fence.wide.inRound l) n P ops Q L a w
 |[],a,w,h=>h
 | i :: rest,a,w,h => by
  unfold wpOps at h
  unfold wpOpsIn
  split at h
  ·rename_i ho;simp only[ho];exact GM hd hQ rest a w h
  ·rename_i o ho
   simp only[ho]
   have hn:ft o=true:=vau.1 hd o (by
    have:=vct ho
    simpa using this)
   split at h
   ·rename_i hw
    rw[vax hw]
    rcases h with h|h
    ·exact Oper.wpIn_mono (fun a w h=>GM hd hQ rest a w h) (SE hn h)
    ·exact absurd h.2 hQ
   ·rename_i hw
    rw[vaz hw]
    exact⟨fun _ _=>trivial,GM hd hQ rest _ w h⟩
theorem WK{l n:Nat}{ops:Array Oper}(hd:ops.toList.all ft=true)(hQ:¬LetsOut Q){i:Nat}{K:Act->World->Prop}(h:wpOp P ops Q i K a w):wpOpIn (Fence.wide.inRound l) n P ops Q i K a w:=by
 unfold wpOp at h
 unfold wpOpIn
 split at h
 ·rename_i ho;simp only[ho];exact h
 ·rename_i o ho
  simp only[ho]
  have hn:ft o=true:=vau.1 hd o (by
   have:=vct ho
   simpa using this)
  split at h
  ·rename_i hw
   rw[vax hw]
   rcases h with h|h
   ·exact SE hn h
   ·exact absurd h.2 hQ
  ·rename_i hw
   rw[vaz hw]
   exact⟨fun _ _=>trivial,h⟩
theorem PO{l n:Nat}{md:Region.Mode}{ops:Array Oper}(hd:ops.toList.all ft=true)(hQ:¬LetsOut Q):∀(fuel:Nat) (listed:Array Bool) (a:Act) (w:World),wpAny P md ops Q fuel listed a w->wpAnyIn (Fence.wide.inRound l) n P md ops Q fuel listed a w
 |0,_,_,_,h=>h
 |fuel+1,_,_,_,h=>⟨h.1,fun i hi=>wpOpIn_mono (fun a w h=>PO hd hQ fuel _ a w h) (WK hd hQ (h.2 i hi))⟩
theorem Ao{id:Nat}{ops:Array Oper}(hd:ops.toList.all ft=true)(hQ:¬LetsOut Q)(h:wpOps P ops Q (List.range ops.size) a w):I0 ro P (.region id ops false) Q a w:=by
 cases ro with
 |none=>exact wp_region h
 |some l=>exact fun n=>wpIn_region (GM hd hQ _ _ _ h)
theorem Ci{id:Nat}{ops:Array Oper}(hf:P.follows .mixedOrders=true)(hd:ops.toList.all ft=true)(hQ:¬LetsOut Q)
  (h:wpAny P .any ops Q ops.size (Array.replicate ops.size false) a {w with drawn:=w.drawn+1}):I0 ro P (.region id ops true) Q a w:=by
 cases ro with
 |none=>exact wp_region_any hf h
 |some l=>exact fun n=>wpIn_region_any hf (PO hd hQ _ _ _ _ h)
end
section plain
variable{σ X:Type}
def uJ(body:σ->Option (σ⊕X)):Nat->σ->Option X
 |0,_=>none
 |n+1,s=>match body s with
  |none=>none
  |some (.inl s')=>uJ body n s'
  |some (.inr x)=>some x
theorem LG{body:σ->Option (σ⊕X)}:∀{n:Nat} {s:σ} {x:X},uJ body n s=some x->∀k,uJ body (n+k) s=some x
 |0,_,_,h,_=>by cases h
 | n + 1,s,x,h,k => by
  rw[Nat.add_right_comm]
  unfold uJ at h ⊢
  split at h
  ·cases h
  ·exact LG h k
  ·exact h
theorem NM{body:σ->Option (σ⊕X)}{n m:Nat}{s:σ}{x y:X}(h1:uJ body n s=some x)(h2:uJ body m s=some y):x=y:=by
 have h3:=LG h1 m
 have h4:=LG h2 n
 rw[vcs]at h4
 exact vbj (h3.symm.trans h4)
open Classical in
def U3(body:σ->Option (σ⊕X))(s:σ):Option X:=if h:∃x n,uJ body n s=some x then some h.choose else none
def Wj:Nat:=2 ^ 200
def loop(body:σ->Option (σ⊕X))(s:σ):Option X:=match uJ body Wj s with
 |some x=>some x
 |none=>U3 body s
theorem Du{body:σ->Option (σ⊕X)}{s:σ}{x:X}:loop body s=some x↔∃n,uJ body n s=some x:=by
 have hC:U3 body s=some x↔∃n,uJ body n s=some x:=by
  unfold U3
  constructor
  ·intro h
   split at h
   ·rename_i he;cases h;exact he.choose_spec
   ·cases h
  ·rintro⟨n,h⟩
   have he:∃x n,uJ body n s=some x:=⟨x,n,h⟩
   rw[dif_pos he]
   obtain⟨m,hm⟩:=he.choose_spec
   rw[NM hm h]
 unfold loop
 split
 ·rename_i y hy
  exact⟨fun h=>⟨Wj,hy.trans h⟩,fun⟨n,h⟩=>va6 some (NM hy h)⟩
 ·exact hC
theorem lp(body:σ->Option (σ⊕X))(s:σ):loop body s=match body s with
  |none=>none
  |some (.inl s')=>loop body s'
  |some (.inr x)=>some x:=by
 have key:∀y,loop body s=some y↔(match body s with
  |none=>none
  |some (.inl s')=>loop body s'
  |some (.inr x)=>some x)=some y:=by
  intro y
  rw[Du]
  constructor
  ·rintro⟨n,h⟩
   cases n with
   |zero=>cases h
   | succ n =>
    unfold uJ at h
    cases hb:body s with
    |none=>rw[hb]at h;cases h
    |some v=>
     cases v with
     |inl s'=>rw[hb]at h;exact Du.2 ⟨n,h⟩
     |inr x=>rw[hb]at h;exact h
  ·intro h
   cases hb:body s with
   |none=>rw[hb]at h;cases h
   | some v =>
    cases v with
    |inl s'=>
     rw[hb]at h
     obtain⟨n,hn⟩:=Du.1 h
     exact⟨n+1,by unfold uJ;rw[hb];exact hn⟩
    |inr x=>rw[hb]at h;exact⟨1,by unfold uJ;rw[hb];exact h⟩
 cases h1:loop body s with
 | none =>
  cases h2:(match body s with
   |none=>none
   |some (.inl s')=>loop body s'
   |some (.inr x)=>some x)with
  |none=>rfl
  |some y=>rw[(key y).2 h2]at h1;cases h1
 |some y=>exact((key y).1 h1).symm
def eT{α:Type}(l:List α)(i:Int):Option α:=if 0<=i then l[i.toNat]? else none
theorem ck{α β:Type}{o:Option α}{k:α->Option β}{x:β}(h:o.bind k=some x):∃a,o=some a/\k a=some x:=by
 cases o with
 |none=>cases h
 |some a=>exact⟨a,rfl,h⟩
theorem Zb2{T0 T1 X:Type}{f0:Option T0}{f1:T0->Option T1}{g:T0->T1->Option X}{y:X}(h:(f0.bind fun x0=>(f1 x0).bind fun x1=>g x0 x1)=some y):∃x0,f0=some x0/\∃x1,f1 x0=some x1/\g x0 x1=some y:=by
 obtain⟨x0,b0,h⟩:=ck h
 obtain⟨x1,b1,h⟩:=ck h
 exact⟨x0,b0,x1,b1,h⟩
theorem Zb3{T0 T1 T2 X:Type}{f0:Option T0}{f1:T0->Option T1}{f2:T0->T1->Option T2}{g:T0->T1->T2->Option X}{y:X}(h:(f0.bind fun x0=>(f1 x0).bind fun x1=>(f2 x0 x1).bind fun x2=>g x0 x1 x2)=some y):∃x0,f0=some x0/\∃x1,f1 x0=some x1/\∃x2,f2 x0 x1=some x2/\g x0 x1 x2=some y:=by
 obtain⟨x0,b0,h⟩:=ck h
 obtain⟨x1,b1,h⟩:=ck h
 obtain⟨x2,b2,h⟩:=ck h
 exact⟨x0,b0,x1,b1,x2,b2,h⟩
theorem Zb4{T0 T1 T2 T3 X:Type}{f0:Option T0}{f1:T0->Option T1}{f2:T0->T1->Option T2}{f3:T0->T1->T2->Option T3}{g:T0->T1->T2->T3->Option X}{y:X}(h:(f0.bind fun x0=>(f1 x0).bind fun x1=>(f2 x0 x1).bind fun x2=>(f3 x0 x1 x2).bind fun x3=>g x0 x1 x2 x3)=some y):∃x0,f0=some x0/\∃x1,f1 x0=some x1/\∃x2,f2 x0 x1=some x2/\∃x3,f3 x0 x1 x2=some x3/\g x0 x1 x2 x3=some y:=by
 obtain⟨x0,b0,h⟩:=ck h
 obtain⟨x1,b1,h⟩:=ck h
 obtain⟨x2,b2,h⟩:=ck h
 obtain⟨x3,b3,h⟩:=ck h
 exact⟨x0,b0,x1,b1,x2,b2,x3,b3,h⟩
theorem aO{β:Type}{b:Bool}{x y:Option β}{z:β}(h:(if b=true then x else y)=some z):(b=true/\x=some z)\/(b=false/\y=some z):=by
 cases b
 ·exact .inr ⟨rfl,h⟩
 ·exact .inl ⟨rfl,h⟩
end plain
structure tC(GE:List (Nat×List PVal))(m:Nat)(E:rD):Prop where
 ge:E.GE=GE
 low:∀b n,E.Γ b=some n->b<E.w.heap.size
 nt:m=0->∀b,¬E.T b
 gl:∀g cs,(g,cs)∈GE->VR E.Γ [] E.w (.eptr cs) (.pointer (some ⟨g,0,none⟩))
def aW(P:Program)(GE:List (Nat×List PVal))(m:Nat)(c:Code)(Q:Exit->aB->Prop)(st:aB):Prop:=
 ∀(ro:Option Nat) (E:rD) (bs0:bD) (a:Act) (w:World),tC GE m E->bs0.length=m % 1000->Oo P E bs0 st a w->I0 ro P c (Nm P E bs0 a.defers Q) a w
def EX(e:Exit)(st:aB):Exit->aB->Prop:=fun e' st'=>e'=e/\st'=st
def Bq(P:Program)(m:Nat)(st st':aB):Prop:=∀(E:rD) (bs0:bD) (a:Act) (w:World),bs0.length=m % 1000->Oo P E bs0 st a w->Oo P E bs0 st' a w
section
variable{P:Program}{GE:List (Nat×List PVal)}{m:Nat}
theorem Bq.refl(st:aB):Bq P m st st:=fun _ _ _ _ _ h=>h
theorem Bq.trans{a b c:aB}(h:Bq P m a b)(h':Bq P m b c):Bq P m a c:=fun E bs0 x w hb h0=>h' E bs0 x w hb (h E bs0 x w hb h0)
theorem Bq.of_less{st st':aB}(h:YH st st')(hm:m % 1000<=st'.boxes.length):Bq P m st st':=fun _ _ _ _ hb hR=>hR.less h (by rw[hb];exact hm)
theorem aW.mono{c:Code}{Q Q':Exit->aB->Prop}{st:aB}(h:aW P GE m c Q st)(hq:∀e st,Q e st->∃st',Bq P m st st'/\Q' e st'):aW P GE m c Q' st:=
 fun ro E bs0 a w hE hb hR=>lA (h ro E bs0 a w hE hb hR) fun e a' w' hP=>by
  obtain⟨hd,st1,hR1,hQ⟩:=hP
  obtain⟨st2,hw,hQ2⟩:=hq e st1 hQ
  exact⟨hd,st2,hw E bs0 a' w' hb hR1,hQ2⟩
theorem aW.imp{c:Code}{Q Q':Exit->aB->Prop}{st:aB}(h:aW P GE m c Q st)(hq:∀e st,Q e st->Q' e st):aW P GE m c Q' st:=h.mono fun e st hQ=>⟨st,.refl st,hq e st hQ⟩
theorem aW.weak{c:Code}{Q:Exit->aB->Prop}{st st':aB}(hw:Bq P m st st')(h:aW P GE m c Q st'):aW P GE m c Q st:=
 fun ro E bs0 a w hE hb hR=>h ro E bs0 a w hE hb (hw E bs0 a w hb hR)
theorem aW.skip{Q:Exit->aB->Prop}{st:aB}(h:Q .normal st):aW P GE m .skip Q st:=fun _ _ _ _ _ _ _ hR=>P1 ⟨rfl,st,hR,h⟩
theorem aW.label{l:Nat}{Q:Exit->aB->Prop}{st:aB}(h:Q .normal st):aW P GE m (.label l) Q st:=fun _ _ _ _ _ _ _ hR=>Td ⟨rfl,st,hR,h⟩
theorem aW.exit{id:Nat}{Q:Exit->aB->Prop}{st:aB}(h:Q (.exit id) st):aW P GE m (.exit id) Q st:=fun _ _ _ _ _ _ _ hR=>P0 ⟨rfl,st,hR,h⟩
theorem aW.ret{Q:Exit->aB->Prop}{st:aB}(h:Q .ret st):aW P GE m .ret Q st:=fun _ _ _ _ _ _ _ hR=>Wr ⟨rfl,st,hR,h⟩
theorem aW.seq{x y:Code}{Q:Exit->aB->Prop}{st:aB}(h:aW P GE m x (fun e st'=>match e with|.normal=>aW P GE m y Q st'|e=>Q e st') st):aW P GE m (.seq x y) Q st:=by
 intro ro E bs0 a w hE hb hR
 refine Gi (lA (h ro E bs0 a w hE hb hR) fun e a' w' hq=>?_)
 obtain⟨hd,st',hR',hq⟩:=hq
 cases e with
 |normal=>
  have:=hq ro E bs0 a' w' hE hb hR'
  rw[hd]at this
  exact this
 |exit id=>exact⟨hd,st',hR',hq⟩
 |goto l=>exact⟨hd,st',hR',hq⟩
 |ret=>exact⟨hd,st',hR',hq⟩
 |panic c=>exact⟨hd,st',hR',hq⟩
 |outgrown=>exact⟨hd,st',hR',hq⟩
theorem aW.cond{c:Operand}{x y:Code}{Q:Exit->aB->Prop}{st:aB}{t:Bool}(hv:opv GE st.tmps c=.bool t)(h1:t=true->aW P GE m x Q st)(h2:t=false->aW P GE m y Q st):aW P GE m (.cond c x y) Q st:=by
 intro ro E bs0 a w hE hb hR
 obtain⟨Γ,bs,ow,h,hk⟩:=hR
 have hv':=h.opv a.defers c
 rw[hE.ge,hv]at hv'
 generalize hc:(Act.mk a.tmps a.defers).eval c=vc at hv'
 cases hv'
 exact Lj (t:=t) hc (fun ht=>h1 ht ro E bs0 a w hE hb ⟨Γ,bs,ow,h,hk⟩) (fun ht=>h2 ht ro E bs0 a w hE hb ⟨Γ,bs,ow,h,hk⟩)
theorem aW.block{id:Nat}{c:Code}{Q:Exit->aB->Prop}{st:aB}(h:aW P GE m c (Rj id Q) st):aW P GE m (.block id c) Q st:=by
 intro ro E bs0 a w hE hb hR
 refine NA (lA (h ro E bs0 a w hE hb hR) fun e a' w' hq=>?_)
 obtain⟨hd,st',hR',hq⟩:=hq
 cases e with
 | exit id' =>
  simp only[Rj]at hq
  simp only[Exit.inBlock]
  split at hq
  ·rename_i hid;rw[vax hid];exact⟨hd,st',hR',hq⟩
  ·rename_i hid;rw[vaz hid];exact⟨hd,st',hR',hq⟩
 |normal=>exact⟨hd,st',hR',hq⟩
 |goto l=>exact⟨hd,st',hR',hq⟩
 |ret=>exact⟨hd,st',hR',hq⟩
 |panic c=>exact⟨hd,st',hR',hq⟩
 |outgrown=>exact⟨hd,st',hR',hq⟩
theorem aW.text{A:List Nat}{id:Nat}{ops:Array Oper}{Q:Exit->aB->Prop}{st:aB}(hd:ops.toList.all ft=true)
  (h:dn P GE A ops (Q .normal) ops.toList st.boxes.length {st with boxes:=st.boxes++gb P ops.toList}):aW P GE m (.region id ops false) Q st:=by
 intro ro E bs0 a w hE hb hR
 obtain⟨rfl,_,_,_⟩:=hE
 refine lA (Ao (Q:=fun e a' w'=>e=.normal/\Nm P E bs0 a.defers Q .normal a' w') hd (by rintro⟨_,_,h,_⟩;cases h) ?_) fun e a' w' hq=>by obtain⟨rfl,hq⟩:=hq;exact hq
 exact EC hR hR.len (fun a' w' st' hd hR' hK=>⟨rfl,hd,st',hR',hK⟩) h
def LQ{σ X:Type}(S:σ->aB)(ex:X->Exit)(so:X->aB):σ⊕X->Exit->aB->Prop
 |.inl s,e,st=>e=.normal/\st=S s
 |.inr x,e,st=>e≠.normal/\e=ex x/\st=so x
theorem aW.loop{σ X:Type}{S:σ->aB}{ex:X->Exit}{so:X->aB}{body:σ->Option (σ⊕X)}{c:Code}{s:σ}{x:X}(h:loop body s=some x)
  (hb:∀s y,body s=some y->aW P GE m c (LQ S ex so y) (S s)):aW P GE m (.loop c) (EX (ex x) (so x)) (S s):=by
 obtain⟨n,hn⟩:=Du.1 h
 intro ro E bs0 a w hE hb0 hR
 refine Ch (fun k a' w'=>a'.defers=a.defers/\∃s',Oo P E bs0 (S s') a' w'/\uJ body k s'=some x) n ⟨rfl,s,hR,hn⟩ ?_
 intro k a1 w1 hI
 obtain⟨hd1,s1,hR1,hl⟩:=hI
 cases k with
 |zero=>cases hl
 | succ k =>
  unfold uJ at hl
  split at hl
  ·cases hl
  ·rename_i s2 hs2
   refine lA (hb s1 _ hs2 ro E bs0 a1 w1 hE hb0 hR1) fun e a' w' hq=>?_
   obtain⟨hd,st',hR',rfl,rfl⟩:=hq
   exact⟨k,vb1 k,hd.trans hd1,s2,hR',hl⟩
  ·rename_i x2 hs2
   cases hl
   refine lA (hb s1 _ hs2 ro E bs0 a1 w1 hE hb0 hR1) fun e a' w' hq=>?_
   obtain⟨hd,st',hR',hne,rfl,rfl⟩:=hq
   have hd':=hd.trans hd1
   cases hex:ex x with
   |normal=>exact absurd hex hne
   |exit id=>exact⟨hd',_,hR',rfl,rfl⟩
   |goto l=>exact⟨hd',_,hR',rfl,rfl⟩
   |ret=>exact⟨hd',_,hR',rfl,rfl⟩
   |panic c=>exact⟨hd',_,hR',rfl,rfl⟩
   |outgrown=>exact⟨hd',_,hR',rfl,rfl⟩
def NF:List PVal->List PVal->List PVal
 |[],_=>[]
 |_::ps,[]=>.undef::NF ps []
 |_::ps,.undef::qs=>.undef::NF ps qs
 |p::ps,_::qs=>p::NF ps qs
def Cj:aC->aC->aC
 |_,.dead=>.dead
 |.cells cs own,.cells _ own'=>.cells cs (match own'.all fun x=>decide (x∈own)with
  |true=>own'
  |false=>own)
 |p,_=>p
def PC:List aC->List aC->List aC
 |[],_=>[]
 |p::ps,[]=>p::PC ps []
 |p::ps,q::qs=>Cj p q::PC ps qs
def qbx(B B':aC):Prop:=B=.dead\/B=B'\/∃cs own own',B'=.cells cs own/\B=.cells cs own'/\∀x∈own',x∈own
theorem Sr(p q:aC):qbx (Cj p q) p:=by
 unfold Cj
 split
 ·exact .inl rfl
 ·split
  ·rename_i h
   exact .inr (.inr ⟨_,_,_,rfl,rfl,fun x hx=>by simpa using vau.1 h x hx⟩)
  ·exact .inr (.inl rfl)
 ·exact .inr (.inl rfl)
theorem P5(p:PVal)(ps qs:List PVal):∃q r,NF (p::ps) qs=q::NF ps r/\(q=.undef\/q=p):=by
 cases qs with
 |nil=>exact⟨_,[],by simp[NF],.inl rfl⟩
 |cons q qs=>cases q<;>first|(refine⟨p,qs,?_,.inr rfl⟩;simp only[NF];done)|(refine⟨.undef,qs,?_,.inl rfl⟩;simp only[NF];done)
theorem OQ:∀{l bs:List PVal} {i:Nat} {p:PVal},(NF l bs)[i]? =some p->p=.undef\/l[i]? =some p
 |[],bs,i,p,h=>by simp[NF]at h
 |q::l,bs,i,p,h=>by
  obtain⟨q',r,h1,h2⟩:=P5 q l bs
  rw[h1]at h
  cases i with
  |zero=>simp at h;subst h;rcases h2 with h2|h2<;>simp[h2]
  |succ i=>simpa using OQ (by simpa using h)
theorem OR:∀{l bs:List PVal},(NF l bs).length=l.length
 |[],bs=>by simp[NF]
 |q::l,bs=>by obtain⟨q',r,h1,h2⟩:=P5 q l bs;rw[h1];simp[OR]
theorem Kr:∀{l bs:List aC} {i:Nat} {B:aC},(PC l bs)[i]? =some B->∃B',l[i]? =some B'/\qbx B B'
 |[],bs,i,p,h=>by simp[PC]at h
 |q::l,[],i,B,h=>by
  simp only[PC]at h
  cases i with
  |zero=>simp at h;subst h;exact⟨q,rfl,.inr (.inl rfl)⟩
  |succ i=>simpa using Kr (by simpa using h)
 |q::l,r::bs,i,B,h=>by
  simp only[PC]at h
  cases i with
  |zero=>simp at h;subst h;exact⟨q,rfl,Sr q r⟩
  |succ i=>simpa using Kr (by simpa using h)
theorem OP:∀{l bs:List aC},(PC l bs).length=l.length
 |[],bs=>by simp[PC]
 |q::l,[]=>by simp only[PC,vaO,OP]
 |q::l,r::bs=>by simp only[PC,vaO,OP]
theorem Bq.forget{st:aB}(bt:List PVal)(bb:List aC)(own:List ((Nat×Nat)×TypeId))(ho:∀x∈own,x∈st.own):Bq P m st ⟨NF st.tmps bt,PC st.boxes bb,own⟩:=by
 intro E bs0 a w hb hR
 obtain⟨Γ,bs,ow,h,hk⟩:=hR
 refine⟨Γ,bs,ow,?_,hk⟩
 exact{h with
  sz:=by rw[h.sz];exact OR.symm
  tm:=fun t p v hp hv=>by
   rcases OQ hp with rfl|hp'
   ·exact .undef v
   ·exact h.tm t p v hp' hv
  bl:=by rw[h.bl];exact OP.symm
  bx:=fun i b B hib hB=>by
   obtain⟨B',hB',hx⟩:=Kr hB
   obtain⟨k1,k2,k3⟩:=h.bx i b B' hib hB'
   rcases hx with rfl|rfl|⟨cs,own,own',rfl,rfl,_⟩
   ·exact⟨k1,k2,trivial⟩
   ·exact⟨k1,k2,k3⟩
   ·exact⟨k1,k2,k3⟩
  ot:=fun t k e he=>h.ot t k e (ho _ he)
  ob:=fun i j e cs own' b hB hj hib=>by
   obtain⟨B',hB',hx⟩:=Kr hB
   rcases hx with hx|rfl|⟨cs1,sG,own2,rfl,e2,hs⟩
   ·cases hx
   ·exact h.ob i j e cs own' b hB' hj hib
   ·cases e2;exact h.ob i j e _ sG b hB' (hs _ hj) hib}
theorem EX.of{c:Code}{e:Exit}{st st0:aB}{Q:Exit->aB->Prop}(h:aW P GE m c (EX e st0) st)(hq:Q e st0):aW P GE m c Q st:=
 h.imp fun e' st' hx=>by obtain⟨rfl,rfl⟩:=hx;exact hq
end
structure GC where
 ρ:List Nat
 argsC:List PVal
 oa:List OA
 Bs:List aC
 Hc:List aC
 Bs':List aC
 Hc':List aC
 r:PVal
 rc:PVal
 ro:List (Nat×TypeId)
inductive It where
 |cg (c:GC)
 |cn (c:GC)
 |ar (i:Nat) (e:TypeId) (n:Nat) (cs:List PVal)
 |fz (i:Nat) (es:List (List PVal)) (lv rk:List Nat)
 |g (j:Nat) (b:Bool)
 |k
 |s
 |v (p:PVal)
 |x (cs:List PVal)
 |w (i:Nat) (B:aC)
 |c (r:PVal) (ro:List (Nat×TypeId))
 |dr (an:List Nat)
 |dx (an:List Nat) (X:List aC) (br:List (Nat×Nat)) (rw:List Nat)
 |pa (n:Nat)
 |pc (st0:aB) (e:Exit) (st1:aB)
 |b (p:PVal) (L:List (Nat×TypeId))
 |y (vs:List PVal)
 |z (l:List PVal)
 |e (vs:List PVal)
def yJ:List PVal->Nat->(PVal->Prop)->Prop
 |[],_,k=>k .undef
 |p::_,0,k=>k p
 |_::l,n+1,k=>yJ l n k
theorem jS:∀(l:List PVal) (n:Nat) (k:PVal->Prop),yJ l n k=k (l.getD n .undef)
 |[],_,_=>by simp[yJ]
 |_::_,0,_=>by simp[yJ]
 |_::l,n+1,k=>by simp only[yJ,jS l n k,List.getD_cons_succ]
def gW{α:Type}:List α->Nat->α->(List α->Prop)->Prop
 |[],_,_,k=>k []
 |_::l,0,v,k=>k (v::l)
 |x::l,n+1,v,k=>gW l n v fun l'=>k (x::l')
theorem bL{α:Type}:∀(l:List α) (n:Nat) (v:α) (k:List α->Prop),gW l n v k=k (l.set n v)
 |[],_,_,_=>by simp[gW]
 |_::_,0,_,_=>by simp[gW]
 |x::l,n+1,v,k=>by simp only[gW,bL l n v,List.set_cons_succ]
def bI{α:Type}:List α->(List α->Prop)->Prop
 |[],k=>k []
 |x::l,k=>bI l fun l'=>k (x::l')
def JW(l:List aC)(r:List aC)(k:List aC->Prop):Prop:=bI (l++r) k
theorem aP{α:Type}:∀(l:List α) (k:List α->Prop),bI l k=k l
 |[],_=>rfl
 |x::l,k=>by simp only[bI,aP l]
def Xs:Value->(PVal->Prop)->Prop
 |.int a n,k=>k (.int a n)
 |.bool b,k=>k (.bool b)
 |.string s,k=>bI s.data.toList fun l=>k (.str l)
 |v,k=>k (absV v)
theorem V6(v:Value)(k:PVal->Prop):Xs v k=k (absV v):=by
 unfold Xs
 split
 ·rfl
 ·rfl
 ·rw[aP];rfl
 ·rfl
def pQ(GE:List (Nat×List PVal))(tmps:List PVal)(x:Operand)(k:PVal->Prop):Prop:=
 match x with
 |.tmp t=>yJ tmps t k
 |.const v=>Xs v k
 |x=>k (opv GE tmps x)
theorem b7(GE:List (Nat×List PVal))(tmps:List PVal)(x:Operand)(k:PVal->Prop):pQ GE tmps x k=k (opv GE tmps x):=by
 cases x with
 |tmp t=>exact jS _ _ _
 |const v=>exact V6 _ _
 |global g=>rfl
 |func f=>rfl
def LU(GE:List (Nat×List PVal))(tmps:List PVal):List Operand->(List PVal->Prop)->Prop
 |[],k=>k []
 |x::l,k=>pQ GE tmps x fun p=>LU GE tmps l fun ps=>k (p::ps)
theorem pl(GE:List (Nat×List PVal))(tmps:List PVal):∀(l:List Operand) (k:List PVal->Prop),LU GE tmps l k=k (l.map (opv GE tmps))
 |[],_=>rfl
 |x::l,k=>by simp only[LU,b7,pl GE tmps l,vaD]
def yN(GE:List (Nat×List PVal))(tmps:List PVal):List (Nat×Operand)->(List (Nat×PVal)->Prop)->Prop
 |[],k=>k []
 |x::l,k=>pQ GE tmps x.2 fun p=>yN GE tmps l fun ps=>k ((x.1,p)::ps)
theorem pR(GE:List (Nat×List PVal))(tmps:List PVal):∀(l:List (Nat×Operand)) (k:List (Nat×PVal)->Prop),yN GE tmps l k=k (l.map fun x=>(x.1,opv GE tmps x.2))
 |[],_=>rfl
 |x::l,k=>by simp only[yN,b7,pR GE tmps l,vaD]
def WL(GE:List (Nat×List PVal))(tmps:List PVal):Option Operand->(Option PVal->Prop)->Prop
 |none,k=>k none
 |some x,k=>pQ GE tmps x fun p=>k (some p)
theorem WM(GE:List (Nat×List PVal))(tmps:List PVal)(o:Option Operand)(k:Option PVal->Prop):WL GE tmps o k=k (o.map (opv GE tmps)):=by
 cases o with
 |none=>rfl
 |some x=>simp only[WL,b7,vag]
def FT(sc:List It)(f:PVal->Prop)(K:PVal->List It->Prop):Prop:=
 match sc with
 |.v p::sc'=>f p/\K p sc'
 |_=>False
def M4(o:Option PVal)(K:PVal->Prop):Prop:=
 match o with
 |some p=>K p
 |none=>False
theorem xS{o:Option PVal}{K:PVal->Prop}(h:M4 o K):∃p,o=some p/\K p:=by
 unfold M4 at h
 split at h
 ·exact⟨_,rfl,h⟩
 ·exact h.elim
theorem nR{sc:List It}{f:PVal->Prop}{K:PVal->List It->Prop}(h:FT sc f K):∃p sc',f p/\K p sc':=by
 unfold FT at h
 split at h
 ·exact⟨_,_,h⟩
 ·exact h.elim
def CC(P:Program)(GE:List (Nat×List PVal))(g:FuncId)(args:List PVal)(r:PVal)(ro:List (Nat×TypeId)):Prop:=jl 0 args/\C P GE g args [] [] r ro []
def LZ(P:Program)(t:TypeId)(es:List (PVal×PVal))(k:PVal)(ok:Bool):Option PVal:=
 match P.underlying t with
 | some (.map kt e) => match P.underlying kt with
  | some kd =>
   if oZ kd k then
    match CB k es 0,Ip P e with
    |some (some (_,v)),_=>some (if ok then .tuple [v,.bool true]else v)
    |some none,some z=>some (if ok then .tuple [z,.bool false]else z)
    |_,_=>none
   else none
  |_=>none
 |_=>none
theorem TO{P:Program}{t:TypeId}{es:List (PVal×PVal)}{k p:PVal}{ok:Bool}{H:List aC}{i:Nat}(hB:H[i]? =some (.map es))(h:LZ P t es k ok=some p):ya P t (.mapr i) k ok H=some p:=by
 unfold LZ at h
 unfold ya
 split at h
 ·rename_i kt e hu
  split at h
  ·rename_i kd hk
   simp only[hu,hB,hk]
   exact h
  ·cases h
 ·cases h
def NZ(P:Program)(t:TypeId)(es:List (PVal×PVal))(k v:PVal):Option (List (PVal×PVal)):=
 match P.underlying t with
 | some (.map kt _) => match P.underlying kt with
  | some kd =>
   if oZ kd k then
    match CB k es 0 with
    |some (some (j,_))=>some (es.set j (k,v))
    |some none=>some (es++[(k,v)])
    |none=>none
   else none
  |_=>none
 |_=>none
theorem QN{P:Program}{t:TypeId}{es es':List (PVal×PVal)}{k v:PVal}{H:List aC}{i:Nat}(hB:H[i]? =some (.map es))(h:NZ P t es k v=some es'):i8 P t (.mapr i) k v H=some (H.set i (.map es')):=by
 unfold NZ at h
 unfold i8
 split at h
 ·rename_i kt e hu
  split at h
  ·rename_i kd hk
   simp only[hu,hB,hk]
   split at h
   ·rename_i hkk
    rw[vax hkk]
    split at h
    ·rename_i hf;cases h;simp[hf]
    ·rename_i hf;cases h;simp[hf]
    ·cases h
   ·cases h
  ·cases h
 ·cases h
def mz:List aC->Nat->(aC->Prop)->Prop
 |[],_,_=>False
 |B::_,0,k=>k B
 |_::l,n+1,k=>mz l n k
theorem eO:∀{l:List aC} {n:Nat} {k:aC->Prop},mz l n k->∃B,l[n]? =some B/\k B
 |[],_,_,h=>h.elim
 |B::_,0,_,h=>⟨B,rfl,h⟩
 |_::l,n+1,k,h=>by simp only[mz]at h;obtain⟨B,h1,h2⟩:=eO h;exact⟨B,by simpa using h1,h2⟩
def Ts(op:BinOp)(x:PVal):Bool:=match op,x with
 |.quo,_=>true
 |.rem,_=>true
 |.add,.str _=>true
 |_,.agg _=>true
 |_,_=>false
def Sp(P:Program)(GE:List (Nat×List PVal))(op:Op)(tmps:List PVal)(H:List aC)(sc:List It)(K:PVal->List aC->List It->Prop):Prop:=
 match op with
 |.move x=>pQ GE tmps x fun p=>K p H sc
 |.assign x=>pQ GE tmps x fun p=>K p H sc
 |.pick c x y=>pQ GE tmps c fun pc=>match pc with
  |.bool true=>pQ GE tmps x fun p=>K p H sc
  |.bool false=>pQ GE tmps y fun p=>K p H sc
  |_=>False
 |.binOp op T x y _=>pQ GE tmps x fun vx=>pQ GE tmps y fun vy=>match Ts op vx with
  |true=>FT sc (fun p=>M8 P op T vx vy=some p) fun p sc'=>K p H sc'
  |false=>M4 (M8 P op T vx vy) fun p=>K p H sc
 |.unOp op _ x=>pQ GE tmps x fun vx=>M4 (ZY op vx) fun p=>K p H sc
 |.convert s d x=>pQ GE tmps x fun vx=>FT sc (fun p=>SH P s d vx=some p) fun p sc'=>K p H sc'
 |.extract t i=>pQ GE tmps t fun vt=>M4 (wK vt i) fun p=>K p H sc
 |.nilCheck x=>pQ GE tmps x fun vx=>match vx with
  |.eptr cs=>K (.eptr cs) H sc
  |.bptr i off=>K (.bptr i off) H sc
  |.func (.func f) first cap=>K (.func (.func f) first cap) H sc
  |_=>False
 |.makeFunc fn first cap=>LU GE tmps first.toList fun f=>LU GE tmps cap.toList fun c=>K (.func fn f c) H sc
 | .load t x => pQ GE tmps x fun vx => match vx with
  |.eptr cs=>FT sc (fun p=>bo P t cs=some p) fun p sc'=>K p H sc'
  | .bptr i off => mz H i fun B => match B with
   |.cells cs _=>match sc with
    |.s::sc'=>M4 (bo P t (cs.drop off)) fun p=>K p H sc'
    |.v p::sc'=>bo P t (cs.drop off)=some p/\K p H sc'
    |_=>False
   |_=>False
  |_=>False
 | .store t x y => pQ GE tmps x fun vx => pQ GE tmps y fun vy => match vx,sc with
  | .bptr i off,.s :: sc' => match ct vy with
   | some vs => mz H i fun B => match B with
    |.cells cs own=>match decide (vs.length=P.cellsOf t)&&(P.info? t).isSome&&decide (off+vs.length<=cs.length)&&vs.all PVal.one with
     |true=>bI (cs.take off++vs++cs.drop (off+vs.length)) fun cs'=>gW H i (.cells cs' (own.filter fun y=>y.1<off||off+vs.length<=y.1)) fun H'=>K (.val undef) H' sc'
     |false=>False
    |_=>False
   |none=>False
  | .bptr i off,.x vs :: sc' => ct vy = some vs∧(mz H i fun B => match B with
    |.cells cs own=>match decide (vs.length=P.cellsOf t)&&(P.info? t).isSome&&decide (off+vs.length<=cs.length)&&vs.all PVal.one with
     |true=>bI (cs.take off++vs++cs.drop (off+vs.length)) fun cs'=>gW H i (.cells cs' (own.filter fun y=>y.1<off||off+vs.length<=y.1)) fun H'=>K (.val undef) H' sc'
     |false=>False
    |_=>False)
  |.bptr i off,.w _ (.cells cs' own')::sc'=>mz H i fun B=>(fo P t (.bptr 0 off) vy [B]=some [.cells cs' own'])/\gW H i (.cells cs' own') fun H'=>K (.val undef) H' sc'
  |_,_=>False
 |.fieldAddr s x f=>pQ GE tmps x fun vx=>match vx with
  |.bptr i off=>M4 (aR P s (.bptr i off) f) fun p=>K p H sc
  |vx=>FT sc (fun p=>aR P s vx f=some p) fun p sc'=>K p H sc'
 |.field t x f=>pQ GE tmps x fun vx=>FT sc (fun p=>Pl P t vx f=some p) fun p sc'=>K p H sc'
 |.indexAddr t x i=>pQ GE tmps x fun vx=>pQ GE tmps i fun vi=>FT sc (fun p=>sI P t vx vi=some p) fun p sc'=>K p H sc'
 |.index t x i=>pQ GE tmps x fun vx=>pQ GE tmps i fun vi=>FT sc (fun p=>AB P t vx vi=some p) fun p sc'=>K p H sc'
 | .lookup t m k ok => pQ GE tmps m fun vm => pQ GE tmps k fun vk => match vm with
  |.mapr i=>mz H i fun B=>match B with
   |.map es=>FT sc (fun p=>LZ P t es vk ok=some p) fun p sc'=>K p H sc'
   |_=>False
  |_=>False
 | .mapUpdate t m k x => pQ GE tmps m fun vm => pQ GE tmps k fun vk => pQ GE tmps x fun vx => match vm,sc with
  |.mapr i,.w _ (.map es')::sc'=>mz H i fun B=>match B with
   |.map es=>NZ P t es vk vx=some es'/\gW H i (.map es') fun H'=>K (.val undef) H' sc'
   |_=>False
  |_,_=>False
 |.slice t x lo hi none=>pQ GE tmps x fun vx=>WL GE tmps lo fun vl=>WL GE tmps hi fun vh=>FT sc (fun p=>CF P t vx vl vh none=some p) fun p sc'=>K p H sc'
 |.build t parts=>yN GE tmps parts.toList fun ps=>FT sc (fun p=>dG P t ps=some p) fun p sc'=>K p H sc'
 |.buildSlice t len parts=>yN GE tmps parts.toList fun ps=>FT sc (fun p=>gV P t len ps=some p) fun p sc'=>K p H sc'
 | .call { callee := .builtin .len,args:=⟨[x]⟩,argTypes:=⟨[t]⟩ } => pQ GE tmps x fun vx => match vx with
  |.mapr i=>mz H i fun B=>match B with
   |.map es=>FT sc (fun p=>p=.int .i64 es.length/\(P.underlying t).any (fun d=>match d with|.map _ _=>true|_=>false)=true) fun p sc'=>K p H sc'
   |_=>False
  |vx=>FT sc (fun p=>∀H,Fo P t vx H=some p) fun p sc'=>K p H sc'
 |.call {callee:=.builtin .max,args:=⟨x::r⟩,..}=>pQ GE tmps x fun vx=>LU GE tmps r fun vr=>M4 (Jc SJ vx vr) fun p=>K p H sc
 |.call {callee:=.builtin .min,args:=⟨x::r⟩,..}=>pQ GE tmps x fun vx=>LU GE tmps r fun vr=>M4 (Jc SK vx vr) fun p=>K p H sc
 |_=>False
section
variable{P:Program}{GE:List (Nat×List PVal)}
theorem TT{t:TypeId}{off i:Nat}{y:PVal}{H:List aC}{B:aC}{cs':List PVal}{own':List (Nat×TypeId)}(hB:H[i]? =some B)(h:fo P t (.bptr 0 off) y [B]=some [.cells cs' own']):fo P t (.bptr i off) y H=some (H.set i (.cells cs' own')):=by
 unfold fo at h ⊢
 split at h
 ·rename_i i' off' vs h1 h2
  cases h1
  simp only[h2]
  change (match(some B:Option aC)with|some (.cells cs own)=>_|_=>none)=_ at h
  rw[hB]
  split at h
  ·rename_i hb
   cases hb
   simp only
   split at h
   ·rename_i hc
    rw[vax hc]
    simp only[List.set_cons_zero,vat,vbH,vcj]at h
    rw[h]
   ·cases h
  ·cases h
 ·cases h
theorem Vo(t:TypeId)(id:Nat)(v:Operand->PVal)(x:Operand)(H:List aC):tz P (.load t x) id v H=(kV P t (v x) H).map fun p=>(p,H):=rfl
theorem I3{op:Op}{id:Nat}{tmps:List PVal}{H:List aC}{sc:List It}{K:PVal->List aC->List It->Prop}(h:Sp P GE op tmps H sc K):∃p H' sc',tz P op id (opv GE tmps) H=some (p,H')/\K p H' sc'/\H'.length=H.length:=by
 unfold Sp at h
 split at h
 case h_1=>rw[b7]at h;exact⟨_,_,_,rfl,h,rfl⟩
 case h_2=>rw[b7]at h;exact⟨_,_,_,rfl,h,rfl⟩
 case h_3 c x y=>
  rw[b7]at h
  split at h
  ·rename_i hc;rw[b7]at h;exact⟨_,_,_,by simp only[tz,hc],h,rfl⟩
  ·rename_i hc;rw[b7]at h;exact⟨_,_,_,by simp only[tz,hc],h,rfl⟩
  ·exact h.elim
 case h_4=>
  simp only[b7]at h
  split at h
  ·obtain⟨p,sc',h1,h2⟩:=nR h;exact⟨p,_,sc',by simp only[tz,h1,vag],h2,rfl⟩
  ·obtain⟨p,h1,h2⟩:=xS h;exact⟨p,_,_,by simp only[tz,h1,vag],h2,rfl⟩
 case h_5=>simp only[b7]at h;obtain⟨p,h1,h2⟩:=xS h;exact⟨p,_,_,by simp only[tz,h1,vag],h2,rfl⟩
 case h_6=>simp only[b7]at h;obtain⟨p,sc',h1,h2⟩:=nR h;exact⟨p,_,sc',by simp only[tz,h1,vag],h2,rfl⟩
 case h_7=>simp only[b7]at h;obtain⟨p,h1,h2⟩:=xS h;exact⟨p,_,_,by simp only[tz,h1,vag],h2,rfl⟩
 case h_8=>
  simp only[b7]at h
  split at h
  ·rename_i hv;exact⟨_,_,_,by simp only[tz,hv],h,rfl⟩
  ·rename_i hv;exact⟨_,_,_,by simp only[tz,hv],h,rfl⟩
  ·rename_i hv;exact⟨_,_,_,by simp only[tz,hv],h,rfl⟩
  ·exact h.elim
 case h_9=>simp only[pl]at h;exact⟨_,_,_,rfl,h,rfl⟩
 case h_10 t x=>
  simp only[b7]at h
  rw[Vo]
  split at h
  ·rename_i cs hv
   obtain⟨p,sc',h1,h2⟩:=nR h
   exact⟨p,_,sc',by simp only[hv,kV,h1,vag],h2,rfl⟩
  ·rename_i i off hv
   obtain⟨B,hB,h⟩:=eO h
   split at h
   ·rename_i cs own
    split at h
    ·obtain⟨p,h1,h2⟩:=xS h
     exact⟨p,_,_,by simp only[hv,kV,hB,h1,vag],h2,rfl⟩
    ·exact⟨_,_,_,by simp only[hv,kV,hB,h.1,vag],h.2,rfl⟩
    ·exact h.elim
   ·exact h.elim
  ·exact h.elim
 case h_11 t x y=>
  simp only[b7]at h
  split at h
  ·rename_i i off sc' hv
   split at h
   ·rename_i vs hvs
    obtain⟨B,hB,h⟩:=eO h
    split at h
    ·rename_i cs own
     split at h
     ·rename_i hc
      simp only[aP,bL]at h
      simp only[vad,vai]at hc
      exact⟨_,_,_,by simp only[tz,fo,hv,hvs,hB];rw[vax ⟨hc.1.1.1,hc.1.1.2,hc.1.2,hc.2⟩];rfl,h,by simp⟩
     ·exact h.elim
    ·exact h.elim
   ·exact h.elim
  ·rename_i i off vs sc' hv
   obtain⟨hvs,h⟩:=h
   obtain⟨B,hB,h⟩:=eO h
   split at h
   ·rename_i cs own
    split at h
    ·rename_i hc
     simp only[aP,bL]at h
     simp only[vad,vai]at hc
     exact⟨_,_,_,by simp only[tz,fo,hv,hvs,hB];rw[vax ⟨hc.1.1.1,hc.1.1.2,hc.1.2,hc.2⟩];rfl,h,by simp⟩
    ·exact h.elim
   ·exact h.elim
  ·rename_i i off j cs' own' sc' hv
   obtain⟨B,hB,h1,h2⟩:=eO h
   rw[bL]at h2
   exact⟨_,_,_,by simp only[tz,hv,TT hB h1];rfl,h2,by simp⟩
  ·exact h.elim
 case h_12=>
  simp only[b7]at h
  split at h
  ·rename_i hv
   obtain⟨p,h1,h2⟩:=xS h;exact⟨p,_,_,by simp only[tz,hv,h1,vag],h2,rfl⟩
  ·obtain⟨p,sc',h1,h2⟩:=nR h;exact⟨p,_,sc',by simp only[tz,h1,vag],h2,rfl⟩
 case h_13=>simp only[b7]at h;obtain⟨p,sc',h1,h2⟩:=nR h;exact⟨p,_,sc',by simp only[tz,h1,vag],h2,rfl⟩
 case h_14=>simp only[b7]at h;obtain⟨p,sc',h1,h2⟩:=nR h;exact⟨p,_,sc',by simp only[tz,h1,vag],h2,rfl⟩
 case h_15=>simp only[b7]at h;obtain⟨p,sc',h1,h2⟩:=nR h;exact⟨p,_,sc',by simp only[tz,h1,vag],h2,rfl⟩
 case h_16 t m k ok=>
  simp only[b7]at h
  split at h
  ·rename_i i hv
   obtain⟨B,hB,h⟩:=eO h
   split at h
   ·rename_i es
    obtain⟨p,sc',h1,h2⟩:=nR h
    exact⟨p,_,sc',by simp only[tz,hv,TO hB h1,vag],h2,rfl⟩
   ·exact h.elim
  ·exact h.elim
 case h_17 t m k x=>
  simp only[b7]at h
  split at h
  ·rename_i i j es' sc' hv
   obtain⟨B,hB,h⟩:=eO h
   split at h
   ·rename_i es
    obtain⟨h1,h2⟩:=h
    rw[bL]at h2
    exact⟨_,_,_,by simp only[tz,hv,QN hB h1];rfl,h2,by simp⟩
   ·exact h.elim
  ·exact h.elim
 case h_18=>simp only[b7,WM]at h;obtain⟨p,sc',h1,h2⟩:=nR h;exact⟨p,_,sc',by simp only[tz,h1,vag],h2,rfl⟩
 case h_19=>simp only[pR]at h;obtain⟨p,sc',h1,h2⟩:=nR h;exact⟨p,_,sc',by simp only[tz,h1,vag],h2,rfl⟩
 case h_20=>simp only[pR]at h;obtain⟨p,sc',h1,h2⟩:=nR h;exact⟨p,_,sc',by simp only[tz,h1,vag],h2,rfl⟩
 case h_21 x t=>
  simp only[b7]at h
  split at h
  ·rename_i i hv
   obtain⟨B,hB,h⟩:=eO h
   split at h
   ·rename_i es
    obtain⟨p,sc',⟨rfl,h1⟩,h2⟩:=nR h
    refine⟨_,_,sc',?_,h2,rfl⟩
    simp only[tz,hv,Fo]
    cases hu:P.underlying t with
    |none=>rw[hu]at h1;cases h1
    |some d=>
     rw[hu]at h1
     cases d<;>simp at h1
     simp only[hB,vag]
   ·exact h.elim
  ·obtain⟨p,sc',h1,h2⟩:=nR h;exact⟨p,_,sc',by simp only[tz,h1 H,vag],h2,rfl⟩
 case h_22=>simp only[b7,pl]at h;obtain⟨p,h1,h2⟩:=xS h;exact⟨p,_,_,by simp only[tz,h1,vag],h2,rfl⟩
 case h_23=>simp only[b7,pl]at h;obtain⟨p,h1,h2⟩:=xS h;exact⟨p,_,_,by simp only[tz,h1,vag],h2,rfl⟩
 case h_24=>exact h.elim
end
end Go.Proofs.YtkdahfeiedaahaaGreatDoor
