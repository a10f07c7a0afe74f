/- PROVED: a part of the proof. Conditions: none. -/
import Derived.Test.YtkdahfeiedaahaaGreatDoorPkC2
import Derived.Test.YtkdahfeiedaahaaGreatDoorPkC3
import Derived.WalkKit
import Derived.RangeFuncNested
import Derived.RangeFuncCalls
import Derived.Sort.LoopGhostIn
import Derived.OrdersIn
noncomputable section
namespace Go.Proofs.YtkdahfeiedaahaaGreatDoor
open Go
structure OA where
 i:Nat
 t:Nat
 k:Nat
 e:TypeId
def fx(ρ:List Nat)(oa:List OA)(Γ:aW)(ow:Nat->Option lA):Nat->Option lA:=fun b=>
 match ow b with
 |some (.box j k)=>if(Γ b).isSome/\j∈ρ then some (.box (ρ.idxOf j) k)else none
 |some (.tmp t k)=>match oa.find? fun y=>y.t==t&&y.k==k with
  |some x=>if(Γ b).isSome then some (.tmp x.i k)else none
  |none=>none
 |_=>none
def sZ(ρ:List Nat)(oa:List OA)(d:Nat)(owC ow:Nat->Option lA):Nat->Option lA:=fun b=>
 match owC b with
 |some (.box i k)=>some (.box (ρ.getD i 0) k)
 |some (.tmp _ k)=>some (.tmp d k)
 |none=>match ow b with
  |some (.box j k)=>if j∈ρ then none else some (.box j k)
  |some (.tmp t k)=>if(oa.any fun x=>x.t==t&&x.k==k)=true then none else some (.tmp t k)
  |none=>none
section
variable{P:Program}{E:pX}{Γ:aW}{bs:bw}{ow:Nat->Option lA}{w:World}{a:Array Value}{st:aA}{ρ:List Nat}
theorem PI(h:SR P E Γ bs ow w a st){g:FuncId}{args argsC:List PVal}{r rc:PVal}{ro:List (Nat×TypeId)}{Hc Hc' H':List aB}{vs:Array Value}{d:Nat}{oa:List OA}(hd:d<a.size)
  (hn:ρ.Nodup) (hC:C P E.GE g argsC (oa.map fun x=>((x.i,x.k),x.e)) Hc rc ro Hc') (ho1:∀x∈oa,(vs[x.i]? =some (.slice none 0 0)/\x.k=0)\/(((x.t,x.k),x.e)∈st.own/\vs[x.i]? =a[x.t]?)) (ho3:∀x∈oa,∀y∈oa,x.t=y.t->x.k=y.k->x.i=y.i) (hH:yC ρ st.boxes Hc) (hH':yC ρ H' Hc') (hlen:H'.length=st.boxes.length) (hsame:∀j:Nat,j∉ρ->H'[j]? =st.boxes[j]?)
  (hr:yZ ρ r rc) (hal:args.length=argsC.length) (ha:∀(i:Nat) p q,args[i]? =some p->argsC[i]? =some q->yZ ρ p q)
  (hl:vs.size=args.length) (hv:∀(i:Nat) p v,args[i]? =some p->vs[i]? =some v->VR Γ bs w p v):
  Calls P g vs w fun e w'=>∃v Γ' ow',e=.returned v/\SR P E Γ' bs ow' w' (a.setIfInBounds d v) {st with tmps:=st.tmps.set d r,boxes:=H',own:=(ro.map fun x=>((d,x.1),x.2))++bP d (st.own.filter fun z=>!oa.any fun x=>z.1==(x.t,x.k))}/\Γ.Le w Γ' w':=by
 let bsC:bw:=ρ.map fun j=>(bs[j]?).getD none
 have hjlt:∀{i j:Nat},ρ[i]? =some j->j<st.boxes.length:=fun{i j} hij=>by
  obtain⟨B,_,hB,_⟩:=hH.box i j hij;exact aq hB
 have hbb:∀(i j:Nat),ρ[i]? =some j->bsC[i]? =bs[j]?:=by
  intro i j hij
  have hj:j<bs.length:=by rw[h.bl];exact hjlt hij
  simp[bsC,hij,vaa hj]
 have hbc:∀{i b:Nat},bsC[i]? =some (some b)->∃j,ρ[i]? =some j/\bs[j]? =some (some b):=by
  intro i b hib
  have hi:i<ρ.length:=by have:=aq hib;simpa[bsC]using this
  have hij:ρ[i]? =some ρ[i]:=vaa hi
  exact⟨_,hij,(hbb i _ hij).symm.trans hib⟩
 have hcow:∀{b L},fx ρ oa Γ ow b=some L->(Γ b).isSome/\((∃j k,ow b=some (.box j k)/\j∈ρ/\L=.box (ρ.idxOf j) k)\/(∃x∈oa,ow b=some (.tmp x.t x.k)/\L=.tmp x.i x.k)):=by
  intro b L hL
  unfold fx at hL
  split at hL
  ·rename_i j k hb
   split at hL
   ·rename_i hc;cases hL;exact⟨hc.1,.inl ⟨j,k,hb,hc.2,rfl⟩⟩
   ·cases hL
  ·rename_i t k hb
   split at hL
   ·rename_i x hx
    split at hL
    ·rename_i hc
     cases hL
     have h1:=va7 hx
     have h2:=vbJ hx
     simp only[vae,vaV]at h2
     exact⟨hc,.inr ⟨x,h1,by rw[hb,h2.1,h2.2],by rw[h2.2]⟩⟩
    ·cases hL
   ·cases hL
  ·cases hL
 have hpre:SR P ⟨E.GE,Γ,w,bj bsC (fx ρ oa Γ ow)⟩ Γ bsC (fx ρ oa Γ ow) w vs ⟨argsC,Hc,oa.map fun x=>((x.i,x.k),x.e)⟩:={
  wi:=h.wi
  sz:=by simpa[hal]using hl
  tm:=fun t q v hq hv'=>by
   have ht:=aq hq
   have hp:=vaa (l:=args) (i:=t) (by rw[hal];exact ht)
   exact(ha t _ q hp hq).to hbb (hv t _ v hp hv')
  bl:=by simp[bsC,hH.len]
  bx:=fun i b Bc hib hBc=>by
   obtain⟨j,hij,hjb⟩:=hbc hib
   obtain⟨B,Bc',hB,hBc',hx⟩:=hH.box i j hij
   rw[hBc]at hBc';cases hBc'
   obtain⟨k1,k2,k3⟩:=h.bx j b B hjb hB
   exact⟨k1,k2,hx.to hbb k3⟩
  inj:=fun i j b hi hj=>by
   obtain⟨x,hx,hxb⟩:=hbc hi
   obtain⟨y,hy,hyb⟩:=hbc hj
   have:=h.inj x y b hxb hyb
   subst this
   rw[<-s8 hn hx,s8 hn hy]
  bn:=fun i b hb=>.inl (.inl ⟨i,hb⟩)
  on:=fun b L hL=>by
   refine⟨?_,.inl (.inr (by rw[hL];simp))⟩
   rcases(hcow hL).2 with⟨j,k,hb,_⟩|⟨x,_,hb,_⟩<;>exact(h.on b _ hb).1
  ot:=fun t k e he=>by
   simp only[vai,Prod.mk.injEq]at he
   obtain⟨x,hx,⟨rfl,rfl⟩,rfl⟩:=he
   rcases ho1 x hx with⟨hn1,hn2⟩|⟨ht1,ht2⟩
   ·exact⟨_,.slice none 0 0,hn1,by rw[hn2];rfl,⟨0,[],World.ownsRow_nil _ _ _ _,fun b hb=>by simp[Value.ownBlock]at hb⟩,fun b hb=>by simp[Value.ownBlock]at hb⟩
   obtain⟨u,v',h1,h2,h3,h4⟩:=h.ot _ _ _ ht1
   refine⟨u,v',ht2.trans h1,h2,h3,fun b hb=>?_⟩
   have hg:(Γ b).isSome:=by obtain⟨n,xs,_,o2⟩:=h3;rw[o2 b hb];rfl
   unfold fx
   rw[h4 b hb]
   simp only
   cases hf:oa.find? fun y=>y.t==x.t&&y.k==x.k with
   |none=>
    have:=vcu.1 hf x hx
    simp at this
   |some y=>
    have q1:=va7 hf
    have q2:=vbJ hf
    simp only[vae,vaV]at q2
    simp only[vax hg,ho3 y q1 x hx q2.1 q2.2]
  ob:=fun i k e cs own b hB hk hb=>by
   obtain⟨j,hij,hjb⟩:=hbc hb
   obtain⟨B,Bc',hB',hBc',hx⟩:=hH.box i j hij
   rw[hB]at hBc';cases hBc'
   cases B with
   |cells cs' own'=>
    obtain⟨rfl,_,_⟩:=hx
    obtain⟨v,k1,k2,k3⟩:=h.ob j k e cs' own' b hB' hk hjb
    refine⟨v,k1,k2,fun b' hb'=>?_⟩
    have hg:(Γ b').isSome:=by obtain⟨n,xs,_,o2⟩:=k2;rw[o2 b' hb'];rfl
    simp only[fx,k3 b' hb']
    rw[vax ⟨hg,vau hij⟩,s8 hn hij]
   |map es=>simp[iM]at hx
   |dead=>simp[iM]at hx
  gl:=fun g cs hg=>(h.gl g cs hg).restrict (n:=0) (by simp only[PVal.cl];exact h.gc g cs hg) (fun i b hi _=>absurd hi (vaF _))
  gc:=h.gc
  gx:=fun g cs hg=>by
   obtain⟨k1,k2,k3,k4⟩:=h.gnow hg
   refine⟨k1,fun hT=>?_,k4⟩
   rcases hT with⟨i,hi⟩|hT
   ·obtain⟨j,_,hjb⟩:=hbc hi
    exact k2 j g hjb rfl
   ·cases hL:fx ρ oa Γ ow g with
    |none=>exact hT hL
    |some L=>
     rcases(hcow hL).2 with⟨j,k,hk',_⟩|⟨x,_,hk',_⟩<;>(rw[k3]at hk';cases hk')
  step:=.refl _ _ _ _}
 refine(hC.2 Γ bsC _ w vs hpre).mono fun e w' he=>?_
 obtain⟨v,Γ',owC,rfl,hS⟩:=he
 have hle:Γ.Le w Γ' w':=hS.step.le
 have hTE:∀b,bj bsC (fx ρ oa Γ ow) b->E.T b\/E.w.heap.size<=b:=by
  intro b hb
  rcases hb with⟨i,hi⟩|hb
  ·obtain⟨j,_,hjb⟩:=hbc hi
   exact h.bn j b hjb
  ·cases hL:fx ρ oa Γ ow b with
   |none=>exact absurd hL hb
   |some L=>
    rcases(hcow hL).2 with⟨j,k,hk,_⟩|⟨x,_,hk,_⟩<;>exact(h.on b _ hk).2
 have hkeep:∀b,b<w.heap.size->¬bj bsC (fx ρ oa Γ ow) b->w'.heap[b]? =w.heap[b]?/\Γ' b=Γ b:=fun b hb hT=>hS.step.keep b hb hT
 have hnotT_own:∀{b L},ow b=some L->(Γ b).isSome->(∀j k,L=.box j k->j∉ρ)->(∀x∈oa,L≠.tmp x.t x.k)->¬bj bsC (fx ρ oa Γ ow) b:=by
  intro b L hL hg hne hne2 hT
  rcases hT with⟨i,hi⟩|hT
  ·obtain⟨j,hij,hjb⟩:=hbc hi
   obtain⟨B,_,hB,_⟩:=hH.box i j hij
   rw[(h.bx j b B hjb hB).1]at hg;cases hg
  ·cases hL':fx ρ oa Γ ow b with
   |none=>exact hT hL'
   | some L' =>
    rcases(hcow hL').2 with⟨j,k,hk,hj,_⟩|⟨x,hx,hk,_⟩
    ·rw[hL]at hk;cases hk
     exact hne j k rfl hj
    ·rw[hL]at hk;cases hk
     exact hne2 x hx rfl
 have hnotT_box:∀{j b:Nat},bs[j]? =some (some b)->j∉ρ->¬bj bsC (fx ρ oa Γ ow) b:=by
  intro j b hjb hj hT
  rcases hT with⟨i,hi⟩|hT
  ·obtain⟨j',hij,hjb'⟩:=hbc hi
   have:=h.inj _ _ _ hjb hjb'
   subst this
   exact hj (vau hij)
  ·cases hL':fx ρ oa Γ ow b with
   |none=>exact hT hL'
   |some L'=>
    have hg:=(hcow hL').1
    have hjl:j<st.boxes.length:=by rw[<-h.bl];exact aq hjb
    rw[(h.bx j b _ hjb (vaa hjl)).1]at hg;cases hg
 have hold:∀{b L},ow b=some L->(Γ b).isSome->(∀j k,L=.box j k->j∉ρ)->(∀x∈oa,L≠.tmp x.t x.k)->sZ ρ oa d owC ow b=some L:=by
  intro b L hL hg hne hne2
  have hT:=hnotT_own hL hg hne hne2
  have hnone:owC b=none:=by
   cases hx:owC b with
   |none=>rfl
   | some L' =>
    obtain⟨_,k2⟩:=hS.on b L' hx
    rcases k2 with k2|k2
    ·exact absurd k2 hT
    ·have:=(h.on b L hL).1
     exact absurd k2 (vb7.2 this)
  unfold sZ
  rw[hnone]
  simp only[hL]
  cases L with
  |tmp t k=>
   simp only
   rw[vay]
   intro hx
   obtain⟨x,hx1,hx2⟩:=vcB.1 hx
   simp only[vae,vaV]at hx2
   exact hne2 x hx1 (by rw[hx2.1,hx2.2])
  |box j k=>simp only;rw[vay (hne j k rfl)]
 have howned:∀{v:Value} {e:TypeId} {b:Nat},ja P Γ w v e->v.ownBlock=some b->(Γ b).isSome:=by
  intro v e b ho hb
  obtain⟨n,xs,_,o2⟩:=ho
  rw[o2 b hb];rfl
 have hrv:VR Γ' bs w' r v:=hr.from hbb (hS.tm 0 rc v rfl rfl)
 refine⟨v,Γ',sZ ρ oa d owC ow,rfl,?_,hle⟩
 exact{
  wi:=hS.wi
  sz:=by simp[h.sz]
  tm:=fun t q u hq hu=>by
   simp only[vbj]at hq
   rw[vbd]at hu
   by_cases hdt:d=t
   ·subst hdt
    simp only[if_true]at hq hu
    split at hu
    ·split at hq
     ·cases hu;cases hq;exact hrv
     ·cases hq
    ·rename_i hnd;exact absurd hd hnd
   ·simp only[hdt,if_false]at hq hu
    exact(h.tm t q u hq hu).mono hle (.refl _)
  bl:=by simp[h.bl,hlen]
  bx:=fun j b B hjb hB=>by
   by_cases hj:j∈ρ
   ·obtain⟨i,hij⟩:=va9.1 hj
    obtain⟨B',Bc,hB',hBc,hx⟩:=hH'.box i j hij
    rw[hB]at hB';cases hB'
    obtain⟨k1,k2,k3⟩:=hS.bx i b Bc ((hbb i j hij).trans hjb) hBc
    exact⟨k1,k2,hx.from hbb k3⟩
   ·have hB0:st.boxes[j]? =some B:=(hsame j hj).symm.trans hB
    obtain⟨k1,k2,k3⟩:=h.bx j b B hjb hB0
    obtain⟨q1,q2⟩:=hkeep b k2 (hnotT_box hjb hj)
    exact⟨q2.trans k1,vaD k2 hS.step.size,k3.mono hle (.refl _) q1⟩
  inj:=h.inj
  bn:=h.bn
  on:=fun b L hL=>by
   unfold sZ at hL
   split at hL
   ·rename_i i k hb
    obtain⟨k1,k2⟩:=hS.on b _ hb
    exact⟨k1,k2.elim (hTE b) (fun hx=>.inr (vav h.step.size hx))⟩
   ·rename_i t k hb
    obtain⟨k1,k2⟩:=hS.on b _ hb
    exact⟨k1,k2.elim (hTE b) (fun hx=>.inr (vav h.step.size hx))⟩
   ·have hsz:=hS.step.size
    cases hb:ow b with
    |none=>rw[hb]at hL;cases hL
    |some L'=>exact⟨vaD (h.on b _ hb).1 hsz,(h.on b _ hb).2⟩
  ot:=fun t k e he=>by
   rcases vaI.1 he with he|he
   ·simp only[vai,Prod.mk.injEq]at he
    obtain⟨⟨k',e'⟩,hm,⟨rfl,rfl⟩,rfl⟩:=he
    obtain⟨u,v',h1,h2,h3,h4⟩:=hS.ot 0 k' e' (vai.2 ⟨(k',e'),hm,rfl⟩)
    simp at h1;subst h1
    refine⟨v,v',by simp[hd],h2,h3,fun b hb=>?_⟩
    simp only[sZ,h4 b hb]
   ·obtain⟨he,htd⟩:=dN he
    obtain⟨he,hne0⟩:=cd he
    have hne2:∀x∈oa,lA.tmp t k≠.tmp x.t x.k:=fun x hx e=>by
     cases e
     simp only[vaM,vbv,vaV]at hne0
     exact hne0 x hx rfl
    obtain⟨u,v',h1,h2,h3,h4⟩:=h.ot t k e he
    have hq:∀b,v'.ownBlock=some b->¬bj bsC (fx ρ oa Γ ow) b:=fun b hb=>hnotT_own (h4 b hb) (howned h3 hb) (fun j k hx=>by cases hx) hne2
    exact⟨u,v',by rw[vaE (fun e=>htd e.symm)];exact h1,h2,h3.same fun b hb=>hkeep b (h3.lt hb) (hq b hb),fun b hb=>hold (h4 b hb) (howned h3 hb) (fun j k hx=>by cases hx) hne2⟩
  ob:=fun j k e cs own b hB hk hjb=>by
   by_cases hj:j∈ρ
   ·obtain⟨i,hij⟩:=va9.1 hj
    obtain⟨B',Bc,hB',hBc,hx⟩:=hH'.box i j hij
    rw[hB]at hB';cases hB'
    cases Bc with
    |cells cs' own'=>
     obtain⟨rfl,_,_⟩:=hx
     obtain⟨v',k1,k2,k3⟩:=hS.ob i k e cs' own b hBc hk ((hbb i j hij).trans hjb)
     refine⟨v',k1,k2,fun b' hb'=>?_⟩
     have hgd:ρ.getD i 0=j:=by rw[vak,hij];rfl
     simp only[sZ,k3 b' hb',hgd]
    |map es=>simp[iM]at hx
    |dead=>simp[iM]at hx
   ·have hB0:st.boxes[j]? =some (.cells cs own):=(hsame j hj).symm.trans hB
    obtain⟨v',k1,k2,k3⟩:=h.ob j k e cs own b hB0 hk hjb
    obtain⟨_,hlt,_⟩:=h.bx j b _ hjb hB0
    have hne:∀j' k',lA.box j k=.box j' k'->j'∉ρ:=fun j' k' hx=>by cases hx;exact hj
    have hne2:∀x∈oa,lA.box j k≠.tmp x.t x.k:=fun x _ e=>by cases e
    exact⟨v',(bZ (hkeep b hlt (hnotT_box hjb hj)).1 k).trans k1,k2.same fun b' hb'=>hkeep b' (k2.lt hb') (hnotT_own (k3 b' hb') (howned k2 hb') hne hne2),fun b' hb'=>hold (k3 b' hb') (howned k2 hb') hne hne2⟩
  gl:=fun g cs hg=>(h.gl g cs hg).mono hle (.refl _)
  gc:=h.gc
  gx:=h.gx
  step:={
   os:=hS.step.os.trans h.step.os
   tape:=hS.step.tape.trans h.step.tape
   output:=hS.step.output.trans h.step.output
   size:=vav h.step.size hS.step.size
   drawn:=vav h.step.drawn hS.step.drawn
   keep:=fun b hb hT=>by
    have hlt:b<w.heap.size:=vaD hb h.step.size
    have hnT:¬bj bsC (fx ρ oa Γ ow) b:=fun hx=>(hTE b hx).elim hT (fun hx=>absurd hx (vb7.2 hb))
    obtain⟨k1,k2⟩:=h.step.keep b hb hT
    obtain⟨q1,q2⟩:=hkeep b hlt hnT
    exact⟨q1.trans k1,q2.trans k2⟩
   le:=h.step.le.trans hle}}
end
def CN(P:Program)(GE:List (Nat×List PVal))(f:FuncId)(args:List PVal)(r:PVal)(ro:List (Nat×TypeId))(H':List aB):Prop:=
 (∀vs w,(callFunc f vs).run P w=.ok (.enter f vs) w)/\
 ∀(Γ:aW) (w:World) (vs:Array Value),
  SR P ⟨GE,Γ,w,bj [] fun _=>none⟩ Γ [] (fun _=>none) w vs ⟨args,[],[]⟩->
  Calls P f vs w fun e w'=>∃v Γ' bs' ow',e=.returned v/\SR P ⟨GE,Γ,w,bj [] fun _=>none⟩ Γ' bs' ow' w' #[v] ⟨[r],H',ro.map fun x=>((0,x.1),x.2)⟩
def EI(d n:Nat)(owC ow:Nat->Option lA):Nat->Option lA:=fun b=>
 match owC b with
 |some (.tmp _ k)=>some (.tmp d k)
 |some (.box i k)=>some (.box (n+i) k)
 |none=>ow b
section
variable{P:Program}{E:pX}{Γ:aW}{bs:bw}{ow:Nat->Option lA}{w:World}{a:Array Value}{st:aA}
theorem Px(bs X:bw):bs.Sub (bs++X):=fun i b hb=>by rw[vac (aq hb)];exact hb
theorem OZ{s n i j:Nat}(h:(List.range' s n)[i]? =some j):j=s+i/\i<n:=by
 have hi:=aq h
 rw[List.length_range']at hi
 rw[List.getElem?_range' hi]at h
 simp at h
 exact⟨h.symm,hi⟩
theorem PJ(h:SR P E Γ bs ow w a st){g:FuncId}{args:List PVal}{r rc:PVal}{ro:List (Nat×TypeId)}{New Hc':List aB}{vs:Array Value}{d:Nat}(hd:d<a.size)(hC:CN P E.GE g args rc ro Hc')
  (hl:vs.size=args.length) (hv:∀(i:Nat) p v,args[i]? =some p->vs[i]? =some v->VR Γ bs w p v) (hcl:iN 0 args) (hN:New.length=Hc'.length)
  (hB:∀(i:Nat) B Bc,New[i]? =some B->Hc'[i]? =some Bc->iM (List.range' st.boxes.length Hc'.length) B Bc) (hr:yZ (List.range' st.boxes.length Hc'.length) r rc):
  Calls P g vs w fun e w'=>∃v Γ' ow' X,e=.returned v/\SR P E Γ' (bs++X) ow' w' (a.setIfInBounds d v) ⟨st.tmps.set d r,st.boxes++New,(ro.map fun x=>((d,x.1),x.2))++bP d st.own⟩/\Γ.Le w Γ' w':=by
 have hpre:SR P ⟨E.GE,Γ,w,bj [] fun _=>none⟩ Γ [] (fun _=>none) w vs ⟨args,[],[]⟩:={
  wi:=h.wi
  sz:=hl
  tm:=fun t p v hp hv'=>(hv t p v hp hv').restrict (n:=0) (nU hcl hp) (fun i b hi _=>absurd hi (vaF _))
  bl:=rfl
  bx:=fun i b B hb=>by simp at hb
  inj:=fun i j b hb=>by simp at hb
  bn:=fun i b hb=>by simp at hb
  on:=fun b L hL=>by cases hL
  ot:=fun t k e he=>by simp at he
  ob:=fun i j e cs own b hB=>by simp at hB
  gl:=fun g cs hg=>(h.gl g cs hg).restrict (n:=0) (by simp only[PVal.cl];exact h.gc g cs hg) (fun i b hi _=>absurd hi (vaF _))
  gc:=h.gc
  gx:=fun g cs hg=>by
   obtain⟨k1,_,_,k4⟩:=h.gnow hg
   exact⟨k1,fun hT=>hT.elim (fun hx=>by obtain⟨i,hi⟩:=hx;simp at hi) (fun hx=>hx rfl),k4⟩
  step:=.refl _ _ _ _}
 refine(hC.2 Γ w vs hpre).mono fun e w' he=>?_
 obtain⟨v,Γ',bs',owC,rfl,hS⟩:=he
 have hT:∀b,¬bj [] (fun _=>none) b:=fun b hb=>by
  rcases hb with⟨i,hi⟩|hb
  ·simp at hi
  ·exact hb rfl
 have hle:Γ.Le w Γ' w':=hS.step.le
 have hw:=h.world (fun _=>False) hle hS.wi hS.step.os hS.step.tape hS.step.output hS.step.size (fun b hb _=>hS.step.keep b hb (hT b)) (fun _ hx=>hx.elim) (fun _ _ _ hx=>hx) (fun _ _ _ hx=>hx) hS.step.drawn
 have hbl:bs'.length=Hc'.length:=hS.bl
 have hsub:=Px bs bs'
 have hbb:∀(i j:Nat),(List.range' st.boxes.length Hc'.length)[i]? =some j->bs'[i]? =(bs++bs')[j]?:=fun i j hij=>by
  obtain⟨rfl,hi⟩:=OZ hij
  rw[<-h.bl,vaf (vbF _ _),vbp]
 have hnew:∀{i b:Nat},bs'[i]? =some (some b)->w.heap.size<=b:=fun hb=>(hS.bn _ _ hb).resolve_left (hT _)
 have hold:∀{i b:Nat},bs[i]? =some (some b)->b<w.heap.size:=fun{i b} hb=>by
  have hi:i<st.boxes.length:=by rw[<-h.bl];exact aq hb
  exact(h.bx i b _ hb (vaa hi)).2.1
 have hcase:∀{i:Nat} {x:Option Nat},(bs++bs')[i]? =some x->(i<bs.length/\bs[i]? =some x)\/(∃k,i=bs.length+k/\bs'[k]? =some x):=fun{i x} hi=>by
  by_cases hlt:i<bs.length
  ·rw[vac hlt]at hi;exact .inl ⟨hlt,hi⟩
  ·rw[vaf (by omega)]at hi;exact .inr ⟨i - bs.length,by omega,hi⟩
 have how:∀{b L},ow b=some L->EI d st.boxes.length owC ow b=some L:=fun{b L} hL=>by
  have hb:=(h.on b L hL).1
  unfold EI
  cases hc:owC b with
  |none=>exact hL
  |some L'=>
   have:=((hS.on b L' hc).2.resolve_left (hT b))
   exact absurd hb (vcw.2 this)
 have hrv:VR Γ' (bs++bs') w' r v:=hr.from hbb (hS.tm 0 rc v rfl rfl)
 refine⟨v,Γ',EI d st.boxes.length owC ow,bs',rfl,?_,hle⟩
 have hlen:st.boxes.length=bs.length:=h.bl.symm
 exact{
  wi:=hS.wi
  sz:=by simp[h.sz]
  tm:=fun t q u hq hu=>by
   simp only[vbj]at hq
   rw[vbd]at hu
   by_cases hdt:d=t
   ·subst hdt
    simp only[if_true]at hq hu
    split at hu
    ·split at hq
     ·cases hu;cases hq;exact hrv
     ·cases hq
    ·rename_i hnd;exact absurd hd hnd
   ·simp only[hdt,if_false]at hq hu
    exact(hw.tm t q u hq hu).mono (.refl _ _) hsub
  bl:=by simp[h.bl,hN,hbl]
  bx:=fun i b B hb hBi=>by
   rcases hcase hb with⟨hlt,hb'⟩|⟨k,rfl,hb'⟩
   ·rw[vac (by omega)]at hBi
    obtain⟨h1,h2,h3⟩:=hw.bx i b B hb' hBi
    exact⟨h1,h2,h3.mono (.refl _ _) hsub rfl⟩
   ·rw[vaf (by omega),hlen,vbp]at hBi
    have hk:k<Hc'.length:=by rw[<-hbl];exact aq hb'
    have hBc:Hc'[k]? =some Hc'[k]:=vaa hk
    obtain⟨h1,h2,h3⟩:=hS.bx k b _ hb' hBc
    exact⟨h1,h2,(hB k B _ hBi hBc).from hbb h3⟩
  inj:=fun i j b hi hj=>by
   rcases hcase hi with⟨_,hi'⟩|⟨k,rfl,hi'⟩<;>rcases hcase hj with⟨_,hj'⟩|⟨k',rfl,hj'⟩
   ·exact h.inj i j b hi' hj'
   ·exact absurd (hold hi') (vcw.2 (hnew hj'))
   ·exact absurd (hold hj') (vcw.2 (hnew hi'))
   ·rw[hS.inj k k' b hi' hj']
  bn:=fun i b hb=>by
   rcases hcase hb with⟨_,hb'⟩|⟨k,rfl,hb'⟩
   ·exact h.bn i b hb'
   ·exact .inr (vav h.step.size (hnew hb'))
  on:=fun b L hL=>by
   unfold EI at hL
   cases hc:owC b with
   |none=>rw[hc]at hL;exact hw.on b L hL
   |some L'=>
    obtain⟨k1,k2⟩:=hS.on b L' hc
    exact⟨k1,.inr (vav h.step.size (k2.resolve_left (hT b)))⟩
  ot:=fun t k e he=>by
   rcases vaI.1 he with he|he
   ·simp only[vai,Prod.mk.injEq]at he
    obtain⟨⟨k',e'⟩,hm,⟨rfl,rfl⟩,rfl⟩:=he
    obtain⟨u,v',h1,h2,h3,h4⟩:=hS.ot 0 k' e' (vai.2 ⟨(k',e'),hm,rfl⟩)
    simp at h1;subst h1
    refine⟨v,v',by simp[hd],h2,h3,fun b hb=>?_⟩
    simp only[EI,h4 b hb]
   ·obtain⟨he,htd⟩:=dN he
    obtain⟨u,v',h1,h2,h3,h4⟩:=hw.ot t k e he
    exact⟨u,v',by rw[vaE (fun e=>htd e.symm)];exact h1,h2,h3,fun b hb=>how (h4 b hb)⟩
  ob:=fun i j e cs own b hBi hj hb=>by
   rcases hcase hb with⟨hlt,hb'⟩|⟨k,rfl,hb'⟩
   ·rw[vac (by omega)]at hBi
    obtain⟨v',k1,k2,k3⟩:=hw.ob i j e cs own b hBi hj hb'
    exact⟨v',k1,k2,fun b' hx=>how (k3 b' hx)⟩
   ·rw[vaf (by omega),hlen,vbp]at hBi
    have hk:k<Hc'.length:=by rw[<-hbl];exact aq hb'
    have hBc:Hc'[k]? =some Hc'[k]:=vaa hk
    have hx:=hB k _ _ hBi hBc
    cases hcc:Hc'[k]with
    |cells cs' own'=>
     rw[hcc]at hx hBc
     obtain⟨rfl,_,_⟩:=hx
     obtain⟨v',k1,k2,k3⟩:=hS.ob k j e cs' own b hBc hj hb'
     refine⟨v',k1,k2,fun b' hx=>?_⟩
     simp only[EI,k3 b' hx,hlen]
    |map es=>rw[hcc]at hx;simp[iM]at hx
    |dead=>rw[hcc]at hx;simp[iM]at hx
  gl:=fun g cs hg=>(hw.gl g cs hg).mono (.refl _ _) hsub
  gc:=h.gc
  gx:=h.gx
  step:=hw.step}
end
def LY(P:Program)(GE:List (Nat×List PVal))(o:Oper)(K:aA->Prop)(st:aA):Prop:=
 match o.op,o.dst with
 | .call { callee := .value f,args,.. },some d => ∃ (g:FuncId) (rc:PVal) (ro:List (Nat×TypeId)) (New Hc':List aB) (r:PVal),opv GE st.tmps f = .func (.func g) [] []∧CN P GE g (args.toList.map (opv GE st.tmps)) rc ro Hc'∧iN 0 (args.toList.map (opv GE st.tmps))∧New.length = Hc'.length ∧
   (∀(i:Nat) B Bc,New[i]? =some B->Hc'[i]? =some Bc->iM (List.range' st.boxes.length Hc'.length) B Bc)/\yZ (List.range' st.boxes.length Hc'.length) r rc/\d<st.tmps.length/\
   K ⟨st.tmps.set d r,st.boxes++New,(ro.map fun x=>((d,x.1),x.2))++bP d st.own⟩
 |_,_=>False
theorem OV{P:Program}{GE:List (Nat×List PVal)}{o:Oper}{K K':aA->Prop}{st:aA}(hk:∀st,K st->K' st)(h:LY P GE o K st):LY P GE o K' st:=by
 unfold LY at *
 split at h
 ·obtain⟨g,rc,ro,New,Hc',r,h1,h2,h3,h4,h5,h6,h7,h8⟩:=h;exact⟨g,rc,ro,New,Hc',r,h1,h2,h3,h4,h5,h6,h7,hk _ h8⟩
 ·exact h
section
variable{P:Program}{E:pX}{Γ:aW}{bs:bw}{ow:Nat->Option lA}{w:World}{a:Act}{st:aA}
theorem M4(h:SR P E Γ bs ow w a.tmps st){o:Oper}{id:Nat}{K:aA->Prop}(hp:LY P E.GE o K st)(Q:Exit->Act->World->Prop):o.wp P a w (Ee P E bs id (aD o.op) a.defers K) Q:=by
 unfold LY at hp
 split at hp
 ·rename_i f args tys d ho hdst
  obtain⟨g,rc,ro,New,Hc',r,hf,hC,hcl,hN,hB,hr,hd,hK⟩:=hp
  have hvf:VR Γ bs w (opv E.GE st.tmps f) (a.eval f):=h.opv a.defers f
  rw[hf]at hvf
  generalize hev:a.eval f=vf at hvf
  cases hvf with
  |func _ _ _ fs cs hl hl' k1 k2=>
  have hfs:fs=#[]:=vaS (by simpa using hl)
  have hcs:cs=#[]:=vaS (by simpa using hl')
  subst hfs;subst hcs
  have hrun:(execOp a.eval o).run P w=.ok (.enter g (args.map a.eval)) w:=by
   simp[execOp,ho,resolve,hev,Deferred.ofValue,invoke,hC.1]
  have hvr:∀(i:Nat) p v,(args.toList.map (opv E.GE st.tmps))[i]? =some p->(args.map a.eval)[i]? =some v->VR Γ bs w p v:=
   fun i p v hp hv=>xh (fun x=>h.opv a.defers x) args.toList i p v hp (by simpa using hv)
  have hds:d<a.tmps.size:=by rw[h.sz];exact hd
  unfold Oper.wp
  rw[hrun,Oper.upon_enter]
  refine(PJ h hds hC (by simp) hvr hcl hN hB hr).mono fun e w' he=>?_
  obtain⟨v,Γ',ow',X,rfl,hS,_⟩:=he
  have hput:(a.put o.dst v).tmps=a.tmps.setIfInBounds d v:=by rw[hdst];rfl
  rw[<-hput]at hS
  show Ee P E bs id (aD o.op) a.defers K (a.put o.dst v) w'
  exact⟨bQ _ _ _,Γ',_,_,_,hS,hK,.inr (.inr ⟨X,rfl⟩)⟩
 ·exact hp.elim
end
abbrev iB:Value:=.slice none 0 0
def SG(v:Value):PVal:=if mf v then .val iB else absC v
def QN(P:Program)(t:TypeId):Option (List PVal):=((P.info? t).bind (·.zero)).map fun z=>z.cells.toList.map SG
def KE(P:Program)(t:TypeId)(parts:List (Nat×PVal)):Option (List PVal):=
 match P.underlying t,QN P t with
 |some (.struct fs),some zs=>if fs.all (fun f=>(P.info? f.type).isSome)then HH (fun i=>(fs[i]?).map fun f=>(f.offset,P.cellsOf f.type)) zs parts else none
 |_,_=>none
def MV(cs:List PVal):List (Nat×TypeId)->Prop
 |[]=>True
 |x::r=>cs[x.1]? =some (.val iB)/\MV cs r
def AQ(P:Program)(t:TypeId)(parts:List (Nat×PVal))(L:List (Nat×TypeId)):Prop:=∃cs,KE P t parts=some cs/\MV cs L
def ownLe(H0 H:List aB):Prop:=H0.length=H.length/\∀(i:Nat) B,H0[i]? =some B->∃B',H[i]? =some B'/\(B=B'\/∃cs own own',B'=.cells cs own/\B=.cells cs own'/\∀x∈own',x∈own)
structure GH(P:Program)(GE:List (Nat×List PVal))(f:Operand)(args:List Operand)(st:aA)(r:PVal)(ro:List (Nat×TypeId))(H':List aB)(oa:List OA):Prop where
 ex:∃(g:FuncId) (first cap argsC:List PVal) (ρ:List Nat) (H0 Hc Hc':List aB) (rc:PVal),opv GE st.tmps f=.func (.func g) first cap/\ρ.Nodup/\C P GE g argsC (oa.map fun x=>((x.i,x.k),x.e)) Hc rc ro Hc'/\
  ownLe H0 st.boxes/\yC ρ H0 Hc/\yC ρ H' Hc'/\H'.length=st.boxes.length/\(∀j:Nat,j∉ρ->H'[j]? =H0[j]?)/\yZ ρ r rc/\(first++args.map (opv GE st.tmps)++cap).length=argsC.length/\
  (∀(i:Nat) p q,(first++args.map (opv GE st.tmps)++cap)[i]? =some p->argsC[i]? =some q->yZ ρ p q)/\
  (∀x∈oa,∃j,x.i=first.length+j/\((args[j]? =some (.const iB)/\x.k=0)\/(((x.t,x.k),x.e)∈st.own/\args[j]? =some (.tmp x.t))))/\(∀x∈oa,∀y∈oa,x.t=y.t->x.k=y.k->x.i=y.i)
def HO(P:Program)(GE:List (Nat×List PVal))(o:Oper)(K:aA->Prop)(st:aA):Prop:=
 match o.op,o.dst with
 | .build T parts,some d => ∃ (p:PVal) (L:List (Nat×TypeId)),dB P T (parts.toList.map fun x => (x.1,opv GE st.tmps x.2)) = some p∧AQ P T (parts.toList.map fun x => (x.1,opv GE st.tmps x.2)) L ∧
   d<st.tmps.length/\K {st with tmps:=st.tmps.set d p,own:=(L.map fun x=>((d,x.1),x.2))++bP d st.own}
 | .store T x (.tmp t),none => ∃ (i off:Nat) (H:List aB) (cs:List PVal) (own L:List (Nat×TypeId)) (l:List PVal),opv GE st.tmps x = .bptr i off∧st.tmps.getD t .undef = .agg l∧eX P T (.bptr i off) (.agg l) st.boxes = some H∧H[i]? = some (.cells cs own) ∧
   (∀y∈L,((t,y.1),y.2)∈st.own)/\(L.map (·.1)).Nodup/\
   K ⟨st.tmps,H.set i (.cells cs ((L.map fun y=>(off+y.1,y.2)).reverse++own)),st.own.filter fun x=>!L.any fun y=>x.1==(t,y.1)⟩
 | .load T x,some d => ∃ (i off:Nat) (cs:List PVal) (own L:List (Nat×TypeId)) (l:List PVal),(∃ fs,P.underlying T = some (.struct fs))∧opv GE st.tmps x = .bptr i off∧st.boxes[i]? = some (.cells cs own)∧be P T (cs.drop off) = some (.agg l) ∧
   (∀y∈L,(off+y.1,y.2)∈own)/\(L.map (·.1)).Nodup/\(∀y∈L,y.1<l.length)/\d<st.tmps.length/\
   K ⟨st.tmps.set d (.agg l),st.boxes.set i (.cells cs (own.filter fun x=>!L.any fun y=>x.1==off+y.1)),(L.map fun y=>((d,y.1),y.2)).reverse++bP d st.own⟩
 |.box _ x,some d=>∃vs:List PVal,co (opv GE st.tmps x)=some vs/\d<st.tmps.length/\K {st with tmps:=st.tmps.set d (.eptr vs),own:=bP d st.own}
 | .call { callee := .value f,args,.. },some d => ∃ (r:PVal) (ro:List (Nat×TypeId)) (H':List aB) (oa:List OA),GH P GE f args.toList st r ro H' oa∧d < st.tmps.length ∧
   K ⟨st.tmps.set d r,H',(ro.map fun x=>((d,x.1),x.2))++bP d (st.own.filter fun z=>!oa.any fun x=>z.1==(x.t,x.k))⟩
 |_,_=>False
def zH(P:Program)(GE:List (Nat×List PVal))(A:List Nat)(o:Oper)(id:Nat)(K:aA->Prop)(st:aA):Prop:=Fw P GE A o id K st\/HO P GE o K st\/M5 P GE o K st\/LY P GE o K st
def cV(P:Program)(GE:List (Nat×List PVal))(A:List Nat)(ops:Array Oper)(K:aA->Prop):List Oper->Nat->aA->Prop
 |[],_,st=>K st
 | o :: rest,id,st =>
  match o.guard with
  |none=>zH P GE A o id (cV P GE A ops K rest (id+if aD o.op then 1 else 0)) st
  |some (j,want)=>match tF ops st.tmps j with
   | some x => (x = some want→zH P GE A o id (cV P GE A ops K rest (id + if aD o.op then 1 else 0)) st) ∧
     (x≠some want->cV P GE A ops K rest (id+if aD o.op then 1 else 0) (vF st o.dst (.val undef) [] st.boxes))
   |none=>False
section
variable{P:Program}{E:pX}{Γ:aW}{bs:bw}{ow:Nat->Option lA}{w:World}
theorem Ra{z:Value}(j:Nat)(p:PVal)(v:Value)(hp:(z.cells.toList.map SG)[j]? =some p)(hv:z.cells[j]? =some v):VR Γ bs w p v:=by
 simp only[vas,vaK,hv,vag,var]at hp
 subst hp
 unfold SG
 split
 ·rename_i hn
  unfold mf at hn
  split at hn
  ·exact .val _
  ·cases hn
 ·exact .absC v
theorem LP{t:TypeId}{parts:List (Nat×PVal)}{vs:List (Nat×Value)}{cs:List PVal}(hl:parts.length=vs.length)
  (hv:∀(j:Nat) p v,parts[j]? =some p->vs[j]? =some v->p.1=v.1/\VR Γ bs w p.2 v.2) (h:KE P t parts=some cs):
  ∃ov,(Instr.build t vs.toArray).run P w=.ok (.agg ov) w/\ov.size=cs.length/\∀(j:Nat) p v,cs[j]? =some p->ov[j]? =some v->VR Γ bs w p v:=by
 unfold KE at h
 split at h
 ·rename_i fs zs ht hz
  unfold QN at hz
  simp only[vaH,vbe]at hz
  obtain⟨z,⟨i,hi,hz'⟩,rfl⟩:=hz
  have hr:(zeroValue t).run P w=.ok z w:=by simp[zeroValue,run_typeInfo w hi,hz']
  split at h
  ·rename_i hall
   have hplaces:∀(l:List Field),(∀f∈l,(P.info? f.type).isSome=true)->(l.mapM fun f=>do pure (f.offset,<-sizeOf f.type):Sem (List (Nat×Nat))).run P w=.ok (l.map fun f=>(f.offset,P.cellsOf f.type)) w:=by
    intro l hl
    induction l with
    |nil=>simp
    |cons f l ih=>
     obtain⟨inf,hinf⟩:=vaA.1 (hl f (by simp))
     have:=ih fun g hg=>hl g (by simp[hg])
     simp only[vbN,Sem.run_bind,run_sizeOf w hinf,Result.andThen_ok,this,Sem.run_pure,vaB]
   have hp:(fs.mapM fun f=>do pure (f.offset,<-sizeOf f.type):Sem (Array (Nat×Nat))).run P w=.ok (fs.map fun f=>(f.offset,P.cellsOf f.type)) w:=by
    rw[vb4]
    simp only[Sem.run_map]
    rw[hplaces fs.toList fun f hf=>by
     have:=vbi.1 hall f (by simpa using hf)
     simpa using this]
    simp only[Result.andThen_ok]
    exact vaU (fun x=>Result.ok x w) (vbD (by simp))
   obtain⟨ov,r1,r2,r3⟩:=Az (place':=((fs.map fun f=>(f.offset,P.cellsOf f.type))[·]?)) (fun i x hx=>by simpa using hx) parts vs _ z.cells hl hv (by simp) (fun j p v hp hv=>Ra j p v hp hv) h
   refine⟨ov,?_,r2,r3⟩
   simp only[Instr.build,Sem.run_bind,hr,Result.andThen_ok,run_underlying ht,hp]
   rw[r1]
   simp
  ·cases h
 ·cases h
theorem Hy{cs:List PVal}:∀{L:List (Nat×TypeId)},MV cs L->∀x∈L,cs[x.1]? =some (.val iB)
 |[],_,x,hx=>by cases hx
 | y :: L,h,x,hx => by
  rcases vaw.1 hx with rfl|hx
  ·exact h.1
  ·exact Hy h.2 x hx
section
variable{a:Array Value}{st:aA}
theorem SR.ownNils(h:SR P E Γ bs ow w a st){d:Nat}{u:Value}(hu:a[d]? =some u)(L:List (Nat×TypeId))(hL:∀x∈L,kG u x.1=some iB):SR P E Γ bs ow w a {st with own:=(L.map fun x=>((d,x.1),x.2))++st.own}:=
 { h with
  ot:=fun t k e he=>by
   rcases vaI.1 he with he|he
   ·simp only[vai,Prod.mk.injEq]at he
    obtain⟨x,hx,⟨rfl,rfl⟩,rfl⟩:=he
    exact⟨u,iB,hu,hL x hx,⟨0,[],World.ownsRow_nil _ _ _ _,fun b hb=>by simp[Value.ownBlock]at hb⟩,fun b hb=>by simp[Value.ownBlock]at hb⟩
   ·exact h.ot t k e he}
theorem SR.takeOwn(h:SR P E Γ bs ow w a st){i b d k off:Nat}{e:TypeId}{u v:Value}{cs:List PVal}{own:List (Nat×TypeId)}(hi:bs[i]? =some (some b))(hB:st.boxes[i]? =some (.cells cs own))
  (hm:(off,e)∈own) (hu:a[d]? =some u) (hp:kG u k=some v) (hc:w.cell? ⟨b,off,none⟩=some v):
  ∃ow',SR P E Γ bs ow' w a {st with own:=((d,k),e)::st.own,boxes:=st.boxes.set i (.cells cs (own.filter fun x=>x.1 !=off))}:=by
 obtain⟨v',q1,q2,q3⟩:=h.ob i off e cs own b hB hm hi
 rw[hc]at q1
 cases q1
 exact⟨_,(h.freeB (j:=off) hB).addOwn (d:=d) (k:=k) (e:=e) (u:=u) (v:=v) hu hp q2 (fun b' hb'=>⟨by simp[q3 b' hb'],(h.on b' _ (q3 b' hb')).2⟩)⟩
theorem SR.takeOwns{i b d off:Nat}{u:Value}{cs:List PVal}(hi:bs[i]? =some (some b))(hu:a[d]? =some u):∀(L:List (Nat×TypeId)) {ow:Nat->Option lA} {st:aA} {own:List (Nat×TypeId)},SR P E Γ bs ow w a st->st.boxes[i]? =some (.cells cs own)->
  (∀x∈L,(off+x.1,x.2)∈own)->(L.map (·.1)).Nodup->(∀x∈L,∃v,kG u x.1=some v/\w.cell? ⟨b,off+x.1,none⟩=some v)->
  ∃ow',SR P E Γ bs ow' w a ⟨st.tmps,st.boxes.set i (.cells cs (own.filter fun x=>!L.any fun y=>x.1==off+y.1)),(L.map fun y=>((d,y.1),y.2)).reverse++st.own⟩
 | [],ow,st,own,h,hB,_,_,_ => by
  refine⟨ow,?_⟩
  have e2:(own.filter fun x=>!([]:List (Nat×TypeId)).any fun y=>x.1==off+y.1)=own:=by
   apply vcr.2
   intro x _
   rfl
  have e1:st.boxes.set i (.cells cs (own.filter fun x=>!([]:List (Nat×TypeId)).any fun y=>x.1==off+y.1))=st.boxes:=by
   rw[e2]
   apply va2
   intro j
   by_cases hj:i=j
   ·subst hj
    rw[vah (aq hB),hB]
   ·rw[vap hj]
  rw[e1]
  exact h
 | x :: L,ow,st,own,h,hB,hm,hn,hc => by
  rw[vaB,vbu]at hn
  obtain⟨v,hv1,hv2⟩:=hc x (by simp)
  obtain⟨ow1,h1⟩:=h.takeOwn hi hB (hm x (by simp)) hu hv1 hv2
  obtain⟨ow2,h2⟩:=SR.takeOwns (off:=off) hi hu L h1 (vah (aq hB)) (fun y hy=>by
   refine vaT.2 ⟨hm y (by simp[hy]),?_⟩
   simp only[bne_iff_ne,ne_eq]
   exact fun e=>hn.1 (vai.2 ⟨y,hy,by omega⟩)) hn.2 (fun y hy=>hc y (by simp[hy]))
  refine⟨ow2,?_⟩
  simp only[vbP,vct]at h2
  have e1:((x::L).map fun y=>((d,y.1),y.2)).reverse++st.own=(L.map fun y=>((d,y.1),y.2)).reverse++((d,x.1),x.2)::st.own:=by simp
  have e2:(own.filter fun z=>!(x::L).any fun y=>z.1==off+y.1)=own.filter fun z=>(!L.any fun y=>z.1==off+y.1)&&(z.1 !=off+x.1):=by
   congr 1
   funext z
   rw[List.any_cons]
   cases(L.any fun y=>z.1==off+y.1)<;>cases hz:(z.1==off+x.1)<;>simp[bne,hz]
  rw[e1,e2]
  exact h2
theorem Cj(h:SR P E Γ bs ow w a st){T:TypeId}{i off b:Nat}{cs:List PVal}{own:List (Nat×TypeId)}{l:List PVal}(hi:bs[i]? =some (some b))(hB:st.boxes[i]? =some (.cells cs own))(hp:be P T (cs.drop off)=some (.agg l)):∃v,(loadVar T ⟨b,off,none⟩).run P w=.ok v w/\VR Γ bs w (.agg l) v/\((∃d,P.underlying T=some d/\(match d with|.struct _|.array _ _=>True|_=>False))->∀k,k<l.length->kG v k=w.cell? ⟨b,off+k,none⟩):=by
 obtain⟨c,t',h1,h2,h3,h4⟩:=h.box_cells hi hB
 have hval:∀(k:Nat) q,(cs.drop off)[k]? =some q->w.cell? ⟨b,off+k,none⟩=some (c.getD (off+k) undef)/\VR Γ bs w q (c.getD (off+k) undef):=by
  intro k q hq
  rw[va8]at hq
  have hlt:off+k<c.size:=vaD (aq hq) h2
  have hc:c[off+k]? =some (c.getD (off+k) undef):=by simp[vat,hlt]
  exact⟨(h4 _).trans hc,h3 _ _ _ hq hc⟩
 obtain⟨v,hr,hv⟩:=mj hp (vals:=fun k=>c.getD (off+k) undef) (fun k q hq=>(hval k q hq).1) (fun k q hq=>(hval k q hq).2)
 refine⟨v,hr,hv,fun hagg k hk=>?_⟩
 obtain⟨dd,hd,hm⟩:=hagg
 have hlen:P.cellsOf T<=(cs.drop off).length/\l.length=P.cellsOf T:=by
  unfold be at hp
  rw[hd]at hp
  have key:(if P.cellsOf T<=(cs.drop off).length then some (PVal.agg ((cs.drop off).take (P.cellsOf T)))else none)=some (.agg l):=by
   cases dd<;>simp only at hm<;>exact hp
  split at key
  ·rename_i hh;cases key;exact⟨hh,by rw[vbh];omega⟩
  ·cases key
 have hp2:be P T ((List.range (cs.drop off).length).map fun k=>PVal.val (c.getD (off+k) undef))=some (.agg (((List.range (cs.drop off).length).map fun k=>PVal.val (c.getD (off+k) undef)).take (P.cellsOf T))):=by
  unfold be
  rw[hd]
  cases dd<;>simp at hm<;>simp only<;>rw[vax (by simpa using hlen.1)]
 obtain⟨v2,hr2,hv2⟩:=mj (Γ:=Γ) (bs:=bs) hp2 (vals:=fun k=>c.getD (off+k) undef) (fun k q hq=>by
   have hlt:k<(cs.drop off).length:=by have:=aq hq;simpa using this
   exact(hval k _ (vaa hlt)).1) (fun k q hq=>by
   have hlt:k<(cs.drop off).length:=by have:=aq hq;simpa using this
   simp only[vas,vbr hlt,vag,var]at hq
   subst hq
   exact .val _)
 rw[hr]at hr2
 cases hr2
 have hk2:k<(cs.drop off).length:=by omega
 cases hv2 with
 | agg _ vs hl hvv =>
  have hd1:(cs.drop off).length=cs.length - off:=vbG
  have hkv:k<vs.size:=by rw[hl];simp;omega
  have hq:(((List.range (cs.drop off).length).map fun k=>PVal.val (c.getD (off+k) undef)).take (P.cellsOf T))[k]? =some (.val (c.getD (off+k) undef)):=by
   rw[vam (by omega)]
   simp only[vas,vbr hk2,vag]
  have:=hvv k _ vs[k] hq (by simp[hkv])
  show vs[k]? =_
  rw[(hval k _ (vaa hk2)).1]
  rw[vaC hkv]
  generalize vs[k]=q at this
  generalize c.getD (off+k) undef=q2 at this
  cases this
  rfl
end
variable{a:Act}{st:aA}
theorem ze(h:SR P E Γ bs ow w a.tmps st){o:Oper}{id d:Nat}{T:TypeId}{parts:Array (Nat×Operand)}{p:PVal}{L:List (Nat×TypeId)}{K:aA->Prop}(ho:o.op=.build T parts)(hdst:o.dst=some d)(hd:d<st.tmps.length)
  (hp:dB P T (parts.toList.map fun x=>(x.1,opv E.GE st.tmps x.2))=some p) (hL:AQ P T (parts.toList.map fun x=>(x.1,opv E.GE st.tmps x.2)) L)
  (hK:K {st with tmps:=st.tmps.set d p,own:=(L.map fun x=>((d,x.1),x.2))++bP d st.own}) (Q:Exit->Act->World->Prop):
  o.wp P a w (gG P E bs id (aD o.op) a.defers K) Q:=by
 have hρ:∀x,VR Γ bs w (opv E.GE st.tmps x) (a.eval x):=fun x=>h.opv a.defers x
 obtain⟨k1,k2⟩:=wj hρ parts.toList
 obtain⟨v,r1,r2⟩:=xi k1 k2 hp
 obtain⟨cs,hcs,hn⟩:=hL
 obtain⟨ov,s1,s2,s3⟩:=LP k1 k2 hcs
 rw[r1]at s1
 cases s1
 have hrun:(execOp a.eval o).run P w=.ok (.value (.agg ov)) w:=by
  have:(parts.map fun x=>(x.1,a.eval x.2))=(parts.toList.map fun x=>(x.1,a.eval x.2)).toArray:=by apply vbD;simp
  simp only[execOp,ho]
  rw[this]
  simp[r1]
 unfold Oper.wp
 rw[hrun,Oper.upon_value]
 have hds:d<a.tmps.size:=by rw[h.sz];exact hd
 have g1:=h.set (d:=d) r2
 have g2:=g1.ownNils (d:=d) (u:=.agg ov) (by simp[hds]) L fun x hx=>by
  have hq:=Hy hn x hx
  have hlt:x.1<ov.size:=by rw[s2];exact aq hq
  have hv:=s3 x.1 _ ov[x.1] hq (by simp[hlt])
  show ov[x.1]? =_
  rw[vaC hlt]
  generalize ov[x.1]=q at hv
  cases hv
  rfl
 have hput:∀v,(a.put o.dst v).tmps=a.tmps.setIfInBounds d v:=fun v=>by rw[hdst];rfl
 rw[<-hput]at g2
 exact⟨bQ _ _ _,Γ,bs,_,_,g2,hK,.inl rfl⟩
theorem SR.ownLe(h:SR P E Γ bs ow w a.tmps st){H0:List aB}(hs:ownLe H0 st.boxes):SR P E Γ bs ow w a.tmps {st with boxes:=H0}:=
 { h with
  bl:=h.bl.trans hs.1.symm
  bx:=fun i b B hb hB=>by
   obtain⟨B',hB',hx⟩:=hs.2 i B hB
   obtain⟨k1,k2,k3⟩:=h.bx i b B' hb hB'
   rcases hx with rfl|⟨cs,own,own',rfl,rfl,_⟩
   ·exact⟨k1,k2,k3⟩
   ·exact⟨k1,k2,k3⟩
  ob:=fun i j e cs own b hB hj hb=>by
   obtain⟨B',hB',hx⟩:=hs.2 i _ hB
   rcases hx with rfl|⟨cs1,qA,own2,rfl,e2,hsub⟩
   ·exact h.ob i j e cs own b hB' hj hb
   ·cases e2;exact h.ob i j e _ qA b hB' (hsub _ hj) hb}
theorem zl(h:SR P E Γ bs ow w a.tmps st){o:Oper}{id d:Nat}{f:Operand}{args:Array Operand}{tys:Array TypeId}{r:PVal}{ro:List (Nat×TypeId)}{H':List aB}{oa:List OA}{K:aA->Prop}(ho:o.op=.call {callee:=.value f,args,argTypes:=tys})(hdst:o.dst=some d)(hd:d<st.tmps.length)
  (hg:GH P E.GE f args.toList st r ro H' oa) (hK:K ⟨st.tmps.set d r,H',(ro.map fun x=>((d,x.1),x.2))++bP d (st.own.filter fun z=>!oa.any fun x=>z.1==(x.t,x.k))⟩) (Q:Exit->Act->World->Prop):
  o.wp P a w (gG P E bs id (aD o.op) a.defers K) Q:=by
 obtain⟨g,first,cap,argsC,ρ,H0,Hc,Hc',rc,hfv,hnd,hC,hle,hH,hH',hlen,hsame,hr,hal,ha,ho1,ho3⟩:=hg.ex
 have hρ:∀x,VR Γ bs w (opv E.GE st.tmps x) (a.eval x):=fun x=>h.opv a.defers x
 have hf:=hρ f
 rw[hfv]at hf
 generalize hvf:a.eval f=vf at hf
 cases hf with
 |func _ _ _ fs cs hl hl' h1 h2=>
 have hargs:(fs++args.map a.eval++cs).size=(first++args.toList.map (opv E.GE st.tmps)++cap).length:=by simp[hl,hl']
 have hvr:∀(i:Nat) p v,(first++args.toList.map (opv E.GE st.tmps)++cap)[i]? =some p->(fs++args.map a.eval++cs)[i]? =some v->VR Γ bs w p v:=by
  refine Am (by simp[hl]) (Am hl h1 fun i p v hp hv=>?_) h2
  exact xh hρ args.toList i p v hp (by simpa using hv)
 have hrun:(execOp a.eval o).run P w=.ok (.enter g (fs++args.map a.eval++cs)) w:=by
  simp[execOp,ho,resolve,hvf,Deferred.ofValue,invoke,hC.1]
 have hds:d<a.tmps.size:=by rw[h.sz];exact hd
 have hw:=h.ownLe hle
 unfold Oper.wp
 rw[hrun,Oper.upon_enter]
 refine(PI hw hds hnd hC (fun x hx=>?_) ho3 hH hH' (hlen.trans hle.1.symm) hsame hr hal ha hargs hvr).mono fun e w' he=>?_
 ·obtain⟨j,hj,hj2⟩:=ho1 x hx
  have hat:∀{y:Operand},args.toList[j]? =some y->(fs++args.map a.eval++cs)[x.i]? =some (a.eval y):=by
   intro y hy
   have hjl:j<args.size:=by have:=aq hy;simpa using this
   have hja:args[j]? =some y:=by simpa using hy
   rw[hj,<-hl,vaJ (by simp;omega),vbW (by omega),vbp]
   simp only[Array.getElem?_map,hja,vag]
  rcases hj2 with⟨hj2,hk⟩|⟨ht,hj2⟩
  ·exact .inl ⟨hat hj2,hk⟩
  ·obtain⟨u,v,e1,_⟩:=h.ot _ _ _ ht
   exact .inr ⟨ht,by rw[hat hj2,eZ e1];exact e1.symm⟩
 ·obtain⟨v,Γ',ow',rfl,hS,_⟩:=he
  have hput:(a.put o.dst v).tmps=a.tmps.setIfInBounds d v:=by rw[hdst];rfl
  show gG P E bs id (aD o.op) a.defers K (a.put o.dst v) w'
  refine⟨bQ _ _ _,Γ',bs,ow',_,?_,hK,.inl rfl⟩
  rw[hput];exact hS
theorem Ct(h:SR P E Γ bs ow w a.tmps st){o:Oper}{id:Nat}{K:aA->Prop}(hp:HO P E.GE o K st)(Q:Exit->Act->World->Prop):o.wp P a w (gG P E bs id (aD o.op) a.defers K) Q:=by
 unfold HO at hp
 split at hp
 ·rename_i T parts d ho hd
  obtain⟨p,L,h1,h2,h3,h4⟩:=hp
  exact ze h ho hd h3 h1 h2 h4 Q
 ·rename_i T x t ho hd
  obtain⟨i,off,H,cs,own,L,l,hx,ht,hst,hB,hm,hn,hK⟩:=hp
  have htl:t<st.tmps.length:=by
   by_cases hlt:t<st.tmps.length
   ·exact hlt
   ·rw[vak,vaz (vbR hlt)]at ht;cases ht
  have hta:t<a.tmps.size:=by rw[h.sz];exact htl
  have hu:a.tmps[t]? =some a.tmps[t]:=by simp[hta]
  generalize a.tmps[t]=u at hu
  have hvt:=GD h hu
  rw[ht]at hvt
  have hvx:VR Γ bs w (opv E.GE st.tmps x) (a.eval x):=h.opv a.defers x
  rw[hx]at hvx
  obtain⟨w',r1,r2,_,r4⟩:=zI h hvx hvt hst
  have hrun:(execOp a.eval o).run P w=.ok .skip w':=by simp[execOp,ho,eZ hu,r1]
  unfold Oper.wp
  rw[hrun,Oper.upon_skip]
  generalize a.eval x=vx at hvx r1
  cases hvx with
  |bptr _ _ b hb=>
  obtain⟨c1,_⟩:=r4 i off b rfl hb
  obtain⟨ow',g⟩:=SR.moveOwns (off:=off) hb hu L r2 hB hm hn fun y hy=>by
   obtain⟨u',v,e1,e2,_,_⟩:=h.ot t y.1 y.2 (hm y hy)
   rw[hu]at e1
   cases e1
   refine⟨v,e2,?_⟩
   cases hvt with
   |agg _ vs _ _=>exact c1 y.1 v e2
  have hput:a.put o.dst undef=a:=by rw[hd];rfl
  rw[hput]
  exact⟨rfl,Γ,bs,ow',_,g,hK,.inl rfl⟩
 ·rename_i T x d ho hd
  obtain⟨i,off,cs,own,L,l,⟨fs,hfs⟩,hx,hB,hp,hm,hn,hll,hdl,hK⟩:=hp
  have hvx:VR Γ bs w (opv E.GE st.tmps x) (a.eval x):=h.opv a.defers x
  rw[hx]at hvx
  generalize hve:a.eval x=vx at hvx
  cases hvx with
  |bptr _ _ b hb=>
  obtain⟨v,r1,r2,r3⟩:=Cj h hb hB hp
  have hrun:(execOp a.eval o).run P w=.ok (.value v) w:=by simp[execOp,ho,hve,Instr.loadAt,Instr.sureAddr,r1]
  unfold Oper.wp
  rw[hrun,Oper.upon_value]
  have hds:d<a.tmps.size:=by rw[h.sz];exact hdl
  have g1:=h.set (d:=d) r2
  obtain⟨ow',g2⟩:=SR.takeOwns (off:=off) (d:=d) (u:=v) hb (by simp[hds]) L g1 hB hm hn fun y hy=>by
   have:=r3 ⟨_,hfs,trivial⟩ y.1 (hll y hy)
   obtain⟨v',q1,_⟩:=h.ob i (off+y.1) y.2 cs own b hB (hm y hy) hb
   exact⟨v',this.trans q1,q1⟩
  have hput:∀v,(a.put o.dst v).tmps=a.tmps.setIfInBounds d v:=fun v=>by rw[hd];rfl
  rw[<-hput]at g2
  exact⟨bQ _ _ _,Γ,bs,ow',_,g2,hK,.inl rfl⟩
 ·rename_i T x d ho hd
  obtain⟨vs,hvs,hdl,hK⟩:=hp
  have hvx:VR Γ bs w (opv E.GE st.tmps x) (a.eval x):=h.opv a.defers x
  generalize hve:a.eval x=vx at hvx
  obtain⟨k1,k2⟩:=hvx.cells hvs
  obtain⟨g1,hle⟩:=h.alloc_imm vx.cells T vx.cells.size (vao _)
  have hrun:(execOp a.eval o).run P w=.ok (.value (.pointer (some ⟨w.heap.size,0,none⟩))) (w.alloc (.cells vx.cells T)):=by simp[execOp,ho,hve,Instr.box,newVar,newRow]
  unfold Oper.wp
  rw[hrun,Oper.upon_value]
  have hcell:∀j,(w.alloc (.cells vx.cells T)).cell? ⟨w.heap.size,j,none⟩=vx.cells[j]?:=fun j=>cell_of_row _ _ _ _ _ _ (jy w _)
  have hget:∀{k:Nat} {p:PVal},vs[k]? =some p->vx.cells[k]? =some (vx.cells.getD k undef):=fun{k p} hp=>by
   have hlt:k<vx.cells.size:=by rw[k1];exact aq hp
   simp[vat,hlt]
  have hvr:VR (Γ.put w.heap.size vx.cells.size) bs (w.alloc (.cells vx.cells T)) (.eptr vs) (.pointer (some ⟨w.heap.size,0,none⟩)):=
   .eptr vs w.heap.size 0 vx.cells.size (fun k=>vx.cells.getD k undef) (Γ.put_same _ _) (by omega)
    (fun k p hp=>by rw[hcell,vaL];exact hget hp) (fun k p hp=>(k2 k p _ hp (hget hp)).mono hle (.refl _))
  have g2:=g1.set (d:=d) hvr
  have hput:∀v,(a.put o.dst v).tmps=a.tmps.setIfInBounds d v:=fun v=>by rw[hd];rfl
  rw[<-hput]at g2
  exact⟨bQ _ _ _,_,bs,_,_,g2,hK,.inl rfl⟩
 ·rename_i f args tys d ho hd
  obtain⟨r,ro,H',oa,h1,h2,h3⟩:=hp
  exact zl h ho hd h2 h1 h3 Q
 ·exact hp.elim
theorem DJ(h:SR P E Γ bs ow w a.tmps st){A:List Nat}{o:Oper}{id:Nat}(hid:aD o.op=true->bs[id]? =some none){K:aA->Prop}(hp:zH P E.GE A o id K st)(Q:Exit->Act->World->Prop):o.wp P a w (Ee P E bs id (aD o.op) a.defers K) Q:=by
 rcases hp with hp|hp|hp|hp
 ·exact Oper.wp_mono (fun _ _ hA=>hA.to3) (LZ h hid hp Q)
 ·exact Oper.wp_mono (fun _ _ hA=>hA.to3) (Ct h hp Q)
 ·exact M6 h hp Q
 ·exact M4 h hp Q
theorem xl{bs0:bw}{ds:List Deferred}{A:List Nat}{ops:Array Oper}{K:aA->Prop}{Q:Exit->Act->World->Prop}
  (hQ:∀a w st,a.defers=ds->JS P E bs0 st a w->K st->Q .normal a w):
  ∀(rest:List Oper) (k id:Nat) (Γ:aW) (bs:bw) (ow:Nat->Option lA) (a:Act) (w:World) (st:aA),(∀j,rest[j]? =ops[k+j]?)->SR P E Γ bs ow w a.tmps st->a.defers=ds->Pv bs0 bs->bs0.length<=id->
   (∀m,id<=m->m<id+cc rest->bs[m]? =some none)->cV P E.GE A ops K rest id st->wpOps P ops Q ((List.range ops.size).drop k) a w
 | [],k,id,Γ,bs,ow,a,w,st,hr,h,hd,hk,_,_,hp => by
  have hsz:ops.size<=k:=by
   have:=hr 0
   simp only[List.getElem?_nil,Nat.add_zero]at this
   exact vbE.1 this.symm
  rw[List.drop_eq_nil_of_le (by simpa using hsz)]
  exact hQ a w st hd ⟨Γ,bs,ow,h,hk⟩ hp
 | o :: rest,k,id,Γ,bs,ow,a,w,st,hr,h,hd,hk,hid,hfree,hp => by
  have hok:ops[k]? =some o:=by have:=hr 0;simpa using this.symm
  have hlt:k<ops.size:=(vad.1 hok).1
  have hcons:(List.range ops.size).drop k=k::(List.range ops.size).drop (k+1):=by
   rw[vbk (by simpa using hlt)];simp
  rw[hcons,wpOps_cons]
  unfold wpOp
  rw[hok]
  simp only
  have hcnt:cc (o::rest)=(if aD o.op then 1 else 0)+cc rest:=by
   unfold cc
   simp only[vby]
   split<;>simp<;>omega
  have hrest:∀j,rest[j]? =ops[k+1+j]?:=fun j=>by
   have:=hr (j+1)
   simpa[vbT,vcj 1 j]using this
  have hmk:aD o.op=true->bs[id]? =some none:=fun hm=>hfree id (vao _) (by rw[hcnt,hm];simp;omega)
  have step:zH P E.GE A o id (cV P E.GE A ops K rest (id+if aD o.op then 1 else 0)) st->o.wp P a w (wpOps P ops Q ((List.range ops.size).drop (k+1))) Q:=by
   intro hs
   refine Oper.wp_mono (fun a' w' hA=>?_) (DJ h hmk hs Q)
   obtain⟨hd',Γ',bs',ow',st',h1,h2,h3⟩:=hA
   refine xl hQ rest (k+1) _ Γ' bs' ow' a' w' st' hrest h1 (hd'.trans hd) ?_ (by omega) ?_ h2
   ·rcases h3 with rfl|⟨hm,b,rfl⟩|⟨x,rfl⟩
    ·exact hk
    ·intro i hi
     rw[vap (by omega)]
     exact hk i hi
    ·intro i hi
     have hki:=hk i hi
     have hlt:i<bs.length:=by
      have h1:bs0[i]? =some bs0[i]:=vaa hi
      rw[h1]at hki
      exact aq hki
     rw[vac hlt]
     exact hki
   ·intro m hm1 hm2
    have hb:=hfree m (by omega) (by rw[hcnt];omega)
    rcases h3 with rfl|⟨hm,b,rfl⟩|⟨x,rfl⟩
    ·exact hb
    ·rw[hm]at hm1
     simp only[if_true]at hm1
     rw[vap (by omega)]
     exact hb
    ·rw[vac (aq hb)]
     exact hb
  have skip:cV P E.GE A ops K rest (id+if aD o.op then 1 else 0) (vF st o.dst (.val undef) [] st.boxes)->wpOps P ops Q ((List.range ops.size).drop (k+1)) (a.put o.dst undef) w:=by
   intro hs
   refine xl hQ rest (k+1) _ Γ bs ow (a.put o.dst undef) w _ hrest (h.putv_nil (.val undef) o.dst rfl) ((bQ _ _ _).trans hd) hk (by omega) (fun m hm1 hm2=>hfree m (by omega) (by rw[hcnt];omega)) hs
  simp only[cV]at hp
  have hgo:(Region.wanted o (yielded ops a.tmps)=true->o.wp P a w (wpOps P ops Q ((List.range ops.size).drop (k+1))) Q)/\(¬Region.wanted o (yielded ops a.tmps)=true->wpOps P ops Q ((List.range ops.size).drop (k+1)) (a.put o.dst undef) w):=by
   split at hp
   ·rename_i hg
    exact⟨fun _=>step hp,fun hn=>absurd (by simp[Region.wanted,hg]) hn⟩
   ·rename_i j want hg
    split at hp
    ·rename_i x hx
     have hw:Region.wanted o (yielded ops a.tmps)=(x==some want):=by simp[Region.wanted,hg,Ft h hx]
     rw[hw]
     exact⟨fun hx=>step (hp.1 (by simpa using hx)),fun hx=>skip (hp.2 (by simpa using hx))⟩
    ·exact hp.elim
  by_cases hw:Region.wanted o (yielded ops a.tmps)=true
  ·rw[vax hw];exact .inl (hgo.1 hw)
  ·rw[vay hw];exact hgo.2 hw
theorem BD{bs0:bw}{A:List Nat}{ops:Array Oper}{K:aA->Prop}{Q:Exit->Act->World->Prop}(hR:JS P E bs0 st a w)(hl:bs0.length<=st.boxes.length)
  (hQ:∀a' w' st',a'.defers=a.defers->JS P E bs0 st' a' w'->K st'->Q .normal a' w') (hp:cV P E.GE A ops K ops.toList st.boxes.length {st with boxes:=st.boxes++fK P ops.toList}):
  wpOps P ops Q (List.range ops.size) a w:=by
 obtain⟨Γ,bs,ow,h,hk⟩:=hR
 have hext:=h.extend (fK P ops.toList)
 have hlen:=xQ P ops.toList
 have:=xl (P:=P) (E:=E) (bs0:=bs0) (ds:=a.defers) hQ ops.toList 0 st.boxes.length Γ _ ow a w _ (fun j=>by simp) hext rfl (fun i hi=>?_) hl (fun m hm1 hm2=>?_) hp
 ·simpa using this
 ·rw[vac (by rw[h.bl];omega)];exact hk i hi
 ·rw[vaf (by rw[h.bl];omega),vaQ,vax (by rw[h.bl];omega)]
end
def Fh(ro:Option Nat)(P:Program)(c:Code)(Q:Exit->Act->World->Prop)(a:Act)(w:World):Prop:=match ro with
 |none=>c.wp P Q a w
 |some l=>∀n,c.wpIn (Fence.wide.inRound l) n P Q a w
def fb(o:Oper):Bool:=match o.op with
 |.defer _=>false
 |_=>true
section
variable{P:Program}{ro:Option Nat}{Q:Exit->Act->World->Prop}{a:Act}{w:World}
theorem kq{c:Code}{Q':Exit->Act->World->Prop}(h:Fh ro P c Q a w)(hq:∀e a w,Q e a w->Q' e a w):Fh ro P c Q' a w:=by
 cases ro with
 |none=>exact wp_mono h hq
 |some l=>exact fun n=>wpIn_mono (h n) hq
theorem Lj(h:Q .normal a w):Fh ro P .skip Q a w:=by
 cases ro with
 |none=>exact wp_skip h
 |some l=>exact fun n=>wpIn_skip h
theorem Ok{l:Nat}(h:Q .normal a w):Fh ro P (.label l) Q a w:=by
 cases ro with
 |none=>exact wp_label h
 |some l=>exact fun n=>wpIn_label h
theorem Li{id:Nat}(h:Q (.exit id) a w):Fh ro P (.exit id) Q a w:=by
 cases ro with
 |none=>exact wp_exit h
 |some l=>exact fun n=>wpIn_exit h
theorem Rx(h:Q .ret a w):Fh ro P .ret Q a w:=by
 cases ro with
 |none=>exact wp_ret h
 |some l=>exact fun n=>wpIn_ret h
theorem Df{x y:Code}(h:Fh ro P x (Exit.then (Fh ro P y Q) Q) a w):Fh ro P (.seq x y) Q a w:=by
 cases ro with
 |none=>exact wp_seq h
 |some l=>exact fun n=>wpIn_seq (wpIn_mono (h n) fun e a w hq=>by cases e<;>first|exact hq n|exact hq)
theorem G3{c:Operand}{x y:Code}{t:Bool}(hc:a.eval c=.bool t)(h1:t=true->Fh ro P x Q a w)(h2:t=false->Fh ro P y Q a w):Fh ro P (.cond c x y) Q a w:=by
 cases t with
 |true=>cases ro with
  |none=>exact wp_cond hc (h1 rfl)
  |some l=>exact fun n=>wpIn_cond hc (h1 rfl n)
 |false=>cases ro with
  |none=>exact wp_cond hc (h2 rfl)
  |some l=>exact fun n=>wpIn_cond hc (h2 rfl n)
theorem Ji{id:Nat}{c:Code}(h:Fh ro P c (Exit.inBlock id Q) a w):Fh ro P (.block id c) Q a w:=by
 cases ro with
 |none=>exact wp_block h
 |some l=>exact fun n=>wpIn_block (h n)
theorem zi{c:Code}(I:Nat->Act->World->Prop)(n₀:Nat)(h₀:I n₀ a w)(round:∀n a w,I n a w->Fh ro P c (Exit.then (fun a' w'=>∃n',n'<n/\I n' a' w') Q) a w):Fh ro P (.loop c) Q a w:=by
 cases ro with
 |none=>exact wp_loop_ghost I n₀ h₀ round
 |some l=>exact fun n=>wpIn_loop_ghost I n₀ h₀ fun k a w hI=>round k a w hI n
theorem R6{l n:Nat}{row:String}{args:Array Value}{R:Value->World->Prop}(h:Rows P row args w R):RowsIn (Fence.wide.inRound l) n P row args w R:=fun c cs _=>by
 obtain⟨v,w',r,s⟩:=h c cs
 exact⟨v,w',r,by rw[fenced_inRound];exact stepsIn_wide.2 s⟩
theorem PK{l n:Nat}{f:FuncId}{args:Array Value}{R:Ending->World->Prop}(h:Calls P f args w R):CallsIn (Fence.wide.inRound l) n P f args w R:=CallsIn.inRound l (callsIn_wide.2 h)
theorem NM{l n:Nat}{o:Oper}{next:Act->World->Prop}(hd:fb o=true)(h:o.wp P a w next Q):o.wpIn (Fence.wide.inRound l) n P a w next Q:=by
 refine⟨fun _ _=>trivial,?_⟩
 have hs:o.semAt (Fence.wide.inRound l).round a.eval=execOp a.eval o:=Oper.semAt_eq _ _ _ fun c hc=>by unfold fb at hd;rw[hc]at hd;cases hd
 rw[hs]
 unfold Oper.wp at h
 generalize (execOp a.eval o).run P w=r at *
 have hdep:(Fence.wide.inRound l).depth.isSome=true->1<=n:=fun h=>by simp[Fence.wide]at h
 cases r with
 | ok x w' =>
  cases x<;>simp only[Oper.upon]at h<;>simp only[Oper.uponIn]<;>first
   |exact h.elim
   |exact h
   |exact⟨hdep,PK h⟩
   |exact⟨hdep,R6 h⟩
 |halt x w'=>cases x<;>simp only[Oper.upon]at h<;>simp only[Oper.uponIn]<;>exact h
theorem DC{l n:Nat}{ops:Array Oper}(hd:ops.toList.all fb=true)(hQ:¬LetsOut Q):∀(L:List Nat) (a:Act) (w:World),wpOps P ops Q L a w->wpOpsIn (Fence.wide.inRound l) n P ops Q L a w
 |[],a,w,h=>h
 | i :: rest,a,w,h => by
  unfold wpOps at h
  unfold wpOpsIn
  split at h
  ·rename_i ho;simp only[ho];exact DC hd hQ rest a w h
  ·rename_i o ho
   simp only[ho]
   have hn:fb o=true:=vaq.1 hd o (by
    have:=vck ho
    simpa using this)
   split at h
   ·rename_i hw
    rw[vax hw]
    rcases h with h|h
    ·exact Oper.wpIn_mono (fun a w h=>DC hd hQ rest a w h) (NM hn h)
    ·exact absurd h.2 hQ
   ·rename_i hw
    rw[vay hw]
    exact⟨fun _ _=>trivial,DC hd hQ rest _ w h⟩
theorem RO{l n:Nat}{ops:Array Oper}(hd:ops.toList.all fb=true)(hQ:¬LetsOut Q){i:Nat}{K:Act->World->Prop}(h:wpOp P ops Q i K a w):wpOpIn (Fence.wide.inRound l) n P ops Q i K a w:=by
 unfold wpOp at h
 unfold wpOpIn
 split at h
 ·rename_i ho;simp only[ho];exact h
 ·rename_i o ho
  simp only[ho]
  have hn:fb o=true:=vaq.1 hd o (by
   have:=vck ho
   simpa using this)
  split at h
  ·rename_i hw
   rw[vax hw]
   rcases h with h|h
   ·exact NM hn h
   ·exact absurd h.2 hQ
  ·rename_i hw
   rw[vay hw]
   exact⟨fun _ _=>trivial,h⟩
theorem K7{l n:Nat}{md:Region.Mode}{ops:Array Oper}(hd:ops.toList.all fb=true)(hQ:¬LetsOut Q):∀(fuel:Nat) (listed:Array Bool) (a:Act) (w:World),wpAny P md ops Q fuel listed a w->wpAnyIn (Fence.wide.inRound l) n P md ops Q fuel listed a w
 |0,_,_,_,h=>h
 |fuel+1,_,_,_,h=>⟨h.1,fun i hi=>wpOpIn_mono (fun a w h=>K7 hd hQ fuel _ a w h) (RO hd hQ (h.2 i hi))⟩
theorem w8{id:Nat}{ops:Array Oper}(hd:ops.toList.all fb=true)(hQ:¬LetsOut Q)(h:wpOps P ops Q (List.range ops.size) a w):Fh ro P (.region id ops false) Q a w:=by
 cases ro with
 |none=>exact wp_region h
 |some l=>exact fun n=>wpIn_region (DC hd hQ _ _ _ h)
theorem zj{id:Nat}{ops:Array Oper}(hf:P.follows .mixedOrders=true)(hd:ops.toList.all fb=true)(hQ:¬LetsOut Q)
  (h:wpAny P .any ops Q ops.size (Array.replicate ops.size false) a {w with drawn:=w.drawn+1}):Fh ro P (.region id ops true) Q a w:=by
 cases ro with
 |none=>exact wp_region_any hf h
 |some l=>exact fun n=>wpIn_region_any hf (K7 hd hQ _ _ _ _ h)
end
section plain
variable{σ X:Type}
def sd(body:σ->Option (σ⊕X)):Nat->σ->Option X
 |0,_=>none
 |n+1,s=>match body s with
  |none=>none
  |some (.inl s')=>sd body n s'
  |some (.inr x)=>some x
theorem Hr{body:σ->Option (σ⊕X)}:∀{n:Nat} {s:σ} {x:X},sd body n s=some x->∀k,sd body (n+k) s=some x
 |0,_,_,h,_=>by cases h
 | n + 1,s,x,h,k => by
  rw[Nat.add_right_comm]
  unfold sd at h ⊢
  split at h
  ·cases h
  ·exact Hr h k
  ·exact h
theorem Ju{body:σ->Option (σ⊕X)}{n m:Nat}{s:σ}{x y:X}(h1:sd body n s=some x)(h2:sd body m s=some y):x=y:=by
 have h3:=Hr h1 m
 have h4:=Hr h2 n
 rw[vcj]at h4
 exact vbf (h3.symm.trans h4)
open Classical in
def Qd(body:σ->Option (σ⊕X))(s:σ):Option X:=if h:∃x n,sd body n s=some x then some h.choose else none
def Sj:Nat:=2 ^ 200
def loop(body:σ->Option (σ⊕X))(s:σ):Option X:=match sd body Sj s with
 |some x=>some x
 |none=>Qd body s
theorem Au{body:σ->Option (σ⊕X)}{s:σ}{x:X}:loop body s=some x↔∃n,sd body n s=some x:=by
 have hC:Qd body s=some x↔∃n,sd body n s=some x:=by
  unfold Qd
  constructor
  ·intro h
   split at h
   ·rename_i he;cases h;exact he.choose_spec
   ·cases h
  ·rintro⟨n,h⟩
   have he:∃x n,sd body n s=some x:=⟨x,n,h⟩
   rw[dif_pos he]
   obtain⟨m,hm⟩:=he.choose_spec
   rw[Ju hm h]
 unfold loop
 split
 ·rename_i y hy
  exact⟨fun h=>⟨Sj,hy.trans h⟩,fun⟨n,h⟩=>vaU some (Ju hy h)⟩
 ·exact hC
theorem mG(body:σ->Option (σ⊕X))(s:σ):loop body s=match body s with
  |none=>none
  |some (.inl s')=>loop body s'
  |some (.inr x)=>some x:=by
 have key:∀y,loop body s=some y↔(match body s with
  |none=>none
  |some (.inl s')=>loop body s'
  |some (.inr x)=>some x)=some y:=by
  intro y
  rw[Au]
  constructor
  ·rintro⟨n,h⟩
   cases n with
   |zero=>cases h
   | succ n =>
    unfold sd at h
    cases hb:body s with
    |none=>rw[hb]at h;cases h
    |some v=>
     cases v with
     |inl s'=>rw[hb]at h;exact Au.2 ⟨n,h⟩
     |inr x=>rw[hb]at h;exact h
  ·intro h
   cases hb:body s with
   |none=>rw[hb]at h;cases h
   | some v =>
    cases v with
    |inl s'=>
     rw[hb]at h
     obtain⟨n,hn⟩:=Au.1 h
     exact⟨n+1,by unfold sd;rw[hb];exact hn⟩
    |inr x=>rw[hb]at h;exact⟨1,by unfold sd;rw[hb];exact h⟩
 cases h1:loop body s with
 | none =>
  cases h2:(match body s with
   |none=>none
   |some (.inl s')=>loop body s'
   |some (.inr x)=>some x)with
  |none=>rfl
  |some y=>rw[(key y).2 h2]at h1;cases h1
 |some y=>exact((key y).1 h1).symm
def fJ{α:Type}(l:List α)(i:Int):Option α:=if 0<=i then l[i.toNat]? else none
theorem aG{α β:Type}{o:Option α}{k:α->Option β}{x:β}(h:o.bind k=some x):∃a,o=some a/\k a=some x:=by
 cases o with
 |none=>cases h
 |some a=>exact⟨a,rfl,h⟩
theorem aN{β:Type}{b:Bool}{x y:Option β}{z:β}(h:(if b=true then x else y)=some z):(b=true/\x=some z)\/(b=false/\y=some z):=by
 cases b
 ·exact .inr ⟨rfl,h⟩
 ·exact .inl ⟨rfl,h⟩
end plain
structure rX(GE:List (Nat×List PVal))(m:Nat)(E:pX):Prop where
 ge:E.GE=GE
 low:∀b n,E.Γ b=some n->b<E.w.heap.size
 nt:m=0->∀b,¬E.T b
 gl:∀g cs,(g,cs)∈GE->VR E.Γ [] E.w (.eptr cs) (.pointer (some ⟨g,0,none⟩))
def aQ(P:Program)(GE:List (Nat×List PVal))(m:Nat)(c:Code)(Q:Exit->aA->Prop)(st:aA):Prop:=
 ∀(ro:Option Nat) (E:pX) (bs0:bw) (a:Act) (w:World),rX GE m E->bs0.length=m % 1000->JS P E bs0 st a w->Fh ro P c (I4 P E bs0 a.defers Q) a w
def EX(e:Exit)(st:aA):Exit->aA->Prop:=fun e' st'=>e'=e/\st'=st
def yl(P:Program)(m:Nat)(st st':aA):Prop:=∀(E:pX) (bs0:bw) (a:Act) (w:World),bs0.length=m % 1000->JS P E bs0 st a w->JS P E bs0 st' a w
section
variable{P:Program}{GE:List (Nat×List PVal)}{m:Nat}
theorem yl.refl(st:aA):yl P m st st:=fun _ _ _ _ _ h=>h
theorem yl.trans{a b c:aA}(h:yl P m a b)(h':yl P m b c):yl P m a c:=fun E bs0 x w hb h0=>h' E bs0 x w hb (h E bs0 x w hb h0)
theorem yl.of_less{st st':aA}(h:TT st st')(hm:m % 1000<=st'.boxes.length):yl P m st st':=fun _ _ _ _ hb hR=>hR.less h (by rw[hb];exact hm)
theorem aQ.mono{c:Code}{Q Q':Exit->aA->Prop}{st:aA}(h:aQ P GE m c Q st)(hq:∀e st,Q e st->∃st',yl P m st st'/\Q' e st'):aQ P GE m c Q' st:=
 fun ro E bs0 a w hE hb hR=>kq (h ro E bs0 a w hE hb hR) fun e a' w' hP=>by
  obtain⟨hd,st1,hR1,hQ⟩:=hP
  obtain⟨st2,hw,hQ2⟩:=hq e st1 hQ
  exact⟨hd,st2,hw E bs0 a' w' hb hR1,hQ2⟩
theorem aQ.imp{c:Code}{Q Q':Exit->aA->Prop}{st:aA}(h:aQ P GE m c Q st)(hq:∀e st,Q e st->Q' e st):aQ P GE m c Q' st:=h.mono fun e st hQ=>⟨st,.refl st,hq e st hQ⟩
theorem aQ.weak{c:Code}{Q:Exit->aA->Prop}{st st':aA}(hw:yl P m st st')(h:aQ P GE m c Q st'):aQ P GE m c Q st:=
 fun ro E bs0 a w hE hb hR=>h ro E bs0 a w hE hb (hw E bs0 a w hb hR)
theorem aQ.skip{Q:Exit->aA->Prop}{st:aA}(h:Q .normal st):aQ P GE m .skip Q st:=fun _ _ _ _ _ _ _ hR=>Lj ⟨rfl,st,hR,h⟩
theorem aQ.label{l:Nat}{Q:Exit->aA->Prop}{st:aA}(h:Q .normal st):aQ P GE m (.label l) Q st:=fun _ _ _ _ _ _ _ hR=>Ok ⟨rfl,st,hR,h⟩
theorem aQ.exit{id:Nat}{Q:Exit->aA->Prop}{st:aA}(h:Q (.exit id) st):aQ P GE m (.exit id) Q st:=fun _ _ _ _ _ _ _ hR=>Li ⟨rfl,st,hR,h⟩
theorem aQ.ret{Q:Exit->aA->Prop}{st:aA}(h:Q .ret st):aQ P GE m .ret Q st:=fun _ _ _ _ _ _ _ hR=>Rx ⟨rfl,st,hR,h⟩
theorem aQ.seq{x y:Code}{Q:Exit->aA->Prop}{st:aA}(h:aQ P GE m x (fun e st'=>match e with|.normal=>aQ P GE m y Q st'|e=>Q e st') st):aQ P GE m (.seq x y) Q st:=by
 intro ro E bs0 a w hE hb hR
 refine Df (kq (h ro E bs0 a w hE hb hR) fun e a' w' hq=>?_)
 obtain⟨hd,st',hR',hq⟩:=hq
 cases e with
 |normal=>
  have:=hq ro E bs0 a' w' hE hb hR'
  rw[hd]at this
  exact this
 |exit id=>exact⟨hd,st',hR',hq⟩
 |goto l=>exact⟨hd,st',hR',hq⟩
 |ret=>exact⟨hd,st',hR',hq⟩
 |panic c=>exact⟨hd,st',hR',hq⟩
 |outgrown=>exact⟨hd,st',hR',hq⟩
theorem aQ.cond{c:Operand}{x y:Code}{Q:Exit->aA->Prop}{st:aA}{t:Bool}(hv:opv GE st.tmps c=.bool t)(h1:t=true->aQ P GE m x Q st)(h2:t=false->aQ P GE m y Q st):aQ P GE m (.cond c x y) Q st:=by
 intro ro E bs0 a w hE hb hR
 obtain⟨Γ,bs,ow,h,hk⟩:=hR
 have hv':=h.opv a.defers c
 rw[hE.ge,hv]at hv'
 generalize hc:(Act.mk a.tmps a.defers).eval c=vc at hv'
 cases hv'
 exact G3 (t:=t) hc (fun ht=>h1 ht ro E bs0 a w hE hb ⟨Γ,bs,ow,h,hk⟩) (fun ht=>h2 ht ro E bs0 a w hE hb ⟨Γ,bs,ow,h,hk⟩)
theorem aQ.block{id:Nat}{c:Code}{Q:Exit->aA->Prop}{st:aA}(h:aQ P GE m c (Mv id Q) st):aQ P GE m (.block id c) Q st:=by
 intro ro E bs0 a w hE hb hR
 refine Ji (kq (h ro E bs0 a w hE hb hR) fun e a' w' hq=>?_)
 obtain⟨hd,st',hR',hq⟩:=hq
 cases e with
 | exit id' =>
  simp only[Mv]at hq
  simp only[Exit.inBlock]
  split at hq
  ·rename_i hid;rw[vax hid];exact⟨hd,st',hR',hq⟩
  ·rename_i hid;rw[vay hid];exact⟨hd,st',hR',hq⟩
 |normal=>exact⟨hd,st',hR',hq⟩
 |goto l=>exact⟨hd,st',hR',hq⟩
 |ret=>exact⟨hd,st',hR',hq⟩
 |panic c=>exact⟨hd,st',hR',hq⟩
 |outgrown=>exact⟨hd,st',hR',hq⟩
theorem aQ.text{A:List Nat}{id:Nat}{ops:Array Oper}{Q:Exit->aA->Prop}{st:aA}(hd:ops.toList.all fb=true)
  (h:cV P GE A ops (Q .normal) ops.toList st.boxes.length {st with boxes:=st.boxes++fK P ops.toList}):aQ P GE m (.region id ops false) Q st:=by
 intro ro E bs0 a w hE hb hR
 obtain⟨rfl,_,_,_⟩:=hE
 refine kq (w8 (Q:=fun e a' w'=>e=.normal/\I4 P E bs0 a.defers Q .normal a' w') hd (by rintro⟨_,_,h,_⟩;cases h) ?_) fun e a' w' hq=>by obtain⟨rfl,hq⟩:=hq;exact hq
 exact BD hR hR.len (fun a' w' st' hd hR' hK=>⟨rfl,hd,st',hR',hK⟩) h
def LQ{σ X:Type}(S:σ->aA)(ex:X->Exit)(so:X->aA):σ⊕X->Exit->aA->Prop
 |.inl s,e,st=>e=.normal/\st=S s
 |.inr x,e,st=>e≠.normal/\e=ex x/\st=so x
theorem aQ.loop{σ X:Type}{S:σ->aA}{ex:X->Exit}{so:X->aA}{body:σ->Option (σ⊕X)}{c:Code}{s:σ}{x:X}(h:loop body s=some x)
  (hb:∀s y,body s=some y->aQ P GE m c (LQ S ex so y) (S s)):aQ P GE m (.loop c) (EX (ex x) (so x)) (S s):=by
 obtain⟨n,hn⟩:=Au.1 h
 intro ro E bs0 a w hE hb0 hR
 refine zi (fun k a' w'=>a'.defers=a.defers/\∃s',JS P E bs0 (S s') a' w'/\sd body k s'=some x) n ⟨rfl,s,hR,hn⟩ ?_
 intro k a1 w1 hI
 obtain⟨hd1,s1,hR1,hl⟩:=hI
 cases k with
 |zero=>cases hl
 | succ k =>
  unfold sd at hl
  split at hl
  ·cases hl
  ·rename_i s2 hs2
   refine kq (hb s1 _ hs2 ro E bs0 a1 w1 hE hb0 hR1) fun e a' w' hq=>?_
   obtain⟨hd,st',hR',rfl,rfl⟩:=hq
   exact⟨k,vcf k,hd.trans hd1,s2,hR',hl⟩
  ·rename_i x2 hs2
   cases hl
   refine kq (hb s1 _ hs2 ro E bs0 a1 w1 hE hb0 hR1) fun e a' w' hq=>?_
   obtain⟨hd,st',hR',hne,rfl,rfl⟩:=hq
   have hd':=hd.trans hd1
   cases hex:ex x with
   |normal=>exact absurd hex hne
   |exit id=>exact⟨hd',_,hR',rfl,rfl⟩
   |goto l=>exact⟨hd',_,hR',rfl,rfl⟩
   |ret=>exact⟨hd',_,hR',rfl,rfl⟩
   |panic c=>exact⟨hd',_,hR',rfl,rfl⟩
   |outgrown=>exact⟨hd',_,hR',rfl,rfl⟩
def Jm:List PVal->List PVal->List PVal
 |[],_=>[]
 |_::ps,[]=>.undef::Jm ps []
 |_::ps,.undef::qs=>.undef::Jm ps qs
 |p::ps,_::qs=>p::Jm ps qs
def zk:aB->aB->aB
 |_,.dead=>.dead
 |.cells cs own,.cells _ own'=>.cells cs (match own'.all fun x=>decide (x∈own)with
  |true=>own'
  |false=>own)
 |p,_=>p
def KX:List aB->List aB->List aB
 |[],_=>[]
 |p::ps,[]=>p::KX ps []
 |p::ps,q::qs=>zk p q::KX ps qs
def Wb(B B':aB):Prop:=B=.dead\/B=B'\/∃cs own own',B'=.cells cs own/\B=.cells cs own'/\∀x∈own',x∈own
theorem Nx(p q:aB):Wb (zk p q) p:=by
 unfold zk
 split
 ·exact .inl rfl
 ·split
  ·rename_i h
   exact .inr (.inr ⟨_,_,_,rfl,rfl,fun x hx=>by simpa using vaq.1 h x hx⟩)
  ·exact .inr (.inl rfl)
 ·exact .inr (.inl rfl)
theorem Lo(p:PVal)(ps qs:List PVal):∃q r,Jm (p::ps) qs=q::Jm ps r/\(q=.undef\/q=p):=by
 cases qs with
 |nil=>exact⟨_,[],by simp[Jm],.inl rfl⟩
 |cons q qs=>cases q<;>first|(refine⟨p,qs,?_,.inr rfl⟩;simp only[Jm];done)|(refine⟨.undef,qs,?_,.inl rfl⟩;simp only[Jm];done)
theorem Kg:∀{l bs:List PVal} {i:Nat} {p:PVal},(Jm l bs)[i]? =some p->p=.undef\/l[i]? =some p
 |[],bs,i,p,h=>by simp[Jm]at h
 |q::l,bs,i,p,h=>by
  obtain⟨q',r,h1,h2⟩:=Lo q l bs
  rw[h1]at h
  cases i with
  |zero=>simp at h;subst h;rcases h2 with h2|h2<;>simp[h2]
  |succ i=>simpa using Kg (by simpa using h)
theorem Kh:∀{l bs:List PVal},(Jm l bs).length=l.length
 |[],bs=>by simp[Jm]
 |q::l,bs=>by obtain⟨q',r,h1,h2⟩:=Lo q l bs;rw[h1];simp[Kh]
theorem Gy:∀{l bs:List aB} {i:Nat} {B:aB},(KX l bs)[i]? =some B->∃B',l[i]? =some B'/\Wb B B'
 |[],bs,i,p,h=>by simp[KX]at h
 |q::l,[],i,B,h=>by
  simp only[KX]at h
  cases i with
  |zero=>simp at h;subst h;exact⟨q,rfl,.inr (.inl rfl)⟩
  |succ i=>simpa using Gy (by simpa using h)
 |q::l,r::bs,i,B,h=>by
  simp only[KX]at h
  cases i with
  |zero=>simp at h;subst h;exact⟨q,rfl,Nx q r⟩
  |succ i=>simpa using Gy (by simpa using h)
theorem Kf:∀{l bs:List aB},(KX l bs).length=l.length
 |[],bs=>by simp[KX]
 |q::l,[]=>by simp only[KX,vaW,Kf]
 |q::l,r::bs=>by simp only[KX,vaW,Kf]
theorem yl.forget{st:aA}(bt:List PVal)(bb:List aB)(own:List ((Nat×Nat)×TypeId))(ho:∀x∈own,x∈st.own):yl P m st ⟨Jm st.tmps bt,KX st.boxes bb,own⟩:=by
 intro E bs0 a w hb hR
 obtain⟨Γ,bs,ow,h,hk⟩:=hR
 refine⟨Γ,bs,ow,?_,hk⟩
 exact{h with
  sz:=by rw[h.sz];exact Kh.symm
  tm:=fun t p v hp hv=>by
   rcases Kg hp with rfl|hp'
   ·exact .undef v
   ·exact h.tm t p v hp' hv
  bl:=by rw[h.bl];exact Kf.symm
  bx:=fun i b B hib hB=>by
   obtain⟨B',hB',hx⟩:=Gy hB
   obtain⟨k1,k2,k3⟩:=h.bx i b B' hib hB'
   rcases hx with rfl|rfl|⟨cs,own,own',rfl,rfl,_⟩
   ·exact⟨k1,k2,trivial⟩
   ·exact⟨k1,k2,k3⟩
   ·exact⟨k1,k2,k3⟩
  ot:=fun t k e he=>h.ot t k e (ho _ he)
  ob:=fun i j e cs own' b hB hj hib=>by
   obtain⟨B',hB',hx⟩:=Gy hB
   rcases hx with hx|rfl|⟨cs1,qA,own2,rfl,e2,hs⟩
   ·cases hx
   ·exact h.ob i j e cs own' b hB' hj hib
   ·cases e2;exact h.ob i j e _ qA b hB' (hs _ hj) hib}
theorem EX.of{c:Code}{e:Exit}{st st0:aA}{Q:Exit->aA->Prop}(h:aQ P GE m c (EX e st0) st)(hq:Q e st0):aQ P GE m c Q st:=
 h.imp fun e' st' hx=>by obtain⟨rfl,rfl⟩:=hx;exact hq
end
structure GC where
 ρ:List Nat
 argsC:List PVal
 oa:List OA
 Bs:List aB
 Hc:List aB
 Bs':List aB
 Hc':List aB
 r:PVal
 rc:PVal
 ro:List (Nat×TypeId)
inductive It where
 |cg (c:GC)
 |cn (c:GC)
 |ar (i:Nat) (e:TypeId) (n:Nat) (cs:List PVal)
 |fz (i:Nat) (es:List (List PVal)) (lv rk:List Nat)
 |g (j:Nat) (b:Bool)
 |k
 |s
 |v (p:PVal)
 |x (cs:List PVal)
 |w (i:Nat) (B:aB)
 |c (r:PVal) (ro:List (Nat×TypeId))
 |dr (an:List Nat)
 |dx (an:List Nat) (X:List aB) (br:List (Nat×Nat)) (rw:List Nat)
 |pa (n:Nat)
 |pc (st0:aA) (e:Exit) (st1:aA)
 |b (p:PVal) (L:List (Nat×TypeId))
 |y (vs:List PVal)
 |z (l:List PVal)
 |e (vs:List PVal)
def vw:List PVal->Nat->(PVal->Prop)->Prop
 |[],_,k=>k .undef
 |p::_,0,k=>k p
 |_::l,n+1,k=>vw l n k
theorem je:∀(l:List PVal) (n:Nat) (k:PVal->Prop),vw l n k=k (l.getD n .undef)
 |[],_,_=>by simp[vw]
 |_::_,0,_=>by simp[vw]
 |_::l,n+1,k=>by simp only[vw,je l n k,List.getD_cons_succ]
def gu{α:Type}:List α->Nat->α->(List α->Prop)->Prop
 |[],_,_,k=>k []
 |_::l,0,v,k=>k (v::l)
 |x::l,n+1,v,k=>gu l n v fun l'=>k (x::l')
theorem bG{α:Type}:∀(l:List α) (n:Nat) (v:α) (k:List α->Prop),gu l n v k=k (l.set n v)
 |[],_,_,_=>by simp[gu]
 |_::_,0,_,_=>by simp[gu]
 |x::l,n+1,v,k=>by simp only[gu,bG l n v,List.set_cons_succ]
def bE{α:Type}:List α->(List α->Prop)->Prop
 |[],k=>k []
 |x::l,k=>bE l fun l'=>k (x::l')
def FX(l:List aB)(r:List aB)(k:List aB->Prop):Prop:=bE (l++r) k
theorem aM{α:Type}:∀(l:List α) (k:List α->Prop),bE l k=k l
 |[],_=>rfl
 |x::l,k=>by simp only[bE,aM l]
def SF:Value->(PVal->Prop)->Prop
 |.int a n,k=>k (.int a n)
 |.bool b,k=>k (.bool b)
 |.string s,k=>bE s.data.toList fun l=>k (.str l)
 |v,k=>k (absV v)
theorem Q9(v:Value)(k:PVal->Prop):SF v k=k (absV v):=by
 unfold SF
 split
 ·rfl
 ·rfl
 ·rw[aM];rfl
 ·rfl
def oF(GE:List (Nat×List PVal))(tmps:List PVal)(x:Operand)(k:PVal->Prop):Prop:=
 match x with
 |.tmp t=>vw tmps t k
 |.const v=>SF v k
 |x=>k (opv GE tmps x)
theorem bW(GE:List (Nat×List PVal))(tmps:List PVal)(x:Operand)(k:PVal->Prop):oF GE tmps x k=k (opv GE tmps x):=by
 cases x with
 |tmp t=>exact je _ _ _
 |const v=>exact Q9 _ _
 |global g=>rfl
 |func f=>rfl
def HD(GE:List (Nat×List PVal))(tmps:List PVal):List Operand->(List PVal->Prop)->Prop
 |[],k=>k []
 |x::l,k=>oF GE tmps x fun p=>HD GE tmps l fun ps=>k (p::ps)
theorem n9(GE:List (Nat×List PVal))(tmps:List PVal):∀(l:List Operand) (k:List PVal->Prop),HD GE tmps l k=k (l.map (opv GE tmps))
 |[],_=>rfl
 |x::l,k=>by simp only[HD,bW,n9 GE tmps l,vaB]
def vE(GE:List (Nat×List PVal))(tmps:List PVal):List (Nat×Operand)->(List (Nat×PVal)->Prop)->Prop
 |[],k=>k []
 |x::l,k=>oF GE tmps x.2 fun p=>vE GE tmps l fun ps=>k ((x.1,p)::ps)
theorem oG(GE:List (Nat×List PVal))(tmps:List PVal):∀(l:List (Nat×Operand)) (k:List (Nat×PVal)->Prop),vE GE tmps l k=k (l.map fun x=>(x.1,opv GE tmps x.2))
 |[],_=>rfl
 |x::l,k=>by simp only[vE,bW,oG GE tmps l,vaB]
def RP(GE:List (Nat×List PVal))(tmps:List PVal):Option Operand->(Option PVal->Prop)->Prop
 |none,k=>k none
 |some x,k=>oF GE tmps x fun p=>k (some p)
theorem RQ(GE:List (Nat×List PVal))(tmps:List PVal)(o:Option Operand)(k:Option PVal->Prop):RP GE tmps o k=k (o.map (opv GE tmps)):=by
 cases o with
 |none=>rfl
 |some x=>simp only[RP,bW,vag]
def CR(sc:List It)(f:PVal->Prop)(K:PVal->List It->Prop):Prop:=
 match sc with
 |.v p::sc'=>f p/\K p sc'
 |_=>False
def IJ(o:Option PVal)(K:PVal->Prop):Prop:=
 match o with
 |some p=>K p
 |none=>False
theorem uB{o:Option PVal}{K:PVal->Prop}(h:IJ o K):∃p,o=some p/\K p:=by
 unfold IJ at h
 split at h
 ·exact⟨_,rfl,h⟩
 ·exact h.elim
theorem mN{sc:List It}{f:PVal->Prop}{K:PVal->List It->Prop}(h:CR sc f K):∃p sc',f p/\K p sc':=by
 unfold CR at h
 split at h
 ·exact⟨_,_,h⟩
 ·exact h.elim
def CC(P:Program)(GE:List (Nat×List PVal))(g:FuncId)(args:List PVal)(r:PVal)(ro:List (Nat×TypeId)):Prop:=iN 0 args/\C P GE g args [] [] r ro []
def HJ(P:Program)(t:TypeId)(es:List (PVal×PVal))(k:PVal)(ok:Bool):Option PVal:=
 match P.underlying t with
 | some (.map kt e) => match P.underlying kt with
  | some kd =>
   if nX kd k then
    match zE k es 0,ES P e with
    |some (some (_,v)),_=>some (if ok then .tuple [v,.bool true]else v)
    |some none,some z=>some (if ok then .tuple [z,.bool false]else z)
    |_,_=>none
   else none
  |_=>none
 |_=>none
theorem OR{P:Program}{t:TypeId}{es:List (PVal×PVal)}{k p:PVal}{ok:Bool}{H:List aB}{i:Nat}(hB:H[i]? =some (.map es))(h:HJ P t es k ok=some p):uJ P t (.mapr i) k ok H=some p:=by
 unfold HJ at h
 unfold uJ
 split at h
 ·rename_i kt e hu
  split at h
  ·rename_i kd hk
   simp only[hu,hB,hk]
   exact h
  ·cases h
 ·cases h
def JG(P:Program)(t:TypeId)(es:List (PVal×PVal))(k v:PVal):Option (List (PVal×PVal)):=
 match P.underlying t with
 | some (.map kt _) => match P.underlying kt with
  | some kd =>
   if nX kd k then
    match zE k es 0 with
    |some (some (j,_))=>some (es.set j (k,v))
    |some none=>some (es++[(k,v)])
    |none=>none
   else none
  |_=>none
 |_=>none
theorem LX{P:Program}{t:TypeId}{es es':List (PVal×PVal)}{k v:PVal}{H:List aB}{i:Nat}(hB:H[i]? =some (.map es))(h:JG P t es k v=some es'):iC P t (.mapr i) k v H=some (H.set i (.map es')):=by
 unfold JG at h
 unfold iC
 split at h
 ·rename_i kt e hu
  split at h
  ·rename_i kd hk
   simp only[hu,hB,hk]
   split at h
   ·rename_i hkk
    rw[vax hkk]
    split at h
    ·rename_i hf;cases h;simp[hf]
    ·rename_i hf;cases h;simp[hf]
    ·cases h
   ·cases h
  ·cases h
 ·cases h
def lJ:List aB->Nat->(aB->Prop)->Prop
 |[],_,_=>False
 |B::_,0,k=>k B
 |_::l,n+1,k=>lJ l n k
theorem eo:∀{l:List aB} {n:Nat} {k:aB->Prop},lJ l n k->∃B,l[n]? =some B/\k B
 |[],_,_,h=>h.elim
 |B::_,0,_,h=>⟨B,rfl,h⟩
 |_::l,n+1,k,h=>by simp only[lJ]at h;obtain⟨B,h1,h2⟩:=eo h;exact⟨B,by simpa using h1,h2⟩
def Ox(op:BinOp)(x:PVal):Bool:=match op,x with
 |.quo,_=>true
 |.rem,_=>true
 |.add,.str _=>true
 |_,.agg _=>true
 |_,_=>false
def Nw(P:Program)(GE:List (Nat×List PVal))(op:Op)(tmps:List PVal)(H:List aB)(sc:List It)(K:PVal->List aB->List It->Prop):Prop:=
 match op with
 |.move x=>oF GE tmps x fun p=>K p H sc
 |.assign x=>oF GE tmps x fun p=>K p H sc
 |.pick c x y=>oF GE tmps c fun pc=>match pc with
  |.bool true=>oF GE tmps x fun p=>K p H sc
  |.bool false=>oF GE tmps y fun p=>K p H sc
  |_=>False
 |.binOp op T x y _=>oF GE tmps x fun vx=>oF GE tmps y fun vy=>match Ox op vx with
  |true=>CR sc (fun p=>KD P op T vx vy=some p) fun p sc'=>K p H sc'
  |false=>IJ (KD P op T vx vy) fun p=>K p H sc
 |.unOp op _ x=>oF GE tmps x fun vx=>IJ (U2 op vx) fun p=>K p H sc
 |.convert s d x=>oF GE tmps x fun vx=>CR sc (fun p=>NP P s d vx=some p) fun p sc'=>K p H sc'
 |.extract t i=>oF GE tmps t fun vt=>IJ (tE vt i) fun p=>K p H sc
 |.nilCheck x=>oF GE tmps x fun vx=>match vx with
  |.eptr cs=>K (.eptr cs) H sc
  |.bptr i off=>K (.bptr i off) H sc
  |.func (.func f) first cap=>K (.func (.func f) first cap) H sc
  |_=>False
 |.makeFunc fn first cap=>HD GE tmps first.toList fun f=>HD GE tmps cap.toList fun c=>K (.func fn f c) H sc
 | .load t x => oF GE tmps x fun vx => match vx with
  |.eptr cs=>CR sc (fun p=>be P t cs=some p) fun p sc'=>K p H sc'
  | .bptr i off => lJ H i fun B => match B with
   |.cells cs _=>match sc with
    |.s::sc'=>IJ (be P t (cs.drop off)) fun p=>K p H sc'
    |.v p::sc'=>be P t (cs.drop off)=some p/\K p H sc'
    |_=>False
   |_=>False
  |_=>False
 | .store t x y => oF GE tmps x fun vx => oF GE tmps y fun vy => match vx,sc with
  | .bptr i off,.s :: sc' => match co vy with
   | some vs => lJ H i fun B => match B with
    |.cells cs own=>match decide (vs.length=P.cellsOf t)&&(P.info? t).isSome&&decide (off+vs.length<=cs.length)&&vs.all PVal.one with
     |true=>bE (cs.take off++vs++cs.drop (off+vs.length)) fun cs'=>gu H i (.cells cs' (own.filter fun y=>y.1<off||off+vs.length<=y.1)) fun H'=>K (.val undef) H' sc'
     |false=>False
    |_=>False
   |none=>False
  | .bptr i off,.x vs :: sc' => co vy = some vs∧(lJ H i fun B => match B with
    |.cells cs own=>match decide (vs.length=P.cellsOf t)&&(P.info? t).isSome&&decide (off+vs.length<=cs.length)&&vs.all PVal.one with
     |true=>bE (cs.take off++vs++cs.drop (off+vs.length)) fun cs'=>gu H i (.cells cs' (own.filter fun y=>y.1<off||off+vs.length<=y.1)) fun H'=>K (.val undef) H' sc'
     |false=>False
    |_=>False)
  |.bptr i off,.w _ (.cells cs' own')::sc'=>lJ H i fun B=>(eX P t (.bptr 0 off) vy [B]=some [.cells cs' own'])/\gu H i (.cells cs' own') fun H'=>K (.val undef) H' sc'
  |_,_=>False
 |.fieldAddr s x f=>oF GE tmps x fun vx=>match vx with
  |.bptr i off=>IJ (aR P s (.bptr i off) f) fun p=>K p H sc
  |vx=>CR sc (fun p=>aR P s vx f=some p) fun p sc'=>K p H sc'
 |.field t x f=>oF GE tmps x fun vx=>CR sc (fun p=>KI P t vx f=some p) fun p sc'=>K p H sc'
 |.indexAddr t x i=>oF GE tmps x fun vx=>oF GE tmps i fun vi=>CR sc (fun p=>qD P t vx vi=some p) fun p sc'=>K p H sc'
 |.index t x i=>oF GE tmps x fun vx=>oF GE tmps i fun vi=>CR sc (fun p=>xk P t vx vi=some p) fun p sc'=>K p H sc'
 | .lookup t m k ok => oF GE tmps m fun vm => oF GE tmps k fun vk => match vm with
  |.mapr i=>lJ H i fun B=>match B with
   |.map es=>CR sc (fun p=>HJ P t es vk ok=some p) fun p sc'=>K p H sc'
   |_=>False
  |_=>False
 | .mapUpdate t m k x => oF GE tmps m fun vm => oF GE tmps k fun vk => oF GE tmps x fun vx => match vm,sc with
  |.mapr i,.w _ (.map es')::sc'=>lJ H i fun B=>match B with
   |.map es=>JG P t es vk vx=some es'/\gu H i (.map es') fun H'=>K (.val undef) H' sc'
   |_=>False
  |_,_=>False
 |.slice t x lo hi none=>oF GE tmps x fun vx=>RP GE tmps lo fun vl=>RP GE tmps hi fun vh=>CR sc (fun p=>ER P t vx vl vh none=some p) fun p sc'=>K p H sc'
 |.build t parts=>vE GE tmps parts.toList fun ps=>CR sc (fun p=>dB P t ps=some p) fun p sc'=>K p H sc'
 |.buildSlice t len parts=>vE GE tmps parts.toList fun ps=>CR sc (fun p=>gr P t len ps=some p) fun p sc'=>K p H sc'
 | .call { callee := .builtin .len,args:=⟨[x]⟩,argTypes:=⟨[t]⟩ } => oF GE tmps x fun vx => match vx with
  |.mapr i=>lJ H i fun B=>match B with
   |.map es=>CR sc (fun p=>p=.int .i64 es.length/\(P.underlying t).any (fun d=>match d with|.map _ _=>true|_=>false)=true) fun p sc'=>K p H sc'
   |_=>False
  |vx=>CR sc (fun p=>∀H,Cs P t vx H=some p) fun p sc'=>K p H sc'
 |.call {callee:=.builtin .max,args:=⟨x::r⟩,..}=>oF GE tmps x fun vx=>HD GE tmps r fun vr=>IJ (Fs NS vx vr) fun p=>K p H sc
 |.call {callee:=.builtin .min,args:=⟨x::r⟩,..}=>oF GE tmps x fun vx=>HD GE tmps r fun vr=>IJ (Fs NT vx vr) fun p=>K p H sc
 |_=>False
section
variable{P:Program}{GE:List (Nat×List PVal)}
theorem OX{t:TypeId}{off i:Nat}{y:PVal}{H:List aB}{B:aB}{cs':List PVal}{own':List (Nat×TypeId)}(hB:H[i]? =some B)(h:eX P t (.bptr 0 off) y [B]=some [.cells cs' own']):eX P t (.bptr i off) y H=some (H.set i (.cells cs' own')):=by
 unfold eX at h ⊢
 split at h
 ·rename_i i' off' vs h1 h2
  cases h1
  simp only[h2]
  change (match(some B:Option aB)with|some (.cells cs own)=>_|_=>none)=_ at h
  rw[hB]
  split at h
  ·rename_i hb
   cases hb
   simp only
   split at h
   ·rename_i hc
    rw[vax hc]
    simp only[List.set_cons_zero,var,vbt,vcb]at h
    rw[h]
   ·cases h
  ·cases h
 ·cases h
theorem QB(t:TypeId)(id:Nat)(v:Operand->PVal)(x:Operand)(H:List aB):qV P (.load t x) id v H=(lL P t (v x) H).map fun p=>(p,H):=rfl
theorem Fk{op:Op}{id:Nat}{tmps:List PVal}{H:List aB}{sc:List It}{K:PVal->List aB->List It->Prop}(h:Nw P GE op tmps H sc K):∃p H' sc',qV P op id (opv GE tmps) H=some (p,H')/\K p H' sc'/\H'.length=H.length:=by
 unfold Nw at h
 split at h
 case h_1=>rw[bW]at h;exact⟨_,_,_,rfl,h,rfl⟩
 case h_2=>rw[bW]at h;exact⟨_,_,_,rfl,h,rfl⟩
 case h_3 c x y=>
  rw[bW]at h
  split at h
  ·rename_i hc;rw[bW]at h;exact⟨_,_,_,by simp only[qV,hc],h,rfl⟩
  ·rename_i hc;rw[bW]at h;exact⟨_,_,_,by simp only[qV,hc],h,rfl⟩
  ·exact h.elim
 case h_4=>
  simp only[bW]at h
  split at h
  ·obtain⟨p,sc',h1,h2⟩:=mN h;exact⟨p,_,sc',by simp only[qV,h1,vag],h2,rfl⟩
  ·obtain⟨p,h1,h2⟩:=uB h;exact⟨p,_,_,by simp only[qV,h1,vag],h2,rfl⟩
 case h_5=>simp only[bW]at h;obtain⟨p,h1,h2⟩:=uB h;exact⟨p,_,_,by simp only[qV,h1,vag],h2,rfl⟩
 case h_6=>simp only[bW]at h;obtain⟨p,sc',h1,h2⟩:=mN h;exact⟨p,_,sc',by simp only[qV,h1,vag],h2,rfl⟩
 case h_7=>simp only[bW]at h;obtain⟨p,h1,h2⟩:=uB h;exact⟨p,_,_,by simp only[qV,h1,vag],h2,rfl⟩
 case h_8=>
  simp only[bW]at h
  split at h
  ·rename_i hv;exact⟨_,_,_,by simp only[qV,hv],h,rfl⟩
  ·rename_i hv;exact⟨_,_,_,by simp only[qV,hv],h,rfl⟩
  ·rename_i hv;exact⟨_,_,_,by simp only[qV,hv],h,rfl⟩
  ·exact h.elim
 case h_9=>simp only[n9]at h;exact⟨_,_,_,rfl,h,rfl⟩
 case h_10 t x=>
  simp only[bW]at h
  rw[QB]
  split at h
  ·rename_i cs hv
   obtain⟨p,sc',h1,h2⟩:=mN h
   exact⟨p,_,sc',by simp only[hv,lL,h1,vag],h2,rfl⟩
  ·rename_i i off hv
   obtain⟨B,hB,h⟩:=eo h
   split at h
   ·rename_i cs own
    split at h
    ·obtain⟨p,h1,h2⟩:=uB h
     exact⟨p,_,_,by simp only[hv,lL,hB,h1,vag],h2,rfl⟩
    ·exact⟨_,_,_,by simp only[hv,lL,hB,h.1,vag],h.2,rfl⟩
    ·exact h.elim
   ·exact h.elim
  ·exact h.elim
 case h_11 t x y=>
  simp only[bW]at h
  split at h
  ·rename_i i off sc' hv
   split at h
   ·rename_i vs hvs
    obtain⟨B,hB,h⟩:=eo h
    split at h
    ·rename_i cs own
     split at h
     ·rename_i hc
      simp only[aM,bG]at h
      simp only[vae,vaj]at hc
      exact⟨_,_,_,by simp only[qV,eX,hv,hvs,hB];rw[vax ⟨hc.1.1.1,hc.1.1.2,hc.1.2,hc.2⟩];rfl,h,by simp⟩
     ·exact h.elim
    ·exact h.elim
   ·exact h.elim
  ·rename_i i off vs sc' hv
   obtain⟨hvs,h⟩:=h
   obtain⟨B,hB,h⟩:=eo h
   split at h
   ·rename_i cs own
    split at h
    ·rename_i hc
     simp only[aM,bG]at h
     simp only[vae,vaj]at hc
     exact⟨_,_,_,by simp only[qV,eX,hv,hvs,hB];rw[vax ⟨hc.1.1.1,hc.1.1.2,hc.1.2,hc.2⟩];rfl,h,by simp⟩
    ·exact h.elim
   ·exact h.elim
  ·rename_i i off j cs' own' sc' hv
   obtain⟨B,hB,h1,h2⟩:=eo h
   rw[bG]at h2
   exact⟨_,_,_,by simp only[qV,hv,OX hB h1];rfl,h2,by simp⟩
  ·exact h.elim
 case h_12=>
  simp only[bW]at h
  split at h
  ·rename_i hv
   obtain⟨p,h1,h2⟩:=uB h;exact⟨p,_,_,by simp only[qV,hv,h1,vag],h2,rfl⟩
  ·obtain⟨p,sc',h1,h2⟩:=mN h;exact⟨p,_,sc',by simp only[qV,h1,vag],h2,rfl⟩
 case h_13=>simp only[bW]at h;obtain⟨p,sc',h1,h2⟩:=mN h;exact⟨p,_,sc',by simp only[qV,h1,vag],h2,rfl⟩
 case h_14=>simp only[bW]at h;obtain⟨p,sc',h1,h2⟩:=mN h;exact⟨p,_,sc',by simp only[qV,h1,vag],h2,rfl⟩
 case h_15=>simp only[bW]at h;obtain⟨p,sc',h1,h2⟩:=mN h;exact⟨p,_,sc',by simp only[qV,h1,vag],h2,rfl⟩
 case h_16 t m k ok=>
  simp only[bW]at h
  split at h
  ·rename_i i hv
   obtain⟨B,hB,h⟩:=eo h
   split at h
   ·rename_i es
    obtain⟨p,sc',h1,h2⟩:=mN h
    exact⟨p,_,sc',by simp only[qV,hv,OR hB h1,vag],h2,rfl⟩
   ·exact h.elim
  ·exact h.elim
 case h_17 t m k x=>
  simp only[bW]at h
  split at h
  ·rename_i i j es' sc' hv
   obtain⟨B,hB,h⟩:=eo h
   split at h
   ·rename_i es
    obtain⟨h1,h2⟩:=h
    rw[bG]at h2
    exact⟨_,_,_,by simp only[qV,hv,LX hB h1];rfl,h2,by simp⟩
   ·exact h.elim
  ·exact h.elim
 case h_18=>simp only[bW,RQ]at h;obtain⟨p,sc',h1,h2⟩:=mN h;exact⟨p,_,sc',by simp only[qV,h1,vag],h2,rfl⟩
 case h_19=>simp only[oG]at h;obtain⟨p,sc',h1,h2⟩:=mN h;exact⟨p,_,sc',by simp only[qV,h1,vag],h2,rfl⟩
 case h_20=>simp only[oG]at h;obtain⟨p,sc',h1,h2⟩:=mN h;exact⟨p,_,sc',by simp only[qV,h1,vag],h2,rfl⟩
 case h_21 x t=>
  simp only[bW]at h
  split at h
  ·rename_i i hv
   obtain⟨B,hB,h⟩:=eo h
   split at h
   ·rename_i es
    obtain⟨p,sc',⟨rfl,h1⟩,h2⟩:=mN h
    refine⟨_,_,sc',?_,h2,rfl⟩
    simp only[qV,hv,Cs]
    cases hu:P.underlying t with
    |none=>rw[hu]at h1;cases h1
    |some d=>
     rw[hu]at h1
     cases d<;>simp at h1
     simp only[hB,vag]
   ·exact h.elim
  ·obtain⟨p,sc',h1,h2⟩:=mN h;exact⟨p,_,sc',by simp only[qV,h1 H,vag],h2,rfl⟩
 case h_22=>simp only[bW,n9]at h;obtain⟨p,h1,h2⟩:=uB h;exact⟨p,_,_,by simp only[qV,h1,vag],h2,rfl⟩
 case h_23=>simp only[bW,n9]at h;obtain⟨p,h1,h2⟩:=uB h;exact⟨p,_,_,by simp only[qV,h1,vag],h2,rfl⟩
 case h_24=>exact h.elim
end
end Go.Proofs.YtkdahfeiedaahaaGreatDoor
