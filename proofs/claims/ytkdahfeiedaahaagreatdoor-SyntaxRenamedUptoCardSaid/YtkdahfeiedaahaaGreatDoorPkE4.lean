/- PROVED: a part of the proof. Conditions: none. -/
import Derived.Test.YtkdahfeiedaahaaGreatDoorPkE2
import Derived.Test.YtkdahfeiedaahaaGreatDoorPkE3
import Derived.WalkKit
import Derived.RangeFuncNested
import Derived.RangeFuncCalls
import Derived.Sort.LoopGhostIn
import Derived.OrdersIn
noncomputable section
namespace Go.Proofs.YtkdahfeiedaahaaGreatDoor
open Go
structure OA where
 i:Nat
 t:Nat
 k:Nat
 e:TypeId
def fY(ρ:List Nat)(oa:List OA)(Γ:aV)(ow:Nat->Option l7):Nat->Option l7:=fun b=>
 match ow b with
 |some (.box j k)=>if(Γ b).isSome/\j∈ρ then some (.box (ρ.idxOf j) k)else none
 |some (.tmp t k)=>match oa.find? fun y=>y.t==t&&y.k==k with
  |some x=>if(Γ b).isSome then some (.tmp x.i k)else none
  |none=>none
 |_=>none
def tM(ρ:List Nat)(oa:List OA)(d:Nat)(owC ow:Nat->Option l7):Nat->Option l7:=fun b=>
 match owC b with
 |some (.box i k)=>some (.box (ρ.getD i 0) k)
 |some (.tmp _ k)=>some (.tmp d k)
 |none=>match ow b with
  |some (.box j k)=>if j∈ρ then none else some (.box j k)
  |some (.tmp t k)=>if(oa.any fun x=>x.t==t&&x.k==k)=true then none else some (.tmp t k)
  |none=>none
section
variable{P:Program}{E:qt}{Γ:aV}{bs:bw}{ow:Nat->Option l7}{w:World}{a:Array Value}{st:aA}{ρ:List Nat}
theorem Rv(h:SR P E Γ bs ow w a st){g:FuncId}{args argsC:List PVal}{r rc:PVal}{ro:List (Nat×TypeId)}{Hc Hc' H':List aB}{vs:Array Value}{d:Nat}{oa:List OA}(hd:d<a.size)
  (hn:ρ.Nodup) (hC:C P E.GE g argsC (oa.map fun x=>((x.i,x.k),x.e)) Hc rc ro Hc') (ho1:∀x∈oa,(vs[x.i]? =some (.slice none 0 0)/\x.k=0)\/(((x.t,x.k),x.e)∈st.own/\vs[x.i]? =a[x.t]?)) (ho3:∀x∈oa,∀y∈oa,x.t=y.t->x.k=y.k->x.i=y.i) (hH:y7 ρ st.boxes Hc) (hH':y7 ρ H' Hc') (hlen:H'.length=st.boxes.length) (hsame:∀j:Nat,j∉ρ->H'[j]? =st.boxes[j]?)
  (hr:zu ρ r rc) (hal:args.length=argsC.length) (ha:∀(i:Nat) p q,args[i]? =some p->argsC[i]? =some q->zu ρ p q)
  (hl:vs.size=args.length) (hv:∀(i:Nat) p v,args[i]? =some p->vs[i]? =some v->VR Γ bs w p v):
  Calls P g vs w fun e w'=>∃v Γ' ow',e=.returned v/\SR P E Γ' bs ow' w' (a.setIfInBounds d v) {st with tmps:=st.tmps.set d r,boxes:=H',own:=(ro.map fun x=>((d,x.1),x.2))++bQ d (st.own.filter fun z=>!oa.any fun x=>z.1==(x.t,x.k))}/\Γ.Le w Γ' w':=by
 let bsC:bw:=ρ.map fun j=>(bs[j]?).getD none
 have hjlt:∀{i j:Nat},ρ[i]? =some j->j<st.boxes.length:=fun{i j} hij=>by
  obtain⟨B,_,hB,_⟩:=hH.box i j hij;exact ak hB
 have hbb:∀(i j:Nat),ρ[i]? =some j->bsC[i]? =bs[j]?:=by
  intro i j hij
  have hj:j<bs.length:=by rw[h.bl];exact hjlt hij
  simp[bsC,hij,vab hj]
 have hbc:∀{i b:Nat},bsC[i]? =some (some b)->∃j,ρ[i]? =some j/\bs[j]? =some (some b):=by
  intro i b hib
  have hi:i<ρ.length:=by have:=ak hib;simpa[bsC]using this
  have hij:ρ[i]? =some ρ[i]:=vab hi
  exact⟨_,hij,(hbb i _ hij).symm.trans hib⟩
 have hcow:∀{b L},fY ρ oa Γ ow b=some L->(Γ b).isSome/\((∃j k,ow b=some (.box j k)/\j∈ρ/\L=.box (ρ.idxOf j) k)\/(∃x∈oa,ow b=some (.tmp x.t x.k)/\L=.tmp x.i x.k)):=by
  intro b L hL
  unfold fY at hL
  split at hL
  ·rename_i j k hb
   split at hL
   ·rename_i hc;cases hL;exact⟨hc.1,.inl ⟨j,k,hb,hc.2,rfl⟩⟩
   ·cases hL
  ·rename_i t k hb
   split at hL
   ·rename_i x hx
    split at hL
    ·rename_i hc
     cases hL
     have h1:=vbi hx
     have h2:=vbJ hx
     simp only[vae,vaW]at h2
     exact⟨hc,.inr ⟨x,h1,by rw[hb,h2.1,h2.2],by rw[h2.2]⟩⟩
    ·cases hL
   ·cases hL
  ·cases hL
 have hpre:SR P ⟨E.GE,Γ,w,bg bsC (fY ρ oa Γ ow)⟩ Γ bsC (fY ρ oa Γ ow) w vs ⟨argsC,Hc,oa.map fun x=>((x.i,x.k),x.e)⟩:={
  wi:=h.wi
  sz:=by simpa[hal]using hl
  tm:=fun t q v hq hv'=>by
   have ht:=ak hq
   have hp:=vab (l:=args) (i:=t) (by rw[hal];exact ht)
   exact(ha t _ q hp hq).to hbb (hv t _ v hp hv')
  bl:=by simp[bsC,hH.len]
  bx:=fun i b Bc hib hBc=>by
   obtain⟨j,hij,hjb⟩:=hbc hib
   obtain⟨B,Bc',hB,hBc',hx⟩:=hH.box i j hij
   rw[hBc]at hBc';cases hBc'
   obtain⟨k1,k2,k3⟩:=h.bx j b B hjb hB
   exact⟨k1,k2,hx.to hbb k3⟩
  inj:=fun i j b hi hj=>by
   obtain⟨x,hx,hxb⟩:=hbc hi
   obtain⟨y,hy,hyb⟩:=hbc hj
   have:=h.inj x y b hxb hyb
   subst this
   rw[<-tO hn hx,tO hn hy]
  bn:=fun i b hb=>.inl (.inl ⟨i,hb⟩)
  on:=fun b L hL=>by
   refine⟨?_,.inl (.inr (by rw[hL];simp))⟩
   rcases(hcow hL).2 with⟨j,k,hb,_⟩|⟨x,_,hb,_⟩<;>exact(h.on b _ hb).1
  ot:=fun t k e he=>by
   simp only[vag,Prod.mk.injEq]at he
   obtain⟨x,hx,⟨rfl,rfl⟩,rfl⟩:=he
   rcases ho1 x hx with⟨hn1,hn2⟩|⟨ht1,ht2⟩
   ·exact⟨_,.slice none 0 0,hn1,by rw[hn2];rfl,⟨0,[],World.ownsRow_nil _ _ _ _,fun b hb=>by simp[Value.ownBlock]at hb⟩,fun b hb=>by simp[Value.ownBlock]at hb⟩
   obtain⟨u,v',h1,h2,h3,h4⟩:=h.ot _ _ _ ht1
   refine⟨u,v',ht2.trans h1,h2,h3,fun b hb=>?_⟩
   have hg:(Γ b).isSome:=by obtain⟨n,xs,_,o2⟩:=h3;rw[o2 b hb];rfl
   unfold fY
   rw[h4 b hb]
   simp only
   cases hf:oa.find? fun y=>y.t==x.t&&y.k==x.k with
   |none=>
    have:=vbS.1 hf x hx
    simp at this
   |some y=>
    have q1:=vbi hf
    have q2:=vbJ hf
    simp only[vae,vaW]at q2
    simp only[vaq hg,ho3 y q1 x hx q2.1 q2.2]
  ob:=fun i k e cs own b hB hk hb=>by
   obtain⟨j,hij,hjb⟩:=hbc hb
   obtain⟨B,Bc',hB',hBc',hx⟩:=hH.box i j hij
   rw[hB]at hBc';cases hBc'
   cases B with
   |cells cs' own'=>
    obtain⟨rfl,_,_⟩:=hx
    obtain⟨v,k1,k2,k3⟩:=h.ob j k e cs' own' b hB' hk hjb
    refine⟨v,k1,k2,fun b' hb'=>?_⟩
    have hg:(Γ b').isSome:=by obtain⟨n,xs,_,o2⟩:=k2;rw[o2 b' hb'];rfl
    simp only[fY,k3 b' hb']
    rw[vaq ⟨hg,vaD hij⟩,tO hn hij]
   |map es=>simp[jn]at hx
   |dead=>simp[jn]at hx
  gl:=fun g cs hg=>(h.gl g cs hg).restrict (n:=0) (by simp only[PVal.cl];exact h.gc g cs hg) (fun i b hi _=>absurd hi (vaO _))
  gc:=h.gc
  gx:=fun g cs hg=>by
   obtain⟨k1,k2,k3,k4⟩:=h.gnow hg
   refine⟨k1,fun hT=>?_,k4⟩
   rcases hT with⟨i,hi⟩|hT
   ·obtain⟨j,_,hjb⟩:=hbc hi
    exact k2 j g hjb rfl
   ·cases hL:fY ρ oa Γ ow g with
    |none=>exact hT hL
    |some L=>
     rcases(hcow hL).2 with⟨j,k,hk',_⟩|⟨x,_,hk',_⟩<;>(rw[k3]at hk';cases hk')
  step:=.refl _ _ _ _}
 refine(hC.2 Γ bsC _ w vs hpre).mono fun e w' he=>?_
 obtain⟨v,Γ',owC,rfl,hS⟩:=he
 have hle:Γ.Le w Γ' w':=hS.step.le
 have hTE:∀b,bg bsC (fY ρ oa Γ ow) b->E.T b\/E.w.heap.size<=b:=by
  intro b hb
  rcases hb with⟨i,hi⟩|hb
  ·obtain⟨j,_,hjb⟩:=hbc hi
   exact h.bn j b hjb
  ·cases hL:fY ρ oa Γ ow b with
   |none=>exact absurd hL hb
   |some L=>
    rcases(hcow hL).2 with⟨j,k,hk,_⟩|⟨x,_,hk,_⟩<;>exact(h.on b _ hk).2
 have hkeep:∀b,b<w.heap.size->¬bg bsC (fY ρ oa Γ ow) b->w'.heap[b]? =w.heap[b]?/\Γ' b=Γ b:=fun b hb hT=>hS.step.keep b hb hT
 have hnotT_own:∀{b L},ow b=some L->(Γ b).isSome->(∀j k,L=.box j k->j∉ρ)->(∀x∈oa,L≠.tmp x.t x.k)->¬bg bsC (fY ρ oa Γ ow) b:=by
  intro b L hL hg hne hne2 hT
  rcases hT with⟨i,hi⟩|hT
  ·obtain⟨j,hij,hjb⟩:=hbc hi
   obtain⟨B,_,hB,_⟩:=hH.box i j hij
   rw[(h.bx j b B hjb hB).1]at hg;cases hg
  ·cases hL':fY ρ oa Γ ow b with
   |none=>exact hT hL'
   | some L' =>
    rcases(hcow hL').2 with⟨j,k,hk,hj,_⟩|⟨x,hx,hk,_⟩
    ·rw[hL]at hk;cases hk
     exact hne j k rfl hj
    ·rw[hL]at hk;cases hk
     exact hne2 x hx rfl
 have hnotT_box:∀{j b:Nat},bs[j]? =some (some b)->j∉ρ->¬bg bsC (fY ρ oa Γ ow) b:=by
  intro j b hjb hj hT
  rcases hT with⟨i,hi⟩|hT
  ·obtain⟨j',hij,hjb'⟩:=hbc hi
   have:=h.inj _ _ _ hjb hjb'
   subst this
   exact hj (vaD hij)
  ·cases hL':fY ρ oa Γ ow b with
   |none=>exact hT hL'
   |some L'=>
    have hg:=(hcow hL').1
    have hjl:j<st.boxes.length:=by rw[<-h.bl];exact ak hjb
    rw[(h.bx j b _ hjb (vab hjl)).1]at hg;cases hg
 have hold:∀{b L},ow b=some L->(Γ b).isSome->(∀j k,L=.box j k->j∉ρ)->(∀x∈oa,L≠.tmp x.t x.k)->tM ρ oa d owC ow b=some L:=by
  intro b L hL hg hne hne2
  have hT:=hnotT_own hL hg hne hne2
  have hnone:owC b=none:=by
   cases hx:owC b with
   |none=>rfl
   | some L' =>
    obtain⟨_,k2⟩:=hS.on b L' hx
    rcases k2 with k2|k2
    ·exact absurd k2 hT
    ·have:=(h.on b L hL).1
     exact absurd k2 (vce.2 this)
  unfold tM
  rw[hnone]
  simp only[hL]
  cases L with
  |tmp t k=>
   simp only
   rw[vat]
   intro hx
   obtain⟨x,hx1,hx2⟩:=vbt.1 hx
   simp only[vae,vaW]at hx2
   exact hne2 x hx1 (by rw[hx2.1,hx2.2])
  |box j k=>simp only;rw[vat (hne j k rfl)]
 have howned:∀{v:Value} {e:TypeId} {b:Nat},jD P Γ w v e->v.ownBlock=some b->(Γ b).isSome:=by
  intro v e b ho hb
  obtain⟨n,xs,_,o2⟩:=ho
  rw[o2 b hb];rfl
 have hrv:VR Γ' bs w' r v:=hr.from hbb (hS.tm 0 rc v rfl rfl)
 refine⟨v,Γ',tM ρ oa d owC ow,rfl,?_,hle⟩
 exact{
  wi:=hS.wi
  sz:=by simp[h.sz]
  tm:=fun t q u hq hu=>by
   simp only[vbp]at hq
   rw[vbl]at hu
   by_cases hdt:d=t
   ·subst hdt
    simp only[if_true]at hq hu
    split at hu
    ·split at hq
     ·cases hu;cases hq;exact hrv
     ·cases hq
    ·rename_i hnd;exact absurd hd hnd
   ·simp only[hdt,if_false]at hq hu
    exact(h.tm t q u hq hu).mono hle (.refl _)
  bl:=by simp[h.bl,hlen]
  bx:=fun j b B hjb hB=>by
   by_cases hj:j∈ρ
   ·obtain⟨i,hij⟩:=vbf.1 hj
    obtain⟨B',Bc,hB',hBc,hx⟩:=hH'.box i j hij
    rw[hB]at hB';cases hB'
    obtain⟨k1,k2,k3⟩:=hS.bx i b Bc ((hbb i j hij).trans hjb) hBc
    exact⟨k1,k2,hx.from hbb k3⟩
   ·have hB0:st.boxes[j]? =some B:=(hsame j hj).symm.trans hB
    obtain⟨k1,k2,k3⟩:=h.bx j b B hjb hB0
    obtain⟨q1,q2⟩:=hkeep b k2 (hnotT_box hjb hj)
    exact⟨q2.trans k1,vaJ k2 hS.step.size,k3.mono hle (.refl _) q1⟩
  inj:=h.inj
  bn:=h.bn
  on:=fun b L hL=>by
   unfold tM at hL
   split at hL
   ·rename_i i k hb
    obtain⟨k1,k2⟩:=hS.on b _ hb
    exact⟨k1,k2.elim (hTE b) (fun hx=>.inr (vaC h.step.size hx))⟩
   ·rename_i t k hb
    obtain⟨k1,k2⟩:=hS.on b _ hb
    exact⟨k1,k2.elim (hTE b) (fun hx=>.inr (vaC h.step.size hx))⟩
   ·have hsz:=hS.step.size
    cases hb:ow b with
    |none=>rw[hb]at hL;cases hL
    |some L'=>exact⟨vaJ (h.on b _ hb).1 hsz,(h.on b _ hb).2⟩
  ot:=fun t k e he=>by
   rcases vaw.1 he with he|he
   ·simp only[vag,Prod.mk.injEq]at he
    obtain⟨⟨k',e'⟩,hm,⟨rfl,rfl⟩,rfl⟩:=he
    obtain⟨u,v',h1,h2,h3,h4⟩:=hS.ot 0 k' e' (vag.2 ⟨(k',e'),hm,rfl⟩)
    simp at h1;subst h1
    refine⟨v,v',by simp[hd],h2,h3,fun b hb=>?_⟩
    simp only[tM,h4 b hb]
   ·obtain⟨he,htd⟩:=dY he
    obtain⟨he,hne0⟩:=ck he
    have hne2:∀x∈oa,l7.tmp t k≠.tmp x.t x.k:=fun x hx e=>by
     cases e
     simp only[vaT,vbd,vaW]at hne0
     exact hne0 x hx rfl
    obtain⟨u,v',h1,h2,h3,h4⟩:=h.ot t k e he
    have hq:∀b,v'.ownBlock=some b->¬bg bsC (fY ρ oa Γ ow) b:=fun b hb=>hnotT_own (h4 b hb) (howned h3 hb) (fun j k hx=>by cases hx) hne2
    exact⟨u,v',by rw[vaL (fun e=>htd e.symm)];exact h1,h2,h3.same fun b hb=>hkeep b (h3.lt hb) (hq b hb),fun b hb=>hold (h4 b hb) (howned h3 hb) (fun j k hx=>by cases hx) hne2⟩
  ob:=fun j k e cs own b hB hk hjb=>by
   by_cases hj:j∈ρ
   ·obtain⟨i,hij⟩:=vbf.1 hj
    obtain⟨B',Bc,hB',hBc,hx⟩:=hH'.box i j hij
    rw[hB]at hB';cases hB'
    cases Bc with
    |cells cs' own'=>
     obtain⟨rfl,_,_⟩:=hx
     obtain⟨v',k1,k2,k3⟩:=hS.ob i k e cs' own b hBc hk ((hbb i j hij).trans hjb)
     refine⟨v',k1,k2,fun b' hb'=>?_⟩
     have hgd:ρ.getD i 0=j:=by rw[vaj,hij];rfl
     simp only[tM,k3 b' hb',hgd]
    |map es=>simp[jn]at hx
    |dead=>simp[jn]at hx
   ·have hB0:st.boxes[j]? =some (.cells cs own):=(hsame j hj).symm.trans hB
    obtain⟨v',k1,k2,k3⟩:=h.ob j k e cs own b hB0 hk hjb
    obtain⟨_,hlt,_⟩:=h.bx j b _ hjb hB0
    have hne:∀j' k',l7.box j k=.box j' k'->j'∉ρ:=fun j' k' hx=>by cases hx;exact hj
    have hne2:∀x∈oa,l7.box j k≠.tmp x.t x.k:=fun x _ e=>by cases e
    exact⟨v',(ca (hkeep b hlt (hnotT_box hjb hj)).1 k).trans k1,k2.same fun b' hb'=>hkeep b' (k2.lt hb') (hnotT_own (k3 b' hb') (howned k2 hb') hne hne2),fun b' hb'=>hold (k3 b' hb') (howned k2 hb') hne hne2⟩
  gl:=fun g cs hg=>(h.gl g cs hg).mono hle (.refl _)
  gc:=h.gc
  gx:=h.gx
  step:={
   os:=hS.step.os.trans h.step.os
   tape:=hS.step.tape.trans h.step.tape
   output:=hS.step.output.trans h.step.output
   size:=vaC h.step.size hS.step.size
   drawn:=vaC h.step.drawn hS.step.drawn
   keep:=fun b hb hT=>by
    have hlt:b<w.heap.size:=vaJ hb h.step.size
    have hnT:¬bg bsC (fY ρ oa Γ ow) b:=fun hx=>(hTE b hx).elim hT (fun hx=>absurd hx (vce.2 hb))
    obtain⟨k1,k2⟩:=h.step.keep b hb hT
    obtain⟨q1,q2⟩:=hkeep b hlt hnT
    exact⟨q1.trans k1,q2.trans k2⟩
   le:=h.step.le.trans hle}}
end
def CN(P:Program)(GE:List (Nat×List PVal))(f:FuncId)(args:List PVal)(r:PVal)(ro:List (Nat×TypeId))(H':List aB):Prop:=
 (∀vs w,(callFunc f vs).run P w=.ok (.enter f vs) w)/\
 ∀(Γ:aV) (w:World) (vs:Array Value),
  SR P ⟨GE,Γ,w,bg [] fun _=>none⟩ Γ [] (fun _=>none) w vs ⟨args,[],[]⟩->
  Calls P f vs w fun e w'=>∃v Γ' bs' ow',e=.returned v/\SR P ⟨GE,Γ,w,bg [] fun _=>none⟩ Γ' bs' ow' w' #[v] ⟨[r],H',ro.map fun x=>((0,x.1),x.2)⟩
def E6(d n:Nat)(owC ow:Nat->Option l7):Nat->Option l7:=fun b=>
 match owC b with
 |some (.tmp _ k)=>some (.tmp d k)
 |some (.box i k)=>some (.box (n+i) k)
 |none=>ow b
section
variable{P:Program}{E:qt}{Γ:aV}{bs:bw}{ow:Nat->Option l7}{w:World}{a:Array Value}{st:aA}
theorem QP(bs X:bw):bs.Sub (bs++X):=fun i b hb=>by rw[vac (ak hb)];exact hb
theorem Qe{s n i j:Nat}(h:(List.range' s n)[i]? =some j):j=s+i/\i<n:=by
 have hi:=ak h
 rw[List.length_range']at hi
 rw[List.getElem?_range' hi]at h
 simp at h
 exact⟨h.symm,hi⟩
theorem Rw(h:SR P E Γ bs ow w a st){g:FuncId}{args:List PVal}{r rc:PVal}{ro:List (Nat×TypeId)}{New Hc':List aB}{vs:Array Value}{d:Nat}(hd:d<a.size)(hC:CN P E.GE g args rc ro Hc')
  (hl:vs.size=args.length) (hv:∀(i:Nat) p v,args[i]? =some p->vs[i]? =some v->VR Γ bs w p v) (hcl:li 0 args) (hN:New.length=Hc'.length)
  (hB:∀(i:Nat) B Bc,New[i]? =some B->Hc'[i]? =some Bc->jn (List.range' st.boxes.length Hc'.length) B Bc) (hr:zu (List.range' st.boxes.length Hc'.length) r rc):
  Calls P g vs w fun e w'=>∃v Γ' ow' X,e=.returned v/\SR P E Γ' (bs++X) ow' w' (a.setIfInBounds d v) ⟨st.tmps.set d r,st.boxes++New,(ro.map fun x=>((d,x.1),x.2))++bQ d st.own⟩/\Γ.Le w Γ' w':=by
 have hpre:SR P ⟨E.GE,Γ,w,bg [] fun _=>none⟩ Γ [] (fun _=>none) w vs ⟨args,[],[]⟩:={
  wi:=h.wi
  sz:=hl
  tm:=fun t p v hp hv'=>(hv t p v hp hv').restrict (n:=0) (ou hcl hp) (fun i b hi _=>absurd hi (vaO _))
  bl:=rfl
  bx:=fun i b B hb=>by simp at hb
  inj:=fun i j b hb=>by simp at hb
  bn:=fun i b hb=>by simp at hb
  on:=fun b L hL=>by cases hL
  ot:=fun t k e he=>by simp at he
  ob:=fun i j e cs own b hB=>by simp at hB
  gl:=fun g cs hg=>(h.gl g cs hg).restrict (n:=0) (by simp only[PVal.cl];exact h.gc g cs hg) (fun i b hi _=>absurd hi (vaO _))
  gc:=h.gc
  gx:=fun g cs hg=>by
   obtain⟨k1,_,_,k4⟩:=h.gnow hg
   exact⟨k1,fun hT=>hT.elim (fun hx=>by obtain⟨i,hi⟩:=hx;simp at hi) (fun hx=>hx rfl),k4⟩
  step:=.refl _ _ _ _}
 refine(hC.2 Γ w vs hpre).mono fun e w' he=>?_
 obtain⟨v,Γ',bs',owC,rfl,hS⟩:=he
 have hT:∀b,¬bg [] (fun _=>none) b:=fun b hb=>by
  rcases hb with⟨i,hi⟩|hb
  ·simp at hi
  ·exact hb rfl
 have hle:Γ.Le w Γ' w':=hS.step.le
 have hw:=h.world (fun _=>False) hle hS.wi hS.step.os hS.step.tape hS.step.output hS.step.size (fun b hb _=>hS.step.keep b hb (hT b)) (fun _ hx=>hx.elim) (fun _ _ _ hx=>hx) (fun _ _ _ hx=>hx) hS.step.drawn
 have hbl:bs'.length=Hc'.length:=hS.bl
 have hsub:=QP bs bs'
 have hbb:∀(i j:Nat),(List.range' st.boxes.length Hc'.length)[i]? =some j->bs'[i]? =(bs++bs')[j]?:=fun i j hij=>by
  obtain⟨rfl,hi⟩:=Qe hij
  rw[<-h.bl,vaf (vbx _ _),vbu]
 have hnew:∀{i b:Nat},bs'[i]? =some (some b)->w.heap.size<=b:=fun hb=>(hS.bn _ _ hb).resolve_left (hT _)
 have hold:∀{i b:Nat},bs[i]? =some (some b)->b<w.heap.size:=fun{i b} hb=>by
  have hi:i<st.boxes.length:=by rw[<-h.bl];exact ak hb
  exact(h.bx i b _ hb (vab hi)).2.1
 have hcase:∀{i:Nat} {x:Option Nat},(bs++bs')[i]? =some x->(i<bs.length/\bs[i]? =some x)\/(∃k,i=bs.length+k/\bs'[k]? =some x):=fun{i x} hi=>by
  by_cases hlt:i<bs.length
  ·rw[vac hlt]at hi;exact .inl ⟨hlt,hi⟩
  ·rw[vaf (by omega)]at hi;exact .inr ⟨i - bs.length,by omega,hi⟩
 have how:∀{b L},ow b=some L->E6 d st.boxes.length owC ow b=some L:=fun{b L} hL=>by
  have hb:=(h.on b L hL).1
  unfold E6
  cases hc:owC b with
  |none=>exact hL
  |some L'=>
   have:=((hS.on b L' hc).2.resolve_left (hT b))
   exact absurd hb (vcE.2 this)
 have hrv:VR Γ' (bs++bs') w' r v:=hr.from hbb (hS.tm 0 rc v rfl rfl)
 refine⟨v,Γ',E6 d st.boxes.length owC ow,bs',rfl,?_,hle⟩
 have hlen:st.boxes.length=bs.length:=h.bl.symm
 exact{
  wi:=hS.wi
  sz:=by simp[h.sz]
  tm:=fun t q u hq hu=>by
   simp only[vbp]at hq
   rw[vbl]at hu
   by_cases hdt:d=t
   ·subst hdt
    simp only[if_true]at hq hu
    split at hu
    ·split at hq
     ·cases hu;cases hq;exact hrv
     ·cases hq
    ·rename_i hnd;exact absurd hd hnd
   ·simp only[hdt,if_false]at hq hu
    exact(hw.tm t q u hq hu).mono (.refl _ _) hsub
  bl:=by simp[h.bl,hN,hbl]
  bx:=fun i b B hb hBi=>by
   rcases hcase hb with⟨hlt,hb'⟩|⟨k,rfl,hb'⟩
   ·rw[vac (by omega)]at hBi
    obtain⟨h1,h2,h3⟩:=hw.bx i b B hb' hBi
    exact⟨h1,h2,h3.mono (.refl _ _) hsub rfl⟩
   ·rw[vaf (by omega),hlen,vbu]at hBi
    have hk:k<Hc'.length:=by rw[<-hbl];exact ak hb'
    have hBc:Hc'[k]? =some Hc'[k]:=vab hk
    obtain⟨h1,h2,h3⟩:=hS.bx k b _ hb' hBc
    exact⟨h1,h2,(hB k B _ hBi hBc).from hbb h3⟩
  inj:=fun i j b hi hj=>by
   rcases hcase hi with⟨_,hi'⟩|⟨k,rfl,hi'⟩<;>rcases hcase hj with⟨_,hj'⟩|⟨k',rfl,hj'⟩
   ·exact h.inj i j b hi' hj'
   ·exact absurd (hold hi') (vcE.2 (hnew hj'))
   ·exact absurd (hold hj') (vcE.2 (hnew hi'))
   ·rw[hS.inj k k' b hi' hj']
  bn:=fun i b hb=>by
   rcases hcase hb with⟨_,hb'⟩|⟨k,rfl,hb'⟩
   ·exact h.bn i b hb'
   ·exact .inr (vaC h.step.size (hnew hb'))
  on:=fun b L hL=>by
   unfold E6 at hL
   cases hc:owC b with
   |none=>rw[hc]at hL;exact hw.on b L hL
   |some L'=>
    obtain⟨k1,k2⟩:=hS.on b L' hc
    exact⟨k1,.inr (vaC h.step.size (k2.resolve_left (hT b)))⟩
  ot:=fun t k e he=>by
   rcases vaw.1 he with he|he
   ·simp only[vag,Prod.mk.injEq]at he
    obtain⟨⟨k',e'⟩,hm,⟨rfl,rfl⟩,rfl⟩:=he
    obtain⟨u,v',h1,h2,h3,h4⟩:=hS.ot 0 k' e' (vag.2 ⟨(k',e'),hm,rfl⟩)
    simp at h1;subst h1
    refine⟨v,v',by simp[hd],h2,h3,fun b hb=>?_⟩
    simp only[E6,h4 b hb]
   ·obtain⟨he,htd⟩:=dY he
    obtain⟨u,v',h1,h2,h3,h4⟩:=hw.ot t k e he
    exact⟨u,v',by rw[vaL (fun e=>htd e.symm)];exact h1,h2,h3,fun b hb=>how (h4 b hb)⟩
  ob:=fun i j e cs own b hBi hj hb=>by
   rcases hcase hb with⟨hlt,hb'⟩|⟨k,rfl,hb'⟩
   ·rw[vac (by omega)]at hBi
    obtain⟨v',k1,k2,k3⟩:=hw.ob i j e cs own b hBi hj hb'
    exact⟨v',k1,k2,fun b' hx=>how (k3 b' hx)⟩
   ·rw[vaf (by omega),hlen,vbu]at hBi
    have hk:k<Hc'.length:=by rw[<-hbl];exact ak hb'
    have hBc:Hc'[k]? =some Hc'[k]:=vab hk
    have hx:=hB k _ _ hBi hBc
    cases hcc:Hc'[k]with
    |cells cs' own'=>
     rw[hcc]at hx hBc
     obtain⟨rfl,_,_⟩:=hx
     obtain⟨v',k1,k2,k3⟩:=hS.ob k j e cs' own b hBc hj hb'
     refine⟨v',k1,k2,fun b' hx=>?_⟩
     simp only[E6,k3 b' hx,hlen]
    |map es=>rw[hcc]at hx;simp[jn]at hx
    |dead=>rw[hcc]at hx;simp[jn]at hx
  gl:=fun g cs hg=>(hw.gl g cs hg).mono (.refl _ _) hsub
  gc:=h.gc
  gx:=h.gx
  step:=hw.step}
end
def MY(P:Program)(GE:List (Nat×List PVal))(o:Oper)(K:aA->Prop)(st:aA):Prop:=
 match o.op,o.dst with
 | .call { callee := .value f,args,.. },some d => ∃ (g:FuncId) (rc:PVal) (ro:List (Nat×TypeId)) (New Hc':List aB) (r:PVal),opv GE st.tmps f = .func (.func g) [] []∧CN P GE g (args.toList.map (opv GE st.tmps)) rc ro Hc'∧li 0 (args.toList.map (opv GE st.tmps))∧New.length = Hc'.length ∧
   (∀(i:Nat) B Bc,New[i]? =some B->Hc'[i]? =some Bc->jn (List.range' st.boxes.length Hc'.length) B Bc)/\zu (List.range' st.boxes.length Hc'.length) r rc/\d<st.tmps.length/\
   K ⟨st.tmps.set d r,st.boxes++New,(ro.map fun x=>((d,x.1),x.2))++bQ d st.own⟩
 |_,_=>False
theorem Qa{P:Program}{GE:List (Nat×List PVal)}{o:Oper}{K K':aA->Prop}{st:aA}(hk:∀st,K st->K' st)(h:MY P GE o K st):MY P GE o K' st:=by
 unfold MY at *
 split at h
 ·obtain⟨g,rc,ro,New,Hc',r,h1,h2,h3,h4,h5,h6,h7,h8⟩:=h;exact⟨g,rc,ro,New,Hc',r,h1,h2,h3,h4,h5,h6,h7,hk _ h8⟩
 ·exact h
section
variable{P:Program}{E:qt}{Γ:aV}{bs:bw}{ow:Nat->Option l7}{w:World}{a:Act}{st:aA}
theorem N5(h:SR P E Γ bs ow w a.tmps st){o:Oper}{id:Nat}{K:aA->Prop}(hp:MY P E.GE o K st)(Q:Exit->Act->World->Prop):o.wp P a w (Ex P E bs id (aG o.op) a.defers K) Q:=by
 unfold MY at hp
 split at hp
 ·rename_i f args tys d ho hdst
  obtain⟨g,rc,ro,New,Hc',r,hf,hC,hcl,hN,hB,hr,hd,hK⟩:=hp
  have hvf:VR Γ bs w (opv E.GE st.tmps f) (a.eval f):=h.opv a.defers f
  rw[hf]at hvf
  generalize hev:a.eval f=vf at hvf
  cases hvf with
  |func _ _ _ fs cs hl hl' k1 k2=>
  have hfs:fs=#[]:=vaZ (by simpa using hl)
  have hcs:cs=#[]:=vaZ (by simpa using hl')
  subst hfs;subst hcs
  have hrun:(execOp a.eval o).run P w=.ok (.enter g (args.map a.eval)) w:=by
   simp[execOp,ho,resolve,hev,Deferred.ofValue,invoke,hC.1]
  have hvr:∀(i:Nat) p v,(args.toList.map (opv E.GE st.tmps))[i]? =some p->(args.map a.eval)[i]? =some v->VR Γ bs w p v:=
   fun i p v hp hv=>xX (fun x=>h.opv a.defers x) args.toList i p v hp (by simpa using hv)
  have hds:d<a.tmps.size:=by rw[h.sz];exact hd
  unfold Oper.wp
  rw[hrun,Oper.upon_enter]
  refine(Rw h hds hC (by simp) hvr hcl hN hB hr).mono fun e w' he=>?_
  obtain⟨v,Γ',ow',X,rfl,hS,_⟩:=he
  have hput:(a.put o.dst v).tmps=a.tmps.setIfInBounds d v:=by rw[hdst];rfl
  rw[<-hput]at hS
  show Ex P E bs id (aG o.op) a.defers K (a.put o.dst v) w'
  exact⟨bR _ _ _,Γ',_,_,_,hS,hK,.inr (.inr ⟨X,rfl⟩)⟩
 ·exact hp.elim
end
abbrev px:Value:=.slice none 0 0
def Uq(v:Value):PVal:=if mM v then .val px else absC v
def Sz(P:Program)(t:TypeId):Option (List PVal):=((P.info? t).bind (·.zero)).map fun z=>z.cells.toList.map Uq
def Ly(P:Program)(t:TypeId)(parts:List (Nat×PVal)):Option (List PVal):=
 match P.underlying t,Sz P t with
 |some (.struct fs),some zs=>if fs.all (fun f=>(P.info? f.type).isSome)then Iu (fun i=>(fs[i]?).map fun f=>(f.offset,P.cellsOf f.type)) zs parts else none
 |_,_=>none
def NX(cs:List PVal):List (Nat×TypeId)->Prop
 |[]=>True
 |x::r=>cs[x.1]? =some (.val px)/\NX cs r
def DZ(P:Program)(t:TypeId)(parts:List (Nat×PVal))(L:List (Nat×TypeId)):Prop:=∃cs,Ly P t parts=some cs/\NX cs L
def ownLe(H0 H:List aB):Prop:=H0.length=H.length/\∀(i:Nat) B,H0[i]? =some B->∃B',H[i]? =some B'/\(B=B'\/∃cs own own',B'=.cells cs own/\B=.cells cs own'/\∀x∈own',x∈own)
structure Hk(P:Program)(GE:List (Nat×List PVal))(f:Operand)(args:List Operand)(st:aA)(r:PVal)(ro:List (Nat×TypeId))(H':List aB)(oa:List OA):Prop where
 ex:∃(g:FuncId) (first cap argsC:List PVal) (ρ:List Nat) (H0 Hc Hc':List aB) (rc:PVal),opv GE st.tmps f=.func (.func g) first cap/\ρ.Nodup/\C P GE g argsC (oa.map fun x=>((x.i,x.k),x.e)) Hc rc ro Hc'/\
  ownLe H0 st.boxes/\y7 ρ H0 Hc/\y7 ρ H' Hc'/\H'.length=st.boxes.length/\(∀j:Nat,j∉ρ->H'[j]? =H0[j]?)/\zu ρ r rc/\(first++args.map (opv GE st.tmps)++cap).length=argsC.length/\
  (∀(i:Nat) p q,(first++args.map (opv GE st.tmps)++cap)[i]? =some p->argsC[i]? =some q->zu ρ p q)/\
  (∀x∈oa,∃j,x.i=first.length+j/\((args[j]? =some (.const px)/\x.k=0)\/(((x.t,x.k),x.e)∈st.own/\args[j]? =some (.tmp x.t))))/\(∀x∈oa,∀y∈oa,x.t=y.t->x.k=y.k->x.i=y.i)
def IB(P:Program)(GE:List (Nat×List PVal))(o:Oper)(K:aA->Prop)(st:aA):Prop:=
 match o.op,o.dst with
 | .build T parts,some d => ∃ (p:PVal) (L:List (Nat×TypeId)),dX P T (parts.toList.map fun x => (x.1,opv GE st.tmps x.2)) = some p∧DZ P T (parts.toList.map fun x => (x.1,opv GE st.tmps x.2)) L ∧
   d<st.tmps.length/\K {st with tmps:=st.tmps.set d p,own:=(L.map fun x=>((d,x.1),x.2))++bQ d st.own}
 | .store T x (.tmp t),none => ∃ (i off:Nat) (H:List aB) (cs:List PVal) (own L:List (Nat×TypeId)) (l:List PVal),opv GE st.tmps x = .bptr i off∧st.tmps.getD t .undef = .agg l∧fl P T (.bptr i off) (.agg l) st.boxes = some H∧H[i]? = some (.cells cs own) ∧
   (∀y∈L,((t,y.1),y.2)∈st.own)/\(L.map (·.1)).Nodup/\
   K ⟨st.tmps,H.set i (.cells cs ((L.map fun y=>(off+y.1,y.2)).reverse++own)),st.own.filter fun x=>!L.any fun y=>x.1==(t,y.1)⟩
 | .load T x,some d => ∃ (i off:Nat) (cs:List PVal) (own L:List (Nat×TypeId)) (l:List PVal),(∃ fs,P.underlying T = some (.struct fs))∧opv GE st.tmps x = .bptr i off∧st.boxes[i]? = some (.cells cs own)∧bK P T (cs.drop off) = some (.agg l) ∧
   (∀y∈L,(off+y.1,y.2)∈own)/\(L.map (·.1)).Nodup/\(∀y∈L,y.1<l.length)/\d<st.tmps.length/\
   K ⟨st.tmps.set d (.agg l),st.boxes.set i (.cells cs (own.filter fun x=>!L.any fun y=>x.1==off+y.1)),(L.map fun y=>((d,y.1),y.2)).reverse++bQ d st.own⟩
 |.box _ x,some d=>∃vs:List PVal,cN (opv GE st.tmps x)=some vs/\d<st.tmps.length/\K {st with tmps:=st.tmps.set d (.eptr vs),own:=bQ d st.own}
 | .call { callee := .value f,args,.. },some d => ∃ (r:PVal) (ro:List (Nat×TypeId)) (H':List aB) (oa:List OA),Hk P GE f args.toList st r ro H' oa∧d < st.tmps.length ∧
   K ⟨st.tmps.set d r,H',(ro.map fun x=>((d,x.1),x.2))++bQ d (st.own.filter fun z=>!oa.any fun x=>z.1==(x.t,x.k))⟩
 |_,_=>False
def Ac(P:Program)(GE:List (Nat×List PVal))(A:List Nat)(o:Oper)(id:Nat)(K:aA->Prop)(st:aA):Prop:=Gd P GE A o id K st\/IB P GE o K st\/N6 P GE o K st\/MY P GE o K st
def dg(P:Program)(GE:List (Nat×List PVal))(A:List Nat)(ops:Array Oper)(K:aA->Prop):List Oper->Nat->aA->Prop
 |[],_,st=>K st
 | o :: rest,id,st =>
  match o.guard with
  |none=>Ac P GE A o id (dg P GE A ops K rest (id+if aG o.op then 1 else 0)) st
  |some (j,want)=>match uK ops st.tmps j with
   | some x => (x = some want→Ac P GE A o id (dg P GE A ops K rest (id + if aG o.op then 1 else 0)) st) ∧
     (x≠some want->dg P GE A ops K rest (id+if aG o.op then 1 else 0) (wF st o.dst (.val undef) [] st.boxes))
   |none=>False
section
variable{P:Program}{E:qt}{Γ:aV}{bs:bw}{ow:Nat->Option l7}{w:World}
theorem SW{z:Value}(j:Nat)(p:PVal)(v:Value)(hp:(z.cells.toList.map Uq)[j]? =some p)(hv:z.cells[j]? =some v):VR Γ bs w p v:=by
 simp only[vax,vaS,hv,vah,vav]at hp
 subst hp
 unfold Uq
 split
 ·rename_i hn
  unfold mM at hn
  split at hn
  ·exact .val _
  ·cases hn
 ·exact .absC v
theorem MQ{t:TypeId}{parts:List (Nat×PVal)}{vs:List (Nat×Value)}{cs:List PVal}(hl:parts.length=vs.length)
  (hv:∀(j:Nat) p v,parts[j]? =some p->vs[j]? =some v->p.1=v.1/\VR Γ bs w p.2 v.2) (h:Ly P t parts=some cs):
  ∃ov,(Instr.build t vs.toArray).run P w=.ok (.agg ov) w/\ov.size=cs.length/\∀(j:Nat) p v,cs[j]? =some p->ov[j]? =some v->VR Γ bs w p v:=by
 unfold Ly at h
 split at h
 ·rename_i fs zs ht hz
  unfold Sz at hz
  simp only[vaK,vbm]at hz
  obtain⟨z,⟨i,hi,hz'⟩,rfl⟩:=hz
  have hr:(zeroValue t).run P w=.ok z w:=by simp[zeroValue,run_typeInfo w hi,hz']
  split at h
  ·rename_i hall
   have hplaces:∀(l:List Field),(∀f∈l,(P.info? f.type).isSome=true)->(l.mapM fun f=>do pure (f.offset,<-sizeOf f.type):Sem (List (Nat×Nat))).run P w=.ok (l.map fun f=>(f.offset,P.cellsOf f.type)) w:=by
    intro l hl
    induction l with
    |nil=>simp
    |cons f l ih=>
     obtain⟨inf,hinf⟩:=vaH.1 (hl f (by simp))
     have:=ih fun g hg=>hl g (by simp[hg])
     simp only[vbW,Sem.run_bind,run_sizeOf w hinf,Result.andThen_ok,this,Sem.run_pure,var]
   have hp:(fs.mapM fun f=>do pure (f.offset,<-sizeOf f.type):Sem (Array (Nat×Nat))).run P w=.ok (fs.map fun f=>(f.offset,P.cellsOf f.type)) w:=by
    rw[vcb]
    simp only[Sem.run_map]
    rw[hplaces fs.toList fun f hf=>by
     have:=vbo.1 hall f (by simpa using hf)
     simpa using this]
    simp only[Result.andThen_ok]
    exact va9 (fun x=>Result.ok x w) (vbL (by simp))
   obtain⟨ov,r1,r2,r3⟩:=AZ (place':=((fs.map fun f=>(f.offset,P.cellsOf f.type))[·]?)) (fun i x hx=>by simpa using hx) parts vs _ z.cells hl hv (by simp) (fun j p v hp hv=>SW j p v hp hv) h
   refine⟨ov,?_,r2,r3⟩
   simp only[Instr.build,Sem.run_bind,hr,Result.andThen_ok,run_underlying ht,hp]
   rw[r1]
   simp
  ·cases h
 ·cases h
theorem Ig{cs:List PVal}:∀{L:List (Nat×TypeId)},NX cs L->∀x∈L,cs[x.1]? =some (.val px)
 |[],_,x,hx=>by cases hx
 | y :: L,h,x,hx => by
  rcases vaE.1 hx with rfl|hx
  ·exact h.1
  ·exact Ig h.2 x hx
section
variable{a:Array Value}{st:aA}
theorem SR.ownNils(h:SR P E Γ bs ow w a st){d:Nat}{u:Value}(hu:a[d]? =some u)(L:List (Nat×TypeId))(hL:∀x∈L,lz u x.1=some px):SR P E Γ bs ow w a {st with own:=(L.map fun x=>((d,x.1),x.2))++st.own}:=
 { h with
  ot:=fun t k e he=>by
   rcases vaw.1 he with he|he
   ·simp only[vag,Prod.mk.injEq]at he
    obtain⟨x,hx,⟨rfl,rfl⟩,rfl⟩:=he
    exact⟨u,px,hu,hL x hx,⟨0,[],World.ownsRow_nil _ _ _ _,fun b hb=>by simp[Value.ownBlock]at hb⟩,fun b hb=>by simp[Value.ownBlock]at hb⟩
   ·exact h.ot t k e he}
theorem SR.takeOwn(h:SR P E Γ bs ow w a st){i b d k off:Nat}{e:TypeId}{u v:Value}{cs:List PVal}{own:List (Nat×TypeId)}(hi:bs[i]? =some (some b))(hB:st.boxes[i]? =some (.cells cs own))
  (hm:(off,e)∈own) (hu:a[d]? =some u) (hp:lz u k=some v) (hc:w.cell? ⟨b,off,none⟩=some v):
  ∃ow',SR P E Γ bs ow' w a {st with own:=((d,k),e)::st.own,boxes:=st.boxes.set i (.cells cs (own.filter fun x=>x.1 !=off))}:=by
 obtain⟨v',q1,q2,q3⟩:=h.ob i off e cs own b hB hm hi
 rw[hc]at q1
 cases q1
 exact⟨_,(h.freeB (j:=off) hB).addOwn (d:=d) (k:=k) (e:=e) (u:=u) (v:=v) hu hp q2 (fun b' hb'=>⟨by simp[q3 b' hb'],(h.on b' _ (q3 b' hb')).2⟩)⟩
theorem SR.takeOwns{i b d off:Nat}{u:Value}{cs:List PVal}(hi:bs[i]? =some (some b))(hu:a[d]? =some u):∀(L:List (Nat×TypeId)) {ow:Nat->Option l7} {st:aA} {own:List (Nat×TypeId)},SR P E Γ bs ow w a st->st.boxes[i]? =some (.cells cs own)->
  (∀x∈L,(off+x.1,x.2)∈own)->(L.map (·.1)).Nodup->(∀x∈L,∃v,lz u x.1=some v/\w.cell? ⟨b,off+x.1,none⟩=some v)->
  ∃ow',SR P E Γ bs ow' w a ⟨st.tmps,st.boxes.set i (.cells cs (own.filter fun x=>!L.any fun y=>x.1==off+y.1)),(L.map fun y=>((d,y.1),y.2)).reverse++st.own⟩
 | [],ow,st,own,h,hB,_,_,_ => by
  refine⟨ow,?_⟩
  have e2:(own.filter fun x=>!([]:List (Nat×TypeId)).any fun y=>x.1==off+y.1)=own:=by
   apply vcA.2
   intro x _
   rfl
  have e1:st.boxes.set i (.cells cs (own.filter fun x=>!([]:List (Nat×TypeId)).any fun y=>x.1==off+y.1))=st.boxes:=by
   rw[e2]
   apply va6
   intro j
   by_cases hj:i=j
   ·subst hj
    rw[vai (ak hB),hB]
   ·rw[vap hj]
  rw[e1]
  exact h
 | x :: L,ow,st,own,h,hB,hm,hn,hc => by
  rw[var,vbB]at hn
  obtain⟨v,hv1,hv2⟩:=hc x (by simp)
  obtain⟨ow1,h1⟩:=h.takeOwn hi hB (hm x (by simp)) hu hv1 hv2
  obtain⟨ow2,h2⟩:=SR.takeOwns (off:=off) hi hu L h1 (vai (ak hB)) (fun y hy=>by
   refine va0.2 ⟨hm y (by simp[hy]),?_⟩
   simp only[bne_iff_ne,ne_eq]
   exact fun e=>hn.1 (vag.2 ⟨y,hy,by omega⟩)) hn.2 (fun y hy=>hc y (by simp[hy]))
  refine⟨ow2,?_⟩
  simp only[vbY,vcD]at h2
  have e1:((x::L).map fun y=>((d,y.1),y.2)).reverse++st.own=(L.map fun y=>((d,y.1),y.2)).reverse++((d,x.1),x.2)::st.own:=by simp
  have e2:(own.filter fun z=>!(x::L).any fun y=>z.1==off+y.1)=own.filter fun z=>(!L.any fun y=>z.1==off+y.1)&&(z.1 !=off+x.1):=by
   congr 1
   funext z
   rw[List.any_cons]
   cases(L.any fun y=>z.1==off+y.1)<;>cases hz:(z.1==off+x.1)<;>simp[bne,hz]
  rw[e1,e2]
  exact h2
theorem Cv(h:SR P E Γ bs ow w a st){T:TypeId}{i off b:Nat}{cs:List PVal}{own:List (Nat×TypeId)}{l:List PVal}(hi:bs[i]? =some (some b))(hB:st.boxes[i]? =some (.cells cs own))(hp:bK P T (cs.drop off)=some (.agg l)):∃v,(loadVar T ⟨b,off,none⟩).run P w=.ok v w/\VR Γ bs w (.agg l) v/\((∃d,P.underlying T=some d/\(match d with|.struct _|.array _ _=>True|_=>False))->∀k,k<l.length->lz v k=w.cell? ⟨b,off+k,none⟩):=by
 obtain⟨c,t',h1,h2,h3,h4⟩:=h.box_cells hi hB
 have hval:∀(k:Nat) q,(cs.drop off)[k]? =some q->w.cell? ⟨b,off+k,none⟩=some (c.getD (off+k) undef)/\VR Γ bs w q (c.getD (off+k) undef):=by
  intro k q hq
  rw[vbe]at hq
  have hlt:off+k<c.size:=vaJ (ak hq) h2
  have hc:c[off+k]? =some (c.getD (off+k) undef):=by simp[vaz,hlt]
  exact⟨(h4 _).trans hc,h3 _ _ _ hq hc⟩
 obtain⟨v,hr,hv⟩:=mS hp (vals:=fun k=>c.getD (off+k) undef) (fun k q hq=>(hval k q hq).1) (fun k q hq=>(hval k q hq).2)
 refine⟨v,hr,hv,fun hagg k hk=>?_⟩
 obtain⟨dd,hd,hm⟩:=hagg
 have hlen:P.cellsOf T<=(cs.drop off).length/\l.length=P.cellsOf T:=by
  unfold bK at hp
  rw[hd]at hp
  have key:(if P.cellsOf T<=(cs.drop off).length then some (PVal.agg ((cs.drop off).take (P.cellsOf T)))else none)=some (.agg l):=by
   cases dd<;>simp only at hm<;>exact hp
  split at key
  ·rename_i hh;cases key;exact⟨hh,by rw[vba];omega⟩
  ·cases key
 have hp2:bK P T ((List.range (cs.drop off).length).map fun k=>PVal.val (c.getD (off+k) undef))=some (.agg (((List.range (cs.drop off).length).map fun k=>PVal.val (c.getD (off+k) undef)).take (P.cellsOf T))):=by
  unfold bK
  rw[hd]
  cases dd<;>simp at hm<;>simp only<;>rw[vaq (by simpa using hlen.1)]
 obtain⟨v2,hr2,hv2⟩:=mS (Γ:=Γ) (bs:=bs) hp2 (vals:=fun k=>c.getD (off+k) undef) (fun k q hq=>by
   have hlt:k<(cs.drop off).length:=by have:=ak hq;simpa using this
   exact(hval k _ (vab hlt)).1) (fun k q hq=>by
   have hlt:k<(cs.drop off).length:=by have:=ak hq;simpa using this
   simp only[vax,vbv hlt,vah,vav]at hq
   subst hq
   exact .val _)
 rw[hr]at hr2
 cases hr2
 have hk2:k<(cs.drop off).length:=by omega
 cases hv2 with
 | agg _ vs hl hvv =>
  have hd1:(cs.drop off).length=cs.length - off:=vbO
  have hkv:k<vs.size:=by rw[hl];simp;omega
  have hq:(((List.range (cs.drop off).length).map fun k=>PVal.val (c.getD (off+k) undef)).take (P.cellsOf T))[k]? =some (.val (c.getD (off+k) undef)):=by
   rw[van (by omega)]
   simp only[vax,vbv hk2,vah]
  have:=hvv k _ vs[k] hq (by simp[hkv])
  show vs[k]? =_
  rw[(hval k _ (vab hk2)).1]
  rw[vaI hkv]
  generalize vs[k]=q at this
  generalize c.getD (off+k) undef=q2 at this
  cases this
  rfl
end
variable{a:Act}{st:aA}
theorem zH(h:SR P E Γ bs ow w a.tmps st){o:Oper}{id d:Nat}{T:TypeId}{parts:Array (Nat×Operand)}{p:PVal}{L:List (Nat×TypeId)}{K:aA->Prop}(ho:o.op=.build T parts)(hdst:o.dst=some d)(hd:d<st.tmps.length)
  (hp:dX P T (parts.toList.map fun x=>(x.1,opv E.GE st.tmps x.2))=some p) (hL:DZ P T (parts.toList.map fun x=>(x.1,opv E.GE st.tmps x.2)) L)
  (hK:K {st with tmps:=st.tmps.set d p,own:=(L.map fun x=>((d,x.1),x.2))++bQ d st.own}) (Q:Exit->Act->World->Prop):
  o.wp P a w (g9 P E bs id (aG o.op) a.defers K) Q:=by
 have hρ:∀x,VR Γ bs w (opv E.GE st.tmps x) (a.eval x):=fun x=>h.opv a.defers x
 obtain⟨k1,k2⟩:=xg hρ parts.toList
 obtain⟨v,r1,r2⟩:=yb k1 k2 hp
 obtain⟨cs,hcs,hn⟩:=hL
 obtain⟨ov,s1,s2,s3⟩:=MQ k1 k2 hcs
 rw[r1]at s1
 cases s1
 have hrun:(execOp a.eval o).run P w=.ok (.value (.agg ov)) w:=by
  have:(parts.map fun x=>(x.1,a.eval x.2))=(parts.toList.map fun x=>(x.1,a.eval x.2)).toArray:=by apply vbL;simp
  simp only[execOp,ho]
  rw[this]
  simp[r1]
 unfold Oper.wp
 rw[hrun,Oper.upon_value]
 have hds:d<a.tmps.size:=by rw[h.sz];exact hd
 have g1:=h.set (d:=d) r2
 have g2:=g1.ownNils (d:=d) (u:=.agg ov) (by simp[hds]) L fun x hx=>by
  have hq:=Ig hn x hx
  have hlt:x.1<ov.size:=by rw[s2];exact ak hq
  have hv:=s3 x.1 _ ov[x.1] hq (by simp[hlt])
  show ov[x.1]? =_
  rw[vaI hlt]
  generalize ov[x.1]=q at hv
  cases hv
  rfl
 have hput:∀v,(a.put o.dst v).tmps=a.tmps.setIfInBounds d v:=fun v=>by rw[hdst];rfl
 rw[<-hput]at g2
 exact⟨bR _ _ _,Γ,bs,_,_,g2,hK,.inl rfl⟩
theorem SR.ownLe(h:SR P E Γ bs ow w a.tmps st){H0:List aB}(hs:ownLe H0 st.boxes):SR P E Γ bs ow w a.tmps {st with boxes:=H0}:=
 { h with
  bl:=h.bl.trans hs.1.symm
  bx:=fun i b B hb hB=>by
   obtain⟨B',hB',hx⟩:=hs.2 i B hB
   obtain⟨k1,k2,k3⟩:=h.bx i b B' hb hB'
   rcases hx with rfl|⟨cs,own,own',rfl,rfl,_⟩
   ·exact⟨k1,k2,k3⟩
   ·exact⟨k1,k2,k3⟩
  ob:=fun i j e cs own b hB hj hb=>by
   obtain⟨B',hB',hx⟩:=hs.2 i _ hB
   rcases hx with rfl|⟨cs1,qW,own2,rfl,e2,hsub⟩
   ·exact h.ob i j e cs own b hB' hj hb
   ·cases e2;exact h.ob i j e _ qW b hB' (hsub _ hj) hb}
theorem zP(h:SR P E Γ bs ow w a.tmps st){o:Oper}{id d:Nat}{f:Operand}{args:Array Operand}{tys:Array TypeId}{r:PVal}{ro:List (Nat×TypeId)}{H':List aB}{oa:List OA}{K:aA->Prop}(ho:o.op=.call {callee:=.value f,args,argTypes:=tys})(hdst:o.dst=some d)(hd:d<st.tmps.length)
  (hg:Hk P E.GE f args.toList st r ro H' oa) (hK:K ⟨st.tmps.set d r,H',(ro.map fun x=>((d,x.1),x.2))++bQ d (st.own.filter fun z=>!oa.any fun x=>z.1==(x.t,x.k))⟩) (Q:Exit->Act->World->Prop):
  o.wp P a w (g9 P E bs id (aG o.op) a.defers K) Q:=by
 obtain⟨g,first,cap,argsC,ρ,H0,Hc,Hc',rc,hfv,hnd,hC,hle,hH,hH',hlen,hsame,hr,hal,ha,ho1,ho3⟩:=hg.ex
 have hρ:∀x,VR Γ bs w (opv E.GE st.tmps x) (a.eval x):=fun x=>h.opv a.defers x
 have hf:=hρ f
 rw[hfv]at hf
 generalize hvf:a.eval f=vf at hf
 cases hf with
 |func _ _ _ fs cs hl hl' h1 h2=>
 have hargs:(fs++args.map a.eval++cs).size=(first++args.toList.map (opv E.GE st.tmps)++cap).length:=by simp[hl,hl']
 have hvr:∀(i:Nat) p v,(first++args.toList.map (opv E.GE st.tmps)++cap)[i]? =some p->(fs++args.map a.eval++cs)[i]? =some v->VR Γ bs w p v:=by
  refine AI (by simp[hl]) (AI hl h1 fun i p v hp hv=>?_) h2
  exact xX hρ args.toList i p v hp (by simpa using hv)
 have hrun:(execOp a.eval o).run P w=.ok (.enter g (fs++args.map a.eval++cs)) w:=by
  simp[execOp,ho,resolve,hvf,Deferred.ofValue,invoke,hC.1]
 have hds:d<a.tmps.size:=by rw[h.sz];exact hd
 have hw:=h.ownLe hle
 unfold Oper.wp
 rw[hrun,Oper.upon_enter]
 refine(Rv hw hds hnd hC (fun x hx=>?_) ho3 hH hH' (hlen.trans hle.1.symm) hsame hr hal ha hargs hvr).mono fun e w' he=>?_
 ·obtain⟨j,hj,hj2⟩:=ho1 x hx
  have hat:∀{y:Operand},args.toList[j]? =some y->(fs++args.map a.eval++cs)[x.i]? =some (a.eval y):=by
   intro y hy
   have hjl:j<args.size:=by have:=ak hy;simpa using this
   have hja:args[j]? =some y:=by simpa using hy
   rw[hj,<-hl,vaR (by simp;omega),vb3 (by omega),vbu]
   simp only[Array.getElem?_map,hja,vah]
  rcases hj2 with⟨hj2,hk⟩|⟨ht,hj2⟩
  ·exact .inl ⟨hat hj2,hk⟩
  ·obtain⟨u,v,e1,_⟩:=h.ot _ _ _ ht
   exact .inr ⟨ht,by rw[hat hj2,fo e1];exact e1.symm⟩
 ·obtain⟨v,Γ',ow',rfl,hS,_⟩:=he
  have hput:(a.put o.dst v).tmps=a.tmps.setIfInBounds d v:=by rw[hdst];rfl
  show g9 P E bs id (aG o.op) a.defers K (a.put o.dst v) w'
  refine⟨bR _ _ _,Γ',bs,ow',_,?_,hK,.inl rfl⟩
  rw[hput];exact hS
theorem CH(h:SR P E Γ bs ow w a.tmps st){o:Oper}{id:Nat}{K:aA->Prop}(hp:IB P E.GE o K st)(Q:Exit->Act->World->Prop):o.wp P a w (g9 P E bs id (aG o.op) a.defers K) Q:=by
 unfold IB at hp
 split at hp
 ·rename_i T parts d ho hd
  obtain⟨p,L,h1,h2,h3,h4⟩:=hp
  exact zH h ho hd h3 h1 h2 h4 Q
 ·rename_i T x t ho hd
  obtain⟨i,off,H,cs,own,L,l,hx,ht,hst,hB,hm,hn,hK⟩:=hp
  have htl:t<st.tmps.length:=by
   by_cases hlt:t<st.tmps.length
   ·exact hlt
   ·rw[vaj,vaG (vbZ hlt)]at ht;cases ht
  have hta:t<a.tmps.size:=by rw[h.sz];exact htl
  have hu:a.tmps[t]? =some a.tmps[t]:=by simp[hta]
  generalize a.tmps[t]=u at hu
  have hvt:=Hh h hu
  rw[ht]at hvt
  have hvx:VR Γ bs w (opv E.GE st.tmps x) (a.eval x):=h.opv a.defers x
  rw[hx]at hvx
  obtain⟨w',r1,r2,_,r4⟩:=Ad h hvx hvt hst
  have hrun:(execOp a.eval o).run P w=.ok .skip w':=by simp[execOp,ho,fo hu,r1]
  unfold Oper.wp
  rw[hrun,Oper.upon_skip]
  generalize a.eval x=vx at hvx r1
  cases hvx with
  |bptr _ _ b hb=>
  obtain⟨c1,_⟩:=r4 i off b rfl hb
  obtain⟨ow',g⟩:=SR.moveOwns (off:=off) hb hu L r2 hB hm hn fun y hy=>by
   obtain⟨u',v,e1,e2,_,_⟩:=h.ot t y.1 y.2 (hm y hy)
   rw[hu]at e1
   cases e1
   refine⟨v,e2,?_⟩
   cases hvt with
   |agg _ vs _ _=>exact c1 y.1 v e2
  have hput:a.put o.dst undef=a:=by rw[hd];rfl
  rw[hput]
  exact⟨rfl,Γ,bs,ow',_,g,hK,.inl rfl⟩
 ·rename_i T x d ho hd
  obtain⟨i,off,cs,own,L,l,⟨fs,hfs⟩,hx,hB,hp,hm,hn,hll,hdl,hK⟩:=hp
  have hvx:VR Γ bs w (opv E.GE st.tmps x) (a.eval x):=h.opv a.defers x
  rw[hx]at hvx
  generalize hve:a.eval x=vx at hvx
  cases hvx with
  |bptr _ _ b hb=>
  obtain⟨v,r1,r2,r3⟩:=Cv h hb hB hp
  have hrun:(execOp a.eval o).run P w=.ok (.value v) w:=by simp[execOp,ho,hve,Instr.loadAt,Instr.sureAddr,r1]
  unfold Oper.wp
  rw[hrun,Oper.upon_value]
  have hds:d<a.tmps.size:=by rw[h.sz];exact hdl
  have g1:=h.set (d:=d) r2
  obtain⟨ow',g2⟩:=SR.takeOwns (off:=off) (d:=d) (u:=v) hb (by simp[hds]) L g1 hB hm hn fun y hy=>by
   have:=r3 ⟨_,hfs,trivial⟩ y.1 (hll y hy)
   obtain⟨v',q1,_⟩:=h.ob i (off+y.1) y.2 cs own b hB (hm y hy) hb
   exact⟨v',this.trans q1,q1⟩
  have hput:∀v,(a.put o.dst v).tmps=a.tmps.setIfInBounds d v:=fun v=>by rw[hd];rfl
  rw[<-hput]at g2
  exact⟨bR _ _ _,Γ,bs,ow',_,g2,hK,.inl rfl⟩
 ·rename_i T x d ho hd
  obtain⟨vs,hvs,hdl,hK⟩:=hp
  have hvx:VR Γ bs w (opv E.GE st.tmps x) (a.eval x):=h.opv a.defers x
  generalize hve:a.eval x=vx at hvx
  obtain⟨k1,k2⟩:=hvx.cells hvs
  obtain⟨g1,hle⟩:=h.alloc_imm vx.cells T vx.cells.size (vam _)
  have hrun:(execOp a.eval o).run P w=.ok (.value (.pointer (some ⟨w.heap.size,0,none⟩))) (w.alloc (.cells vx.cells T)):=by simp[execOp,ho,hve,Instr.box,newVar,newRow]
  unfold Oper.wp
  rw[hrun,Oper.upon_value]
  have hcell:∀j,(w.alloc (.cells vx.cells T)).cell? ⟨w.heap.size,j,none⟩=vx.cells[j]?:=fun j=>cell_of_row _ _ _ _ _ _ (j0 w _)
  have hget:∀{k:Nat} {p:PVal},vs[k]? =some p->vx.cells[k]? =some (vx.cells.getD k undef):=fun{k p} hp=>by
   have hlt:k<vx.cells.size:=by rw[k1];exact ak hp
   simp[vaz,hlt]
  have hvr:VR (Γ.put w.heap.size vx.cells.size) bs (w.alloc (.cells vx.cells T)) (.eptr vs) (.pointer (some ⟨w.heap.size,0,none⟩)):=
   .eptr vs w.heap.size 0 vx.cells.size (fun k=>vx.cells.getD k undef) (Γ.put_same _ _) (by omega)
    (fun k p hp=>by rw[hcell,vaM];exact hget hp) (fun k p hp=>(k2 k p _ hp (hget hp)).mono hle (.refl _))
  have g2:=g1.set (d:=d) hvr
  have hput:∀v,(a.put o.dst v).tmps=a.tmps.setIfInBounds d v:=fun v=>by rw[hd];rfl
  rw[<-hput]at g2
  exact⟨bR _ _ _,_,bs,_,_,g2,hK,.inl rfl⟩
 ·rename_i f args tys d ho hd
  obtain⟨r,ro,H',oa,h1,h2,h3⟩:=hp
  exact zP h ho hd h2 h1 h3 Q
 ·exact hp.elim
theorem D3(h:SR P E Γ bs ow w a.tmps st){A:List Nat}{o:Oper}{id:Nat}(hid:aG o.op=true->bs[id]? =some none){K:aA->Prop}(hp:Ac P E.GE A o id K st)(Q:Exit->Act->World->Prop):o.wp P a w (Ex P E bs id (aG o.op) a.defers K) Q:=by
 rcases hp with hp|hp|hp|hp
 ·exact Oper.wp_mono (fun _ _ hA=>hA.to3) (MZ h hid hp Q)
 ·exact Oper.wp_mono (fun _ _ hA=>hA.to3) (CH h hp Q)
 ·exact N7 h hp Q
 ·exact N5 h hp Q
theorem yf{bs0:bw}{ds:List Deferred}{A:List Nat}{ops:Array Oper}{K:aA->Prop}{Q:Exit->Act->World->Prop}
  (hQ:∀a w st,a.defers=ds->KM P E bs0 st a w->K st->Q .normal a w):
  ∀(rest:List Oper) (k id:Nat) (Γ:aV) (bs:bw) (ow:Nat->Option l7) (a:Act) (w:World) (st:aA),(∀j,rest[j]? =ops[k+j]?)->SR P E Γ bs ow w a.tmps st->a.defers=ds->QN bs0 bs->bs0.length<=id->
   (∀m,id<=m->m<id+cj rest->bs[m]? =some none)->dg P E.GE A ops K rest id st->wpOps P ops Q ((List.range ops.size).drop k) a w
 | [],k,id,Γ,bs,ow,a,w,st,hr,h,hd,hk,_,_,hp => by
  have hsz:ops.size<=k:=by
   have:=hr 0
   simp only[List.getElem?_nil,Nat.add_zero]at this
   exact vbN.1 this.symm
  rw[List.drop_eq_nil_of_le (by simpa using hsz)]
  exact hQ a w st hd ⟨Γ,bs,ow,h,hk⟩ hp
 | o :: rest,k,id,Γ,bs,ow,a,w,st,hr,h,hd,hk,hid,hfree,hp => by
  have hok:ops[k]? =some o:=by have:=hr 0;simpa using this.symm
  have hlt:k<ops.size:=(vad.1 hok).1
  have hcons:(List.range ops.size).drop k=k::(List.range ops.size).drop (k+1):=by
   rw[vbz (by simpa using hlt)];simp
  rw[hcons,wpOps_cons]
  unfold wpOp
  rw[hok]
  simp only
  have hcnt:cj (o::rest)=(if aG o.op then 1 else 0)+cj rest:=by
   unfold cj
   simp only[vbE]
   split<;>simp<;>omega
  have hrest:∀j,rest[j]? =ops[k+1+j]?:=fun j=>by
   have:=hr (j+1)
   simpa[vb1,vcs 1 j]using this
  have hmk:aG o.op=true->bs[id]? =some none:=fun hm=>hfree id (vam _) (by rw[hcnt,hm];simp;omega)
  have step:Ac P E.GE A o id (dg P E.GE A ops K rest (id+if aG o.op then 1 else 0)) st->o.wp P a w (wpOps P ops Q ((List.range ops.size).drop (k+1))) Q:=by
   intro hs
   refine Oper.wp_mono (fun a' w' hA=>?_) (D3 h hmk hs Q)
   obtain⟨hd',Γ',bs',ow',st',h1,h2,h3⟩:=hA
   refine yf hQ rest (k+1) _ Γ' bs' ow' a' w' st' hrest h1 (hd'.trans hd) ?_ (by omega) ?_ h2
   ·rcases h3 with rfl|⟨hm,b,rfl⟩|⟨x,rfl⟩
    ·exact hk
    ·intro i hi
     rw[vap (by omega)]
     exact hk i hi
    ·intro i hi
     have hki:=hk i hi
     have hlt:i<bs.length:=by
      have h1:bs0[i]? =some bs0[i]:=vab hi
      rw[h1]at hki
      exact ak hki
     rw[vac hlt]
     exact hki
   ·intro m hm1 hm2
    have hb:=hfree m (by omega) (by rw[hcnt];omega)
    rcases h3 with rfl|⟨hm,b,rfl⟩|⟨x,rfl⟩
    ·exact hb
    ·rw[hm]at hm1
     simp only[if_true]at hm1
     rw[vap (by omega)]
     exact hb
    ·rw[vac (ak hb)]
     exact hb
  have skip:dg P E.GE A ops K rest (id+if aG o.op then 1 else 0) (wF st o.dst (.val undef) [] st.boxes)->wpOps P ops Q ((List.range ops.size).drop (k+1)) (a.put o.dst undef) w:=by
   intro hs
   refine yf hQ rest (k+1) _ Γ bs ow (a.put o.dst undef) w _ hrest (h.putv_nil (.val undef) o.dst rfl) ((bR _ _ _).trans hd) hk (by omega) (fun m hm1 hm2=>hfree m (by omega) (by rw[hcnt];omega)) hs
  simp only[dg]at hp
  have hgo:(Region.wanted o (yielded ops a.tmps)=true->o.wp P a w (wpOps P ops Q ((List.range ops.size).drop (k+1))) Q)/\(¬Region.wanted o (yielded ops a.tmps)=true->wpOps P ops Q ((List.range ops.size).drop (k+1)) (a.put o.dst undef) w):=by
   split at hp
   ·rename_i hg
    exact⟨fun _=>step hp,fun hn=>absurd (by simp[Region.wanted,hg]) hn⟩
   ·rename_i j want hg
    split at hp
    ·rename_i x hx
     have hw:Region.wanted o (yielded ops a.tmps)=(x==some want):=by simp[Region.wanted,hg,Ga h hx]
     rw[hw]
     exact⟨fun hx=>step (hp.1 (by simpa using hx)),fun hx=>skip (hp.2 (by simpa using hx))⟩
    ·exact hp.elim
  by_cases hw:Region.wanted o (yielded ops a.tmps)=true
  ·rw[vaq hw];exact .inl (hgo.1 hw)
  ·rw[vat hw];exact hgo.2 hw
theorem B5{bs0:bw}{A:List Nat}{ops:Array Oper}{K:aA->Prop}{Q:Exit->Act->World->Prop}(hR:KM P E bs0 st a w)(hl:bs0.length<=st.boxes.length)
  (hQ:∀a' w' st',a'.defers=a.defers->KM P E bs0 st' a' w'->K st'->Q .normal a' w') (hp:dg P E.GE A ops K ops.toList st.boxes.length {st with boxes:=st.boxes++gg P ops.toList}):
  wpOps P ops Q (List.range ops.size) a w:=by
 obtain⟨Γ,bs,ow,h,hk⟩:=hR
 have hext:=h.extend (gg P ops.toList)
 have hlen:=yC P ops.toList
 have:=yf (P:=P) (E:=E) (bs0:=bs0) (ds:=a.defers) hQ ops.toList 0 st.boxes.length Γ _ ow a w _ (fun j=>by simp) hext rfl (fun i hi=>?_) hl (fun m hm1 hm2=>?_) hp
 ·simpa using this
 ·rw[vac (by rw[h.bl];omega)];exact hk i hi
 ·rw[vaf (by rw[h.bl];omega),vaX,vaq (by rw[h.bl];omega)]
end
def FP(ro:Option Nat)(P:Program)(c:Code)(Q:Exit->Act->World->Prop)(a:Act)(w:World):Prop:=match ro with
 |none=>c.wp P Q a w
 |some l=>∀n,c.wpIn (Fence.wide.inRound l) n P Q a w
def fA(o:Oper):Bool:=match o.op with
 |.defer _=>false
 |_=>true
section
variable{P:Program}{ro:Option Nat}{Q:Exit->Act->World->Prop}{a:Act}{w:World}
theorem lj{c:Code}{Q':Exit->Act->World->Prop}(h:FP ro P c Q a w)(hq:∀e a w,Q e a w->Q' e a w):FP ro P c Q' a w:=by
 cases ro with
 |none=>exact wp_mono h hq
 |some l=>exact fun n=>wpIn_mono (h n) hq
theorem Mi(h:Q .normal a w):FP ro P .skip Q a w:=by
 cases ro with
 |none=>exact wp_skip h
 |some l=>exact fun n=>wpIn_skip h
theorem PA{l:Nat}(h:Q .normal a w):FP ro P (.label l) Q a w:=by
 cases ro with
 |none=>exact wp_label h
 |some l=>exact fun n=>wpIn_label h
theorem Mh{id:Nat}(h:Q (.exit id) a w):FP ro P (.exit id) Q a w:=by
 cases ro with
 |none=>exact wp_exit h
 |some l=>exact fun n=>wpIn_exit h
theorem Tl(h:Q .ret a w):FP ro P .ret Q a w:=by
 cases ro with
 |none=>exact wp_ret h
 |some l=>exact fun n=>wpIn_ret h
theorem Du{x y:Code}(h:FP ro P x (Exit.then (FP ro P y Q) Q) a w):FP ro P (.seq x y) Q a w:=by
 cases ro with
 |none=>exact wp_seq h
 |some l=>exact fun n=>wpIn_seq (wpIn_mono (h n) fun e a w hq=>by cases e<;>first|exact hq n|exact hq)
theorem HJ{c:Operand}{x y:Code}{t:Bool}(hc:a.eval c=.bool t)(h1:t=true->FP ro P x Q a w)(h2:t=false->FP ro P y Q a w):FP ro P (.cond c x y) Q a w:=by
 cases t with
 |true=>cases ro with
  |none=>exact wp_cond hc (h1 rfl)
  |some l=>exact fun n=>wpIn_cond hc (h1 rfl n)
 |false=>cases ro with
  |none=>exact wp_cond hc (h2 rfl)
  |some l=>exact fun n=>wpIn_cond hc (h2 rfl n)
theorem J0{id:Nat}{c:Code}(h:FP ro P c (Exit.inBlock id Q) a w):FP ro P (.block id c) Q a w:=by
 cases ro with
 |none=>exact wp_block h
 |some l=>exact fun n=>wpIn_block (h n)
theorem zK{c:Code}(I:Nat->Act->World->Prop)(n₀:Nat)(h₀:I n₀ a w)(round:∀n a w,I n a w->FP ro P c (Exit.then (fun a' w'=>∃n',n'<n/\I n' a' w') Q) a w):FP ro P (.loop c) Q a w:=by
 cases ro with
 |none=>exact wp_loop_ghost I n₀ h₀ round
 |some l=>exact fun n=>wpIn_loop_ghost I n₀ h₀ fun k a w hI=>round k a w hI n
theorem TS{l n:Nat}{row:String}{args:Array Value}{R:Value->World->Prop}(h:Rows P row args w R):RowsIn (Fence.wide.inRound l) n P row args w R:=fun c cs _=>by
 obtain⟨v,w',r,s⟩:=h c cs
 exact⟨v,w',r,by rw[fenced_inRound];exact stepsIn_wide.2 s⟩
theorem Rx{l n:Nat}{f:FuncId}{args:Array Value}{R:Ending->World->Prop}(h:Calls P f args w R):CallsIn (Fence.wide.inRound l) n P f args w R:=CallsIn.inRound l (callsIn_wide.2 h)
theorem OY{l n:Nat}{o:Oper}{next:Act->World->Prop}(hd:fA o=true)(h:o.wp P a w next Q):o.wpIn (Fence.wide.inRound l) n P a w next Q:=by
 refine⟨fun _ _=>trivial,?_⟩
 have hs:o.semAt (Fence.wide.inRound l).round a.eval=execOp a.eval o:=Oper.semAt_eq _ _ _ fun c hc=>by unfold fA at hd;rw[hc]at hd;cases hd
 rw[hs]
 unfold Oper.wp at h
 generalize (execOp a.eval o).run P w=r at *
 have hdep:(Fence.wide.inRound l).depth.isSome=true->1<=n:=fun h=>by simp[Fence.wide]at h
 cases r with
 | ok x w' =>
  cases x<;>simp only[Oper.upon]at h<;>simp only[Oper.uponIn]<;>first
   |exact h.elim
   |exact h
   |exact⟨hdep,Rx h⟩
   |exact⟨hdep,TS h⟩
 |halt x w'=>cases x<;>simp only[Oper.upon]at h<;>simp only[Oper.uponIn]<;>exact h
theorem DU{l n:Nat}{ops:Array Oper}(hd:ops.toList.all fA=true)(hQ:¬LetsOut Q):∀(L:List Nat) (a:Act) (w:World),wpOps P ops Q L a w->wpOpsIn (Fence.wide.inRound l) n P ops Q L a w
 |[],a,w,h=>h
 | i :: rest,a,w,h => by
  unfold wpOps at h
  unfold wpOpsIn
  split at h
  ·rename_i ho;simp only[ho];exact DU hd hQ rest a w h
  ·rename_i o ho
   simp only[ho]
   have hn:fA o=true:=vau.1 hd o (by
    have:=vct ho
    simpa using this)
   split at h
   ·rename_i hw
    rw[vaq hw]
    rcases h with h|h
    ·exact Oper.wpIn_mono (fun a w h=>DU hd hQ rest a w h) (OY hn h)
    ·exact absurd h.2 hQ
   ·rename_i hw
    rw[vat hw]
    exact⟨fun _ _=>trivial,DU hd hQ rest _ w h⟩
theorem TA{l n:Nat}{ops:Array Oper}(hd:ops.toList.all fA=true)(hQ:¬LetsOut Q){i:Nat}{K:Act->World->Prop}(h:wpOp P ops Q i K a w):wpOpIn (Fence.wide.inRound l) n P ops Q i K a w:=by
 unfold wpOp at h
 unfold wpOpIn
 split at h
 ·rename_i ho;simp only[ho];exact h
 ·rename_i o ho
  simp only[ho]
  have hn:fA o=true:=vau.1 hd o (by
   have:=vct ho
   simpa using this)
  split at h
  ·rename_i hw
   rw[vaq hw]
   rcases h with h|h
   ·exact OY hn h
   ·exact absurd h.2 hQ
  ·rename_i hw
   rw[vat hw]
   exact⟨fun _ _=>trivial,h⟩
theorem L5{l n:Nat}{md:Region.Mode}{ops:Array Oper}(hd:ops.toList.all fA=true)(hQ:¬LetsOut Q):∀(fuel:Nat) (listed:Array Bool) (a:Act) (w:World),wpAny P md ops Q fuel listed a w->wpAnyIn (Fence.wide.inRound l) n P md ops Q fuel listed a w
 |0,_,_,_,h=>h
 |fuel+1,_,_,_,h=>⟨h.1,fun i hi=>wpOpIn_mono (fun a w h=>L5 hd hQ fuel _ a w h) (TA hd hQ (h.2 i hi))⟩
theorem xQ{id:Nat}{ops:Array Oper}(hd:ops.toList.all fA=true)(hQ:¬LetsOut Q)(h:wpOps P ops Q (List.range ops.size) a w):FP ro P (.region id ops false) Q a w:=by
 cases ro with
 |none=>exact wp_region h
 |some l=>exact fun n=>wpIn_region (DU hd hQ _ _ _ h)
theorem zL{id:Nat}{ops:Array Oper}(hf:P.follows .mixedOrders=true)(hd:ops.toList.all fA=true)(hQ:¬LetsOut Q)
  (h:wpAny P .any ops Q ops.size (Array.replicate ops.size false) a {w with drawn:=w.drawn+1}):FP ro P (.region id ops true) Q a w:=by
 cases ro with
 |none=>exact wp_region_any hf h
 |some l=>exact fun n=>wpIn_region_any hf (L5 hd hQ _ _ _ _ h)
end
section plain
variable{σ X:Type}
def tb(body:σ->Option (σ⊕X)):Nat->σ->Option X
 |0,_=>none
 |n+1,s=>match body s with
  |none=>none
  |some (.inl s')=>tb body n s'
  |some (.inr x)=>some x
theorem Ia{body:σ->Option (σ⊕X)}:∀{n:Nat} {s:σ} {x:X},tb body n s=some x->∀k,tb body (n+k) s=some x
 |0,_,_,h,_=>by cases h
 | n + 1,s,x,h,k => by
  rw[Nat.add_right_comm]
  unfold tb at h ⊢
  split at h
  ·cases h
  ·exact Ia h k
  ·exact h
theorem Kc{body:σ->Option (σ⊕X)}{n m:Nat}{s:σ}{x y:X}(h1:tb body n s=some x)(h2:tb body m s=some y):x=y:=by
 have h3:=Ia h1 m
 have h4:=Ia h2 n
 rw[vcs]at h4
 exact vbn (h3.symm.trans h4)
open Classical in
def RY(body:σ->Option (σ⊕X))(s:σ):Option X:=if h:∃x n,tb body n s=some x then some h.choose else none
def Td:Nat:=2 ^ 200
def loop(body:σ->Option (σ⊕X))(s:σ):Option X:=match tb body Td s with
 |some x=>some x
 |none=>RY body s
theorem AS{body:σ->Option (σ⊕X)}{s:σ}{x:X}:loop body s=some x↔∃n,tb body n s=some x:=by
 have hC:RY body s=some x↔∃n,tb body n s=some x:=by
  unfold RY
  constructor
  ·intro h
   split at h
   ·rename_i he;cases h;exact he.choose_spec
   ·cases h
  ·rintro⟨n,h⟩
   have he:∃x n,tb body n s=some x:=⟨x,n,h⟩
   rw[dif_pos he]
   obtain⟨m,hm⟩:=he.choose_spec
   rw[Kc hm h]
 unfold loop
 split
 ·rename_i y hy
  exact⟨fun h=>⟨Td,hy.trans h⟩,fun⟨n,h⟩=>va9 some (Kc hy h)⟩
 ·exact hC
theorem tC(body:σ->Option (σ⊕X))(s:σ):loop body s=match body s with
  |none=>none
  |some (.inl s')=>loop body s'
  |some (.inr x)=>some x:=by
 have key:∀y,loop body s=some y↔(match body s with
  |none=>none
  |some (.inl s')=>loop body s'
  |some (.inr x)=>some x)=some y:=by
  intro y
  rw[AS]
  constructor
  ·rintro⟨n,h⟩
   cases n with
   |zero=>cases h
   | succ n =>
    unfold tb at h
    cases hb:body s with
    |none=>rw[hb]at h;cases h
    |some v=>
     cases v with
     |inl s'=>rw[hb]at h;exact AS.2 ⟨n,h⟩
     |inr x=>rw[hb]at h;exact h
  ·intro h
   cases hb:body s with
   |none=>rw[hb]at h;cases h
   | some v =>
    cases v with
    |inl s'=>
     rw[hb]at h
     obtain⟨n,hn⟩:=AS.1 h
     exact⟨n+1,by unfold tb;rw[hb];exact hn⟩
    |inr x=>rw[hb]at h;exact⟨1,by unfold tb;rw[hb];exact h⟩
 cases h1:loop body s with
 | none =>
  cases h2:(match body s with
   |none=>none
   |some (.inl s')=>loop body s'
   |some (.inr x)=>some x)with
  |none=>rfl
  |some y=>rw[(key y).2 h2]at h1;cases h1
 |some y=>exact((key y).1 h1).symm
def gY{α:Type}(l:List α)(i:Int):Option α:=if 0<=i then l[i.toNat]? else none
theorem aJ{α β:Type}{o:Option α}{k:α->Option β}{x:β}(h:o.bind k=some x):∃a,o=some a/\k a=some x:=by
 cases o with
 |none=>cases h
 |some a=>exact⟨a,rfl,h⟩
theorem aP{β:Type}{b:Bool}{x y:Option β}{z:β}(h:(if b=true then x else y)=some z):(b=true/\x=some z)\/(b=false/\y=some z):=by
 cases b
 ·exact .inr ⟨rfl,h⟩
 ·exact .inl ⟨rfl,h⟩
end plain
structure sZ(GE:List (Nat×List PVal))(m:Nat)(E:qt):Prop where
 ge:E.GE=GE
 low:∀b n,E.Γ b=some n->b<E.w.heap.size
 nt:m=0->∀b,¬E.T b
 gl:∀g cs,(g,cs)∈GE->VR E.Γ [] E.w (.eptr cs) (.pointer (some ⟨g,0,none⟩))
def aR(P:Program)(GE:List (Nat×List PVal))(m:Nat)(c:Code)(Q:Exit->aA->Prop)(st:aA):Prop:=
 ∀(ro:Option Nat) (E:qt) (bs0:bw) (a:Act) (w:World),sZ GE m E->bs0.length=m % 1000->KM P E bs0 st a w->FP ro P c (JI P E bs0 a.defers Q) a w
def EX(e:Exit)(st:aA):Exit->aA->Prop:=fun e' st'=>e'=e/\st'=st
def yN(P:Program)(m:Nat)(st st':aA):Prop:=∀(E:qt) (bs0:bw) (a:Act) (w:World),bs0.length=m % 1000->KM P E bs0 st a w->KM P E bs0 st' a w
section
variable{P:Program}{GE:List (Nat×List PVal)}{m:Nat}
theorem yN.refl(st:aA):yN P m st st:=fun _ _ _ _ _ h=>h
theorem yN.trans{a b c:aA}(h:yN P m a b)(h':yN P m b c):yN P m a c:=fun E bs0 x w hb h0=>h' E bs0 x w hb (h E bs0 x w hb h0)
theorem yN.of_less{st st':aA}(h:VH st st')(hm:m % 1000<=st'.boxes.length):yN P m st st':=fun _ _ _ _ hb hR=>hR.less h (by rw[hb];exact hm)
theorem aR.mono{c:Code}{Q Q':Exit->aA->Prop}{st:aA}(h:aR P GE m c Q st)(hq:∀e st,Q e st->∃st',yN P m st st'/\Q' e st'):aR P GE m c Q' st:=
 fun ro E bs0 a w hE hb hR=>lj (h ro E bs0 a w hE hb hR) fun e a' w' hP=>by
  obtain⟨hd,st1,hR1,hQ⟩:=hP
  obtain⟨st2,hw,hQ2⟩:=hq e st1 hQ
  exact⟨hd,st2,hw E bs0 a' w' hb hR1,hQ2⟩
theorem aR.imp{c:Code}{Q Q':Exit->aA->Prop}{st:aA}(h:aR P GE m c Q st)(hq:∀e st,Q e st->Q' e st):aR P GE m c Q' st:=h.mono fun e st hQ=>⟨st,.refl st,hq e st hQ⟩
theorem aR.weak{c:Code}{Q:Exit->aA->Prop}{st st':aA}(hw:yN P m st st')(h:aR P GE m c Q st'):aR P GE m c Q st:=
 fun ro E bs0 a w hE hb hR=>h ro E bs0 a w hE hb (hw E bs0 a w hb hR)
theorem aR.skip{Q:Exit->aA->Prop}{st:aA}(h:Q .normal st):aR P GE m .skip Q st:=fun _ _ _ _ _ _ _ hR=>Mi ⟨rfl,st,hR,h⟩
theorem aR.label{l:Nat}{Q:Exit->aA->Prop}{st:aA}(h:Q .normal st):aR P GE m (.label l) Q st:=fun _ _ _ _ _ _ _ hR=>PA ⟨rfl,st,hR,h⟩
theorem aR.exit{id:Nat}{Q:Exit->aA->Prop}{st:aA}(h:Q (.exit id) st):aR P GE m (.exit id) Q st:=fun _ _ _ _ _ _ _ hR=>Mh ⟨rfl,st,hR,h⟩
theorem aR.ret{Q:Exit->aA->Prop}{st:aA}(h:Q .ret st):aR P GE m .ret Q st:=fun _ _ _ _ _ _ _ hR=>Tl ⟨rfl,st,hR,h⟩
theorem aR.seq{x y:Code}{Q:Exit->aA->Prop}{st:aA}(h:aR P GE m x (fun e st'=>match e with|.normal=>aR P GE m y Q st'|e=>Q e st') st):aR P GE m (.seq x y) Q st:=by
 intro ro E bs0 a w hE hb hR
 refine Du (lj (h ro E bs0 a w hE hb hR) fun e a' w' hq=>?_)
 obtain⟨hd,st',hR',hq⟩:=hq
 cases e with
 |normal=>
  have:=hq ro E bs0 a' w' hE hb hR'
  rw[hd]at this
  exact this
 |exit id=>exact⟨hd,st',hR',hq⟩
 |goto l=>exact⟨hd,st',hR',hq⟩
 |ret=>exact⟨hd,st',hR',hq⟩
 |panic c=>exact⟨hd,st',hR',hq⟩
 |outgrown=>exact⟨hd,st',hR',hq⟩
theorem aR.cond{c:Operand}{x y:Code}{Q:Exit->aA->Prop}{st:aA}{t:Bool}(hv:opv GE st.tmps c=.bool t)(h1:t=true->aR P GE m x Q st)(h2:t=false->aR P GE m y Q st):aR P GE m (.cond c x y) Q st:=by
 intro ro E bs0 a w hE hb hR
 obtain⟨Γ,bs,ow,h,hk⟩:=hR
 have hv':=h.opv a.defers c
 rw[hE.ge,hv]at hv'
 generalize hc:(Act.mk a.tmps a.defers).eval c=vc at hv'
 cases hv'
 exact HJ (t:=t) hc (fun ht=>h1 ht ro E bs0 a w hE hb ⟨Γ,bs,ow,h,hk⟩) (fun ht=>h2 ht ro E bs0 a w hE hb ⟨Γ,bs,ow,h,hk⟩)
theorem aR.block{id:Nat}{c:Code}{Q:Exit->aA->Prop}{st:aA}(h:aR P GE m c (Ny id Q) st):aR P GE m (.block id c) Q st:=by
 intro ro E bs0 a w hE hb hR
 refine J0 (lj (h ro E bs0 a w hE hb hR) fun e a' w' hq=>?_)
 obtain⟨hd,st',hR',hq⟩:=hq
 cases e with
 | exit id' =>
  simp only[Ny]at hq
  simp only[Exit.inBlock]
  split at hq
  ·rename_i hid;rw[vaq hid];exact⟨hd,st',hR',hq⟩
  ·rename_i hid;rw[vat hid];exact⟨hd,st',hR',hq⟩
 |normal=>exact⟨hd,st',hR',hq⟩
 |goto l=>exact⟨hd,st',hR',hq⟩
 |ret=>exact⟨hd,st',hR',hq⟩
 |panic c=>exact⟨hd,st',hR',hq⟩
 |outgrown=>exact⟨hd,st',hR',hq⟩
theorem aR.text{A:List Nat}{id:Nat}{ops:Array Oper}{Q:Exit->aA->Prop}{st:aA}(hd:ops.toList.all fA=true)
  (h:dg P GE A ops (Q .normal) ops.toList st.boxes.length {st with boxes:=st.boxes++gg P ops.toList}):aR P GE m (.region id ops false) Q st:=by
 intro ro E bs0 a w hE hb hR
 obtain⟨rfl,_,_,_⟩:=hE
 refine lj (xQ (Q:=fun e a' w'=>e=.normal/\JI P E bs0 a.defers Q .normal a' w') hd (by rintro⟨_,_,h,_⟩;cases h) ?_) fun e a' w' hq=>by obtain⟨rfl,hq⟩:=hq;exact hq
 exact B5 hR hR.len (fun a' w' st' hd hR' hK=>⟨rfl,hd,st',hR',hK⟩) h
def LQ{σ X:Type}(S:σ->aA)(ex:X->Exit)(so:X->aA):σ⊕X->Exit->aA->Prop
 |.inl s,e,st=>e=.normal/\st=S s
 |.inr x,e,st=>e≠.normal/\e=ex x/\st=so x
theorem aR.loop{σ X:Type}{S:σ->aA}{ex:X->Exit}{so:X->aA}{body:σ->Option (σ⊕X)}{c:Code}{s:σ}{x:X}(h:loop body s=some x)
  (hb:∀s y,body s=some y->aR P GE m c (LQ S ex so y) (S s)):aR P GE m (.loop c) (EX (ex x) (so x)) (S s):=by
 obtain⟨n,hn⟩:=AS.1 h
 intro ro E bs0 a w hE hb0 hR
 refine zK (fun k a' w'=>a'.defers=a.defers/\∃s',KM P E bs0 (S s') a' w'/\tb body k s'=some x) n ⟨rfl,s,hR,hn⟩ ?_
 intro k a1 w1 hI
 obtain⟨hd1,s1,hR1,hl⟩:=hI
 cases k with
 |zero=>cases hl
 | succ k =>
  unfold tb at hl
  split at hl
  ·cases hl
  ·rename_i s2 hs2
   refine lj (hb s1 _ hs2 ro E bs0 a1 w1 hE hb0 hR1) fun e a' w' hq=>?_
   obtain⟨hd,st',hR',rfl,rfl⟩:=hq
   exact⟨k,vcn k,hd.trans hd1,s2,hR',hl⟩
  ·rename_i x2 hs2
   cases hl
   refine lj (hb s1 _ hs2 ro E bs0 a1 w1 hE hb0 hR1) fun e a' w' hq=>?_
   obtain⟨hd,st',hR',hne,rfl,rfl⟩:=hq
   have hd':=hd.trans hd1
   cases hex:ex x with
   |normal=>exact absurd hex hne
   |exit id=>exact⟨hd',_,hR',rfl,rfl⟩
   |goto l=>exact⟨hd',_,hR',rfl,rfl⟩
   |ret=>exact⟨hd',_,hR',rfl,rfl⟩
   |panic c=>exact⟨hd',_,hR',rfl,rfl⟩
   |outgrown=>exact⟨hd',_,hR',rfl,rfl⟩
def J3:List PVal->List PVal->List PVal
 |[],_=>[]
 |_::ps,[]=>.undef::J3 ps []
 |_::ps,.undef::qs=>.undef::J3 ps qs
 |p::ps,_::qs=>p::J3 ps qs
def zM:aB->aB->aB
 |_,.dead=>.dead
 |.cells cs own,.cells _ own'=>.cells cs (match own'.all fun x=>decide (x∈own)with
  |true=>own'
  |false=>own)
 |p,_=>p
def LU:List aB->List aB->List aB
 |[],_=>[]
 |p::ps,[]=>p::LU ps []
 |p::ps,q::qs=>zM p q::LU ps qs
def XW(B B':aB):Prop:=B=.dead\/B=B'\/∃cs own own',B'=.cells cs own/\B=.cells cs own'/\∀x∈own',x∈own
theorem OH(p q:aB):XW (zM p q) p:=by
 unfold zM
 split
 ·exact .inl rfl
 ·split
  ·rename_i h
   exact .inr (.inr ⟨_,_,_,rfl,rfl,fun x hx=>by simpa using vau.1 h x hx⟩)
  ·exact .inr (.inl rfl)
 ·exact .inr (.inl rfl)
theorem Ml(p:PVal)(ps qs:List PVal):∃q r,J3 (p::ps) qs=q::J3 ps r/\(q=.undef\/q=p):=by
 cases qs with
 |nil=>exact⟨_,[],by simp[J3],.inl rfl⟩
 |cons q qs=>cases q<;>first|(refine⟨p,qs,?_,.inr rfl⟩;simp only[J3];done)|(refine⟨.undef,qs,?_,.inl rfl⟩;simp only[J3];done)
theorem La:∀{l bs:List PVal} {i:Nat} {p:PVal},(J3 l bs)[i]? =some p->p=.undef\/l[i]? =some p
 |[],bs,i,p,h=>by simp[J3]at h
 |q::l,bs,i,p,h=>by
  obtain⟨q',r,h1,h2⟩:=Ml q l bs
  rw[h1]at h
  cases i with
  |zero=>simp at h;subst h;rcases h2 with h2|h2<;>simp[h2]
  |succ i=>simpa using La (by simpa using h)
theorem Lb:∀{l bs:List PVal},(J3 l bs).length=l.length
 |[],bs=>by simp[J3]
 |q::l,bs=>by obtain⟨q',r,h1,h2⟩:=Ml q l bs;rw[h1];simp[Lb]
theorem Hb:∀{l bs:List aB} {i:Nat} {B:aB},(LU l bs)[i]? =some B->∃B',l[i]? =some B'/\XW B B'
 |[],bs,i,p,h=>by simp[LU]at h
 |q::l,[],i,B,h=>by
  simp only[LU]at h
  cases i with
  |zero=>simp at h;subst h;exact⟨q,rfl,.inr (.inl rfl)⟩
  |succ i=>simpa using Hb (by simpa using h)
 |q::l,r::bs,i,B,h=>by
  simp only[LU]at h
  cases i with
  |zero=>simp at h;subst h;exact⟨q,rfl,OH q r⟩
  |succ i=>simpa using Hb (by simpa using h)
theorem K9:∀{l bs:List aB},(LU l bs).length=l.length
 |[],bs=>by simp[LU]
 |q::l,[]=>by simp only[LU,vay,K9]
 |q::l,r::bs=>by simp only[LU,vay,K9]
theorem yN.forget{st:aA}(bt:List PVal)(bb:List aB)(own:List ((Nat×Nat)×TypeId))(ho:∀x∈own,x∈st.own):yN P m st ⟨J3 st.tmps bt,LU st.boxes bb,own⟩:=by
 intro E bs0 a w hb hR
 obtain⟨Γ,bs,ow,h,hk⟩:=hR
 refine⟨Γ,bs,ow,?_,hk⟩
 exact{h with
  sz:=by rw[h.sz];exact Lb.symm
  tm:=fun t p v hp hv=>by
   rcases La hp with rfl|hp'
   ·exact .undef v
   ·exact h.tm t p v hp' hv
  bl:=by rw[h.bl];exact K9.symm
  bx:=fun i b B hib hB=>by
   obtain⟨B',hB',hx⟩:=Hb hB
   obtain⟨k1,k2,k3⟩:=h.bx i b B' hib hB'
   rcases hx with rfl|rfl|⟨cs,own,own',rfl,rfl,_⟩
   ·exact⟨k1,k2,trivial⟩
   ·exact⟨k1,k2,k3⟩
   ·exact⟨k1,k2,k3⟩
  ot:=fun t k e he=>h.ot t k e (ho _ he)
  ob:=fun i j e cs own' b hB hj hib=>by
   obtain⟨B',hB',hx⟩:=Hb hB
   rcases hx with hx|rfl|⟨cs1,qW,own2,rfl,e2,hs⟩
   ·cases hx
   ·exact h.ob i j e cs own' b hB' hj hib
   ·cases e2;exact h.ob i j e _ qW b hB' (hs _ hj) hib}
theorem EX.of{c:Code}{e:Exit}{st st0:aA}{Q:Exit->aA->Prop}(h:aR P GE m c (EX e st0) st)(hq:Q e st0):aR P GE m c Q st:=
 h.imp fun e' st' hx=>by obtain⟨rfl,rfl⟩:=hx;exact hq
end
structure GC where
 ρ:List Nat
 argsC:List PVal
 oa:List OA
 Bs:List aB
 Hc:List aB
 Bs':List aB
 Hc':List aB
 r:PVal
 rc:PVal
 ro:List (Nat×TypeId)
inductive It where
 |cg (c:GC)
 |cn (c:GC)
 |ar (i:Nat) (e:TypeId) (n:Nat) (cs:List PVal)
 |fz (i:Nat) (es:List (List PVal)) (lv rk:List Nat)
 |g (j:Nat) (b:Bool)
 |k
 |s
 |v (p:PVal)
 |x (cs:List PVal)
 |w (i:Nat) (B:aB)
 |c (r:PVal) (ro:List (Nat×TypeId))
 |dr (an:List Nat)
 |dx (an:List Nat) (X:List aB) (br:List (Nat×Nat)) (rw:List Nat)
 |pa (n:Nat)
 |pc (st0:aA) (e:Exit) (st1:aA)
 |b (p:PVal) (L:List (Nat×TypeId))
 |y (vs:List PVal)
 |z (l:List PVal)
 |e (vs:List PVal)
def wB:List PVal->Nat->(PVal->Prop)->Prop
 |[],_,k=>k .undef
 |p::_,0,k=>k p
 |_::l,n+1,k=>wB l n k
theorem jK:∀(l:List PVal) (n:Nat) (k:PVal->Prop),wB l n k=k (l.getD n .undef)
 |[],_,_=>by simp[wB]
 |_::_,0,_=>by simp[wB]
 |_::l,n+1,k=>by simp only[wB,jK l n k,List.getD_cons_succ]
def gS{α:Type}:List α->Nat->α->(List α->Prop)->Prop
 |[],_,_,k=>k []
 |_::l,0,v,k=>k (v::l)
 |x::l,n+1,v,k=>gS l n v fun l'=>k (x::l')
theorem bI{α:Type}:∀(l:List α) (n:Nat) (v:α) (k:List α->Prop),gS l n v k=k (l.set n v)
 |[],_,_,_=>by simp[gS]
 |_::_,0,_,_=>by simp[gS]
 |x::l,n+1,v,k=>by simp only[gS,bI l n v,List.set_cons_succ]
def bF{α:Type}:List α->(List α->Prop)->Prop
 |[],k=>k []
 |x::l,k=>bF l fun l'=>k (x::l')
def GI(l:List aB)(r:List aB)(k:List aB->Prop):Prop:=bF (l++r) k
theorem aO{α:Type}:∀(l:List α) (k:List α->Prop),bF l k=k l
 |[],_=>rfl
 |x::l,k=>by simp only[bF,aO l]
def Up:Value->(PVal->Prop)->Prop
 |.int a n,k=>k (.int a n)
 |.bool b,k=>k (.bool b)
 |.string s,k=>bF s.data.toList fun l=>k (.str l)
 |v,k=>k (absV v)
theorem SV(v:Value)(k:PVal->Prop):Up v k=k (absV v):=by
 unfold Up
 split
 ·rfl
 ·rfl
 ·rw[aO];rfl
 ·rfl
def pf(GE:List (Nat×List PVal))(tmps:List PVal)(x:Operand)(k:PVal->Prop):Prop:=
 match x with
 |.tmp t=>wB tmps t k
 |.const v=>Up v k
 |x=>k (opv GE tmps x)
theorem bZ(GE:List (Nat×List PVal))(tmps:List PVal)(x:Operand)(k:PVal->Prop):pf GE tmps x k=k (opv GE tmps x):=by
 cases x with
 |tmp t=>exact jK _ _ _
 |const v=>exact SV _ _
 |global g=>rfl
 |func f=>rfl
def Ip(GE:List (Nat×List PVal))(tmps:List PVal):List Operand->(List PVal->Prop)->Prop
 |[],k=>k []
 |x::l,k=>pf GE tmps x fun p=>Ip GE tmps l fun ps=>k (p::ps)
theorem oE(GE:List (Nat×List PVal))(tmps:List PVal):∀(l:List Operand) (k:List PVal->Prop),Ip GE tmps l k=k (l.map (opv GE tmps))
 |[],_=>rfl
 |x::l,k=>by simp only[Ip,bZ,oE GE tmps l,var]
def wE(GE:List (Nat×List PVal))(tmps:List PVal):List (Nat×Operand)->(List (Nat×PVal)->Prop)->Prop
 |[],k=>k []
 |x::l,k=>pf GE tmps x.2 fun p=>wE GE tmps l fun ps=>k ((x.1,p)::ps)
theorem pg(GE:List (Nat×List PVal))(tmps:List PVal):∀(l:List (Nat×Operand)) (k:List (Nat×PVal)->Prop),wE GE tmps l k=k (l.map fun x=>(x.1,opv GE tmps x.2))
 |[],_=>rfl
 |x::l,k=>by simp only[wE,bZ,pg GE tmps l,var]
def TB(GE:List (Nat×List PVal))(tmps:List PVal):Option Operand->(Option PVal->Prop)->Prop
 |none,k=>k none
 |some x,k=>pf GE tmps x fun p=>k (some p)
theorem TC(GE:List (Nat×List PVal))(tmps:List PVal)(o:Option Operand)(k:Option PVal->Prop):TB GE tmps o k=k (o.map (opv GE tmps)):=by
 cases o with
 |none=>rfl
 |some x=>simp only[TB,bZ,vah]
def C3(sc:List It)(f:PVal->Prop)(K:PVal->List It->Prop):Prop:=
 match sc with
 |.v p::sc'=>f p/\K p sc'
 |_=>False
def Js(o:Option PVal)(K:PVal->Prop):Prop:=
 match o with
 |some p=>K p
 |none=>False
theorem vO{o:Option PVal}{K:PVal->Prop}(h:Js o K):∃p,o=some p/\K p:=by
 unfold Js at h
 split at h
 ·exact⟨_,rfl,h⟩
 ·exact h.elim
theorem nq{sc:List It}{f:PVal->Prop}{K:PVal->List It->Prop}(h:C3 sc f K):∃p sc',f p/\K p sc':=by
 unfold C3 at h
 split at h
 ·exact⟨_,_,h⟩
 ·exact h.elim
def CC(P:Program)(GE:List (Nat×List PVal))(g:FuncId)(args:List PVal)(r:PVal)(ro:List (Nat×TypeId)):Prop:=li 0 args/\C P GE g args [] [] r ro []
def Iw(P:Program)(t:TypeId)(es:List (PVal×PVal))(k:PVal)(ok:Bool):Option PVal:=
 match P.underlying t with
 | some (.map kt e) => match P.underlying kt with
  | some kd =>
   if oA kd k then
    match z8 k es 0,Fi P e with
    |some (some (_,v)),_=>some (if ok then .tuple [v,.bool true]else v)
    |some none,some z=>some (if ok then .tuple [z,.bool false]else z)
    |_,_=>none
   else none
  |_=>none
 |_=>none
theorem P6{P:Program}{t:TypeId}{es:List (PVal×PVal)}{k p:PVal}{ok:Bool}{H:List aB}{i:Nat}(hB:H[i]? =some (.map es))(h:Iw P t es k ok=some p):vW P t (.mapr i) k ok H=some p:=by
 unfold Iw at h
 unfold vW
 split at h
 ·rename_i kt e hu
  split at h
  ·rename_i kd hk
   simp only[hu,hB,hk]
   exact h
  ·cases h
 ·cases h
def Kt(P:Program)(t:TypeId)(es:List (PVal×PVal))(k v:PVal):Option (List (PVal×PVal)):=
 match P.underlying t with
 | some (.map kt _) => match P.underlying kt with
  | some kd =>
   if oA kd k then
    match z8 k es 0 with
    |some (some (j,_))=>some (es.set j (k,v))
    |some none=>some (es++[(k,v)])
    |none=>none
   else none
  |_=>none
 |_=>none
theorem MX{P:Program}{t:TypeId}{es es':List (PVal×PVal)}{k v:PVal}{H:List aB}{i:Nat}(hB:H[i]? =some (.map es))(h:Kt P t es k v=some es'):ja P t (.mapr i) k v H=some (H.set i (.map es')):=by
 unfold Kt at h
 unfold ja
 split at h
 ·rename_i kt e hu
  split at h
  ·rename_i kd hk
   simp only[hu,hB,hk]
   split at h
   ·rename_i hkk
    rw[vaq hkk]
    split at h
    ·rename_i hf;cases h;simp[hf]
    ·rename_i hf;cases h;simp[hf]
    ·cases h
   ·cases h
  ·cases h
 ·cases h
def mh:List aB->Nat->(aB->Prop)->Prop
 |[],_,_=>False
 |B::_,0,k=>k B
 |_::l,n+1,k=>mh l n k
theorem eD:∀{l:List aB} {n:Nat} {k:aB->Prop},mh l n k->∃B,l[n]? =some B/\k B
 |[],_,_,h=>h.elim
 |B::_,0,_,h=>⟨B,rfl,h⟩
 |_::l,n+1,k,h=>by simp only[mh]at h;obtain⟨B,h1,h2⟩:=eD h;exact⟨B,by simpa using h1,h2⟩
def PN(op:BinOp)(x:PVal):Bool:=match op,x with
 |.quo,_=>true
 |.rem,_=>true
 |.add,.str _=>true
 |_,.agg _=>true
 |_,_=>false
def OG(P:Program)(GE:List (Nat×List PVal))(op:Op)(tmps:List PVal)(H:List aB)(sc:List It)(K:PVal->List aB->List It->Prop):Prop:=
 match op with
 |.move x=>pf GE tmps x fun p=>K p H sc
 |.assign x=>pf GE tmps x fun p=>K p H sc
 |.pick c x y=>pf GE tmps c fun pc=>match pc with
  |.bool true=>pf GE tmps x fun p=>K p H sc
  |.bool false=>pf GE tmps y fun p=>K p H sc
  |_=>False
 |.binOp op T x y _=>pf GE tmps x fun vx=>pf GE tmps y fun vy=>match PN op vx with
  |true=>C3 sc (fun p=>Lx P op T vx vy=some p) fun p sc'=>K p H sc'
  |false=>Js (Lx P op T vx vy) fun p=>K p H sc
 |.unOp op _ x=>pf GE tmps x fun vx=>Js (WO op vx) fun p=>K p H sc
 |.convert s d x=>pf GE tmps x fun vx=>C3 sc (fun p=>O1 P s d vx=some p) fun p sc'=>K p H sc'
 |.extract t i=>pf GE tmps t fun vt=>Js (uJ vt i) fun p=>K p H sc
 |.nilCheck x=>pf GE tmps x fun vx=>match vx with
  |.eptr cs=>K (.eptr cs) H sc
  |.bptr i off=>K (.bptr i off) H sc
  |.func (.func f) first cap=>K (.func (.func f) first cap) H sc
  |_=>False
 |.makeFunc fn first cap=>Ip GE tmps first.toList fun f=>Ip GE tmps cap.toList fun c=>K (.func fn f c) H sc
 | .load t x => pf GE tmps x fun vx => match vx with
  |.eptr cs=>C3 sc (fun p=>bK P t cs=some p) fun p sc'=>K p H sc'
  | .bptr i off => mh H i fun B => match B with
   |.cells cs _=>match sc with
    |.s::sc'=>Js (bK P t (cs.drop off)) fun p=>K p H sc'
    |.v p::sc'=>bK P t (cs.drop off)=some p/\K p H sc'
    |_=>False
   |_=>False
  |_=>False
 | .store t x y => pf GE tmps x fun vx => pf GE tmps y fun vy => match vx,sc with
  | .bptr i off,.s :: sc' => match cN vy with
   | some vs => mh H i fun B => match B with
    |.cells cs own=>match decide (vs.length=P.cellsOf t)&&(P.info? t).isSome&&decide (off+vs.length<=cs.length)&&vs.all PVal.one with
     |true=>bF (cs.take off++vs++cs.drop (off+vs.length)) fun cs'=>gS H i (.cells cs' (own.filter fun y=>y.1<off||off+vs.length<=y.1)) fun H'=>K (.val undef) H' sc'
     |false=>False
    |_=>False
   |none=>False
  | .bptr i off,.x vs :: sc' => cN vy = some vs∧(mh H i fun B => match B with
    |.cells cs own=>match decide (vs.length=P.cellsOf t)&&(P.info? t).isSome&&decide (off+vs.length<=cs.length)&&vs.all PVal.one with
     |true=>bF (cs.take off++vs++cs.drop (off+vs.length)) fun cs'=>gS H i (.cells cs' (own.filter fun y=>y.1<off||off+vs.length<=y.1)) fun H'=>K (.val undef) H' sc'
     |false=>False
    |_=>False)
  |.bptr i off,.w _ (.cells cs' own')::sc'=>mh H i fun B=>(fl P t (.bptr 0 off) vy [B]=some [.cells cs' own'])/\gS H i (.cells cs' own') fun H'=>K (.val undef) H' sc'
  |_,_=>False
 |.fieldAddr s x f=>pf GE tmps x fun vx=>match vx with
  |.bptr i off=>Js (bh P s (.bptr i off) f) fun p=>K p H sc
  |vx=>C3 sc (fun p=>bh P s vx f=some p) fun p sc'=>K p H sc'
 |.field t x f=>pf GE tmps x fun vx=>C3 sc (fun p=>LD P t vx f=some p) fun p sc'=>K p H sc'
 |.indexAddr t x i=>pf GE tmps x fun vx=>pf GE tmps i fun vi=>C3 sc (fun p=>qZ P t vx vi=some p) fun p sc'=>K p H sc'
 |.index t x i=>pf GE tmps x fun vx=>pf GE tmps i fun vi=>C3 sc (fun p=>yd P t vx vi=some p) fun p sc'=>K p H sc'
 | .lookup t m k ok => pf GE tmps m fun vm => pf GE tmps k fun vk => match vm with
  |.mapr i=>mh H i fun B=>match B with
   |.map es=>C3 sc (fun p=>Iw P t es vk ok=some p) fun p sc'=>K p H sc'
   |_=>False
  |_=>False
 | .mapUpdate t m k x => pf GE tmps m fun vm => pf GE tmps k fun vk => pf GE tmps x fun vx => match vm,sc with
  |.mapr i,.w _ (.map es')::sc'=>mh H i fun B=>match B with
   |.map es=>Kt P t es vk vx=some es'/\gS H i (.map es') fun H'=>K (.val undef) H' sc'
   |_=>False
  |_,_=>False
 |.slice t x lo hi none=>pf GE tmps x fun vx=>TB GE tmps lo fun vl=>TB GE tmps hi fun vh=>C3 sc (fun p=>Fg P t vx vl vh none=some p) fun p sc'=>K p H sc'
 |.build t parts=>wE GE tmps parts.toList fun ps=>C3 sc (fun p=>dX P t ps=some p) fun p sc'=>K p H sc'
 |.buildSlice t len parts=>wE GE tmps parts.toList fun ps=>C3 sc (fun p=>gQ P t len ps=some p) fun p sc'=>K p H sc'
 | .call { callee := .builtin .len,args:=⟨[x]⟩,argTypes:=⟨[t]⟩ } => pf GE tmps x fun vx => match vx with
  |.mapr i=>mh H i fun B=>match B with
   |.map es=>C3 sc (fun p=>p=.int .i64 es.length/\(P.underlying t).any (fun d=>match d with|.map _ _=>true|_=>false)=true) fun p sc'=>K p H sc'
   |_=>False
  |vx=>C3 sc (fun p=>∀H,CG P t vx H=some p) fun p sc'=>K p H sc'
 |.call {callee:=.builtin .max,args:=⟨x::r⟩,..}=>pf GE tmps x fun vx=>Ip GE tmps r fun vr=>Js (F9 O3 vx vr) fun p=>K p H sc
 |.call {callee:=.builtin .min,args:=⟨x::r⟩,..}=>pf GE tmps x fun vx=>Ip GE tmps r fun vr=>Js (F9 O4 vx vr) fun p=>K p H sc
 |_=>False
section
variable{P:Program}{GE:List (Nat×List PVal)}
theorem Qc{t:TypeId}{off i:Nat}{y:PVal}{H:List aB}{B:aB}{cs':List PVal}{own':List (Nat×TypeId)}(hB:H[i]? =some B)(h:fl P t (.bptr 0 off) y [B]=some [.cells cs' own']):fl P t (.bptr i off) y H=some (H.set i (.cells cs' own')):=by
 unfold fl at h ⊢
 split at h
 ·rename_i i' off' vs h1 h2
  cases h1
  simp only[h2]
  change (match(some B:Option aB)with|some (.cells cs own)=>_|_=>none)=_ at h
  rw[hB]
  split at h
  ·rename_i hb
   cases hb
   simp only
   split at h
   ·rename_i hc
    rw[vaq hc]
    simp only[List.set_cons_zero,vav,vbA,vck]at h
    rw[h]
   ·cases h
  ·cases h
 ·cases h
theorem Sn(t:TypeId)(id:Nat)(v:Operand->PVal)(x:Operand)(H:List aB):rJ P (.load t x) id v H=(mj P t (v x) H).map fun p=>(p,H):=rfl
theorem FU{op:Op}{id:Nat}{tmps:List PVal}{H:List aB}{sc:List It}{K:PVal->List aB->List It->Prop}(h:OG P GE op tmps H sc K):∃p H' sc',rJ P op id (opv GE tmps) H=some (p,H')/\K p H' sc'/\H'.length=H.length:=by
 unfold OG at h
 split at h
 case h_1=>rw[bZ]at h;exact⟨_,_,_,rfl,h,rfl⟩
 case h_2=>rw[bZ]at h;exact⟨_,_,_,rfl,h,rfl⟩
 case h_3 c x y=>
  rw[bZ]at h
  split at h
  ·rename_i hc;rw[bZ]at h;exact⟨_,_,_,by simp only[rJ,hc],h,rfl⟩
  ·rename_i hc;rw[bZ]at h;exact⟨_,_,_,by simp only[rJ,hc],h,rfl⟩
  ·exact h.elim
 case h_4=>
  simp only[bZ]at h
  split at h
  ·obtain⟨p,sc',h1,h2⟩:=nq h;exact⟨p,_,sc',by simp only[rJ,h1,vah],h2,rfl⟩
  ·obtain⟨p,h1,h2⟩:=vO h;exact⟨p,_,_,by simp only[rJ,h1,vah],h2,rfl⟩
 case h_5=>simp only[bZ]at h;obtain⟨p,h1,h2⟩:=vO h;exact⟨p,_,_,by simp only[rJ,h1,vah],h2,rfl⟩
 case h_6=>simp only[bZ]at h;obtain⟨p,sc',h1,h2⟩:=nq h;exact⟨p,_,sc',by simp only[rJ,h1,vah],h2,rfl⟩
 case h_7=>simp only[bZ]at h;obtain⟨p,h1,h2⟩:=vO h;exact⟨p,_,_,by simp only[rJ,h1,vah],h2,rfl⟩
 case h_8=>
  simp only[bZ]at h
  split at h
  ·rename_i hv;exact⟨_,_,_,by simp only[rJ,hv],h,rfl⟩
  ·rename_i hv;exact⟨_,_,_,by simp only[rJ,hv],h,rfl⟩
  ·rename_i hv;exact⟨_,_,_,by simp only[rJ,hv],h,rfl⟩
  ·exact h.elim
 case h_9=>simp only[oE]at h;exact⟨_,_,_,rfl,h,rfl⟩
 case h_10 t x=>
  simp only[bZ]at h
  rw[Sn]
  split at h
  ·rename_i cs hv
   obtain⟨p,sc',h1,h2⟩:=nq h
   exact⟨p,_,sc',by simp only[hv,mj,h1,vah],h2,rfl⟩
  ·rename_i i off hv
   obtain⟨B,hB,h⟩:=eD h
   split at h
   ·rename_i cs own
    split at h
    ·obtain⟨p,h1,h2⟩:=vO h
     exact⟨p,_,_,by simp only[hv,mj,hB,h1,vah],h2,rfl⟩
    ·exact⟨_,_,_,by simp only[hv,mj,hB,h.1,vah],h.2,rfl⟩
    ·exact h.elim
   ·exact h.elim
  ·exact h.elim
 case h_11 t x y=>
  simp only[bZ]at h
  split at h
  ·rename_i i off sc' hv
   split at h
   ·rename_i vs hvs
    obtain⟨B,hB,h⟩:=eD h
    split at h
    ·rename_i cs own
     split at h
     ·rename_i hc
      simp only[aO,bI]at h
      simp only[vae,vak]at hc
      exact⟨_,_,_,by simp only[rJ,fl,hv,hvs,hB];rw[vaq ⟨hc.1.1.1,hc.1.1.2,hc.1.2,hc.2⟩];rfl,h,by simp⟩
     ·exact h.elim
    ·exact h.elim
   ·exact h.elim
  ·rename_i i off vs sc' hv
   obtain⟨hvs,h⟩:=h
   obtain⟨B,hB,h⟩:=eD h
   split at h
   ·rename_i cs own
    split at h
    ·rename_i hc
     simp only[aO,bI]at h
     simp only[vae,vak]at hc
     exact⟨_,_,_,by simp only[rJ,fl,hv,hvs,hB];rw[vaq ⟨hc.1.1.1,hc.1.1.2,hc.1.2,hc.2⟩];rfl,h,by simp⟩
    ·exact h.elim
   ·exact h.elim
  ·rename_i i off j cs' own' sc' hv
   obtain⟨B,hB,h1,h2⟩:=eD h
   rw[bI]at h2
   exact⟨_,_,_,by simp only[rJ,hv,Qc hB h1];rfl,h2,by simp⟩
  ·exact h.elim
 case h_12=>
  simp only[bZ]at h
  split at h
  ·rename_i hv
   obtain⟨p,h1,h2⟩:=vO h;exact⟨p,_,_,by simp only[rJ,hv,h1,vah],h2,rfl⟩
  ·obtain⟨p,sc',h1,h2⟩:=nq h;exact⟨p,_,sc',by simp only[rJ,h1,vah],h2,rfl⟩
 case h_13=>simp only[bZ]at h;obtain⟨p,sc',h1,h2⟩:=nq h;exact⟨p,_,sc',by simp only[rJ,h1,vah],h2,rfl⟩
 case h_14=>simp only[bZ]at h;obtain⟨p,sc',h1,h2⟩:=nq h;exact⟨p,_,sc',by simp only[rJ,h1,vah],h2,rfl⟩
 case h_15=>simp only[bZ]at h;obtain⟨p,sc',h1,h2⟩:=nq h;exact⟨p,_,sc',by simp only[rJ,h1,vah],h2,rfl⟩
 case h_16 t m k ok=>
  simp only[bZ]at h
  split at h
  ·rename_i i hv
   obtain⟨B,hB,h⟩:=eD h
   split at h
   ·rename_i es
    obtain⟨p,sc',h1,h2⟩:=nq h
    exact⟨p,_,sc',by simp only[rJ,hv,P6 hB h1,vah],h2,rfl⟩
   ·exact h.elim
  ·exact h.elim
 case h_17 t m k x=>
  simp only[bZ]at h
  split at h
  ·rename_i i j es' sc' hv
   obtain⟨B,hB,h⟩:=eD h
   split at h
   ·rename_i es
    obtain⟨h1,h2⟩:=h
    rw[bI]at h2
    exact⟨_,_,_,by simp only[rJ,hv,MX hB h1];rfl,h2,by simp⟩
   ·exact h.elim
  ·exact h.elim
 case h_18=>simp only[bZ,TC]at h;obtain⟨p,sc',h1,h2⟩:=nq h;exact⟨p,_,sc',by simp only[rJ,h1,vah],h2,rfl⟩
 case h_19=>simp only[pg]at h;obtain⟨p,sc',h1,h2⟩:=nq h;exact⟨p,_,sc',by simp only[rJ,h1,vah],h2,rfl⟩
 case h_20=>simp only[pg]at h;obtain⟨p,sc',h1,h2⟩:=nq h;exact⟨p,_,sc',by simp only[rJ,h1,vah],h2,rfl⟩
 case h_21 x t=>
  simp only[bZ]at h
  split at h
  ·rename_i i hv
   obtain⟨B,hB,h⟩:=eD h
   split at h
   ·rename_i es
    obtain⟨p,sc',⟨rfl,h1⟩,h2⟩:=nq h
    refine⟨_,_,sc',?_,h2,rfl⟩
    simp only[rJ,hv,CG]
    cases hu:P.underlying t with
    |none=>rw[hu]at h1;cases h1
    |some d=>
     rw[hu]at h1
     cases d<;>simp at h1
     simp only[hB,vah]
   ·exact h.elim
  ·obtain⟨p,sc',h1,h2⟩:=nq h;exact⟨p,_,sc',by simp only[rJ,h1 H,vah],h2,rfl⟩
 case h_22=>simp only[bZ,oE]at h;obtain⟨p,h1,h2⟩:=vO h;exact⟨p,_,_,by simp only[rJ,h1,vah],h2,rfl⟩
 case h_23=>simp only[bZ,oE]at h;obtain⟨p,h1,h2⟩:=vO h;exact⟨p,_,_,by simp only[rJ,h1,vah],h2,rfl⟩
 case h_24=>exact h.elim
end
end Go.Proofs.YtkdahfeiedaahaaGreatDoor
