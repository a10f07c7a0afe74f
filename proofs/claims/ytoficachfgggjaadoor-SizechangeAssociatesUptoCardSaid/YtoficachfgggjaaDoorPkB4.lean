/- PROVED: a part of the proof. Conditions: none. -/
import Derived.Test.YtoficachfgggjaaDoorPkB2
import Derived.Test.YtoficachfgggjaaDoorPkB3
import Derived.WalkKit
import Derived.RangeFuncNested
import Derived.RangeFuncCalls
import Derived.Sort.LoopGhostIn
import Derived.OrdersIn
noncomputable section
namespace Go.Proofs.YtoficachfgggjaaDoor
open Go
structure OA where
 i:Nat
 t:Nat
 k:Nat
 e:TypeId
def bW(ρ:List Nat)(oa:List OA)(Γ:au)(ow:Nat->Option fN):Nat->Option fN:=fun b=>
 match ow b with
 |some (.box j k)=>if(Γ b).isSome/\j∈ρ then some (.box (ρ.idxOf j) k)else none
 |some (.tmp t k)=>match oa.find? fun y=>y.t==t&&y.k==k with
  |some x=>if(Γ b).isSome then some (.tmp x.i k)else none
  |none=>none
 |_=>none
def iD(ρ:List Nat)(oa:List OA)(d:Nat)(owC ow:Nat->Option fN):Nat->Option fN:=fun b=>
 match owC b with
 |some (.box i k)=>some (.box (ρ.getD i 0) k)
 |some (.tmp _ k)=>some (.tmp d k)
 |none=>match ow b with
  |some (.box j k)=>if j∈ρ then none else some (.box j k)
  |some (.tmp t k)=>if(oa.any fun x=>x.t==t&&x.k==k)=true then none else some (.tmp t k)
  |none=>none
section
variable{P:Program}{E:jk}{Γ:au}{bs:ax}{ow:Nat->Option fN}{w:World}{a:Array Value}{st:aj}{ρ:List Nat}
theorem xE(h:SR P E Γ bs ow w a st){g:FuncId}{args argsC:List PVal}{r rc:PVal}{ro:List (Nat×TypeId)}{Hc Hc' H':List ag}{vs:Array Value}{d:Nat}{oa:List OA}(hd:d<a.size)
  (hn:ρ.Nodup) (hC:C P E.GE g argsC (oa.map fun x=>((x.i,x.k),x.e)) Hc rc ro Hc') (ho1:∀x∈oa,(vs[x.i]? =some (.slice none 0 0)/\x.k=0)\/(((x.t,x.k),x.e)∈st.own/\vs[x.i]? =a[x.t]?)) (ho3:∀x∈oa,∀y∈oa,x.t=y.t->x.k=y.k->x.i=y.i) (hH:lH ρ st.boxes Hc) (hH':lH ρ H' Hc') (hlen:H'.length=st.boxes.length) (hsame:∀j:Nat,j∉ρ->H'[j]? =st.boxes[j]?)
  (hr:nB ρ r rc) (hal:args.length=argsC.length) (ha:∀(i:Nat) p q,args[i]? =some p->argsC[i]? =some q->nB ρ p q)
  (hl:vs.size=args.length) (hv:∀(i:Nat) p v,args[i]? =some p->vs[i]? =some v->VR Γ bs w p v):
  Calls P g vs w fun e w'=>∃v Γ' ow',e=.returned v/\SR P E Γ' bs ow' w' (a.setIfInBounds d v) {st with tmps:=st.tmps.set d r,boxes:=H',own:=(ro.map fun x=>((d,x.1),x.2))++aB d (st.own.filter fun z=>!oa.any fun x=>z.1==(x.t,x.k))}/\Γ.Le w Γ' w':=by
 let bsC:ax:=ρ.map fun j=>(bs[j]?).getD none
 have hjlt:∀{i j:Nat},ρ[i]? =some j->j<st.boxes.length:=fun{i j} hij=>by
  obtain⟨B,_,hB,_⟩:=hH.box i j hij;exact aa hB
 have hbb:∀(i j:Nat),ρ[i]? =some j->bsC[i]? =bs[j]?:=by
  intro i j hij
  have hj:j<bs.length:=by rw[h.bl];exact hjlt hij
  simp[bsC,hij,vaa hj]
 have hbc:∀{i b:Nat},bsC[i]? =some (some b)->∃j,ρ[i]? =some j/\bs[j]? =some (some b):=by
  intro i b hib
  have hi:i<ρ.length:=by have:=aa hib;simpa[bsC]using this
  have hij:ρ[i]? =some ρ[i]:=vaa hi
  exact⟨_,hij,(hbb i _ hij).symm.trans hib⟩
 have hcow:∀{b L},bW ρ oa Γ ow b=some L->(Γ b).isSome/\((∃j k,ow b=some (.box j k)/\j∈ρ/\L=.box (ρ.idxOf j) k)\/(∃x∈oa,ow b=some (.tmp x.t x.k)/\L=.tmp x.i x.k)):=by
  intro b L hL
  unfold bW at hL
  split at hL
  ·rename_i j k hb
   split at hL
   ·rename_i hc;cases hL;exact⟨hc.1,.inl ⟨j,k,hb,hc.2,rfl⟩⟩
   ·cases hL
  ·rename_i t k hb
   split at hL
   ·rename_i x hx
    split at hL
    ·rename_i hc
     cases hL
     have h1:=vbc hx
     have h2:=vbE hx
     simp only[vac,vaG]at h2
     exact⟨hc,.inr ⟨x,h1,by rw[hb,h2.1,h2.2],by rw[h2.2]⟩⟩
    ·cases hL
   ·cases hL
  ·cases hL
 have hpre:SR P ⟨E.GE,Γ,w,aV bsC (bW ρ oa Γ ow)⟩ Γ bsC (bW ρ oa Γ ow) w vs ⟨argsC,Hc,oa.map fun x=>((x.i,x.k),x.e)⟩:={
  wi:=h.wi
  sz:=by simpa[hal]using hl
  tm:=fun t q v hq hv'=>by
   have ht:=aa hq
   have hp:=vaa (l:=args) (i:=t) (by rw[hal];exact ht)
   exact(ha t _ q hp hq).to hbb (hv t _ v hp hv')
  bl:=by simp[bsC,hH.len]
  bx:=fun i b Bc hib hBc=>by
   obtain⟨j,hij,hjb⟩:=hbc hib
   obtain⟨B,Bc',hB,hBc',hx⟩:=hH.box i j hij
   rw[hBc]at hBc';cases hBc'
   obtain⟨k1,k2,k3⟩:=h.bx j b B hjb hB
   exact⟨k1,k2,hx.to hbb k3⟩
  inj:=fun i j b hi hj=>by
   obtain⟨x,hx,hxb⟩:=hbc hi
   obtain⟨y,hy,hyb⟩:=hbc hj
   have:=h.inj x y b hxb hyb
   subst this
   rw[<-iE hn hx,iE hn hy]
  bn:=fun i b hb=>.inl (.inl ⟨i,hb⟩)
  on:=fun b L hL=>by
   refine⟨?_,.inl (.inr (by rw[hL];simp))⟩
   rcases(hcow hL).2 with⟨j,k,hb,_⟩|⟨x,_,hb,_⟩<;>exact(h.on b _ hb).1
  ot:=fun t k e he=>by
   simp only[vap,Prod.mk.injEq]at he
   obtain⟨x,hx,⟨rfl,rfl⟩,rfl⟩:=he
   rcases ho1 x hx with⟨hn1,hn2⟩|⟨ht1,ht2⟩
   ·exact⟨_,.slice none 0 0,hn1,by rw[hn2];rfl,⟨0,[],World.ownsRow_nil _ _ _ _,fun b hb=>by simp[Value.ownBlock]at hb⟩,fun b hb=>by simp[Value.ownBlock]at hb⟩
   obtain⟨u,v',h1,h2,h3,h4⟩:=h.ot _ _ _ ht1
   refine⟨u,v',ht2.trans h1,h2,h3,fun b hb=>?_⟩
   have hg:(Γ b).isSome:=by obtain⟨n,xs,_,o2⟩:=h3;rw[o2 b hb];rfl
   unfold bW
   rw[h4 b hb]
   simp only
   cases hf:oa.find? fun y=>y.t==x.t&&y.k==x.k with
   |none=>
    have:=vcv.1 hf x hx
    simp at this
   |some y=>
    have q1:=vbc hf
    have q2:=vbE hf
    simp only[vac,vaG]at q2
    simp only[vav hg,ho3 y q1 x hx q2.1 q2.2]
  ob:=fun i k e cs own b hB hk hb=>by
   obtain⟨j,hij,hjb⟩:=hbc hb
   obtain⟨B,Bc',hB',hBc',hx⟩:=hH.box i j hij
   rw[hB]at hBc';cases hBc'
   cases B with
   |cells cs' own'=>
    obtain⟨rfl,_,_⟩:=hx
    obtain⟨v,k1,k2,k3⟩:=h.ob j k e cs' own' b hB' hk hjb
    refine⟨v,k1,k2,fun b' hb'=>?_⟩
    have hg:(Γ b').isSome:=by obtain⟨n,xs,_,o2⟩:=k2;rw[o2 b' hb'];rfl
    simp only[bW,k3 b' hb']
    rw[vav ⟨hg,var hij⟩,iE hn hij]
   |map es=>simp[ef]at hx
   |dead=>simp[ef]at hx
  gl:=fun g cs hg=>(h.gl g cs hg).restrict (n:=0) (by simp only[PVal.cl];exact h.gc g cs hg) (fun i b hi _=>absurd hi (vaP _))
  gc:=h.gc
  gx:=fun g cs hg=>by
   obtain⟨k1,k2,k3,k4⟩:=h.gnow hg
   refine⟨k1,fun hT=>?_,k4⟩
   rcases hT with⟨i,hi⟩|hT
   ·obtain⟨j,_,hjb⟩:=hbc hi
    exact k2 j g hjb rfl
   ·cases hL:bW ρ oa Γ ow g with
    |none=>exact hT hL
    |some L=>
     rcases(hcow hL).2 with⟨j,k,hk',_⟩|⟨x,_,hk',_⟩<;>(rw[k3]at hk';cases hk')
  step:=.refl _ _ _ _}
 refine(hC.2 Γ bsC _ w vs hpre).mono fun e w' he=>?_
 obtain⟨v,Γ',owC,rfl,hS⟩:=he
 have hle:Γ.Le w Γ' w':=hS.step.le
 have hTE:∀b,aV bsC (bW ρ oa Γ ow) b->E.T b\/E.w.heap.size<=b:=by
  intro b hb
  rcases hb with⟨i,hi⟩|hb
  ·obtain⟨j,_,hjb⟩:=hbc hi
   exact h.bn j b hjb
  ·cases hL:bW ρ oa Γ ow b with
   |none=>exact absurd hL hb
   |some L=>
    rcases(hcow hL).2 with⟨j,k,hk,_⟩|⟨x,_,hk,_⟩<;>exact(h.on b _ hk).2
 have hkeep:∀b,b<w.heap.size->¬aV bsC (bW ρ oa Γ ow) b->w'.heap[b]? =w.heap[b]?/\Γ' b=Γ b:=fun b hb hT=>hS.step.keep b hb hT
 have hnotT_own:∀{b L},ow b=some L->(Γ b).isSome->(∀j k,L=.box j k->j∉ρ)->(∀x∈oa,L≠.tmp x.t x.k)->¬aV bsC (bW ρ oa Γ ow) b:=by
  intro b L hL hg hne hne2 hT
  rcases hT with⟨i,hi⟩|hT
  ·obtain⟨j,hij,hjb⟩:=hbc hi
   obtain⟨B,_,hB,_⟩:=hH.box i j hij
   rw[(h.bx j b B hjb hB).1]at hg;cases hg
  ·cases hL':bW ρ oa Γ ow b with
   |none=>exact hT hL'
   | some L' =>
    rcases(hcow hL').2 with⟨j,k,hk,hj,_⟩|⟨x,hx,hk,_⟩
    ·rw[hL]at hk;cases hk
     exact hne j k rfl hj
    ·rw[hL]at hk;cases hk
     exact hne2 x hx rfl
 have hnotT_box:∀{j b:Nat},bs[j]? =some (some b)->j∉ρ->¬aV bsC (bW ρ oa Γ ow) b:=by
  intro j b hjb hj hT
  rcases hT with⟨i,hi⟩|hT
  ·obtain⟨j',hij,hjb'⟩:=hbc hi
   have:=h.inj _ _ _ hjb hjb'
   subst this
   exact hj (var hij)
  ·cases hL':bW ρ oa Γ ow b with
   |none=>exact hT hL'
   |some L'=>
    have hg:=(hcow hL').1
    have hjl:j<st.boxes.length:=by rw[<-h.bl];exact aa hjb
    rw[(h.bx j b _ hjb (vaa hjl)).1]at hg;cases hg
 have hold:∀{b L},ow b=some L->(Γ b).isSome->(∀j k,L=.box j k->j∉ρ)->(∀x∈oa,L≠.tmp x.t x.k)->iD ρ oa d owC ow b=some L:=by
  intro b L hL hg hne hne2
  have hT:=hnotT_own hL hg hne hne2
  have hnone:owC b=none:=by
   cases hx:owC b with
   |none=>rfl
   | some L' =>
    obtain⟨_,k2⟩:=hS.on b L' hx
    rcases k2 with k2|k2
    ·exact absurd k2 hT
    ·have:=(h.on b L hL).1
     exact absurd k2 (vcz.2 this)
  unfold iD
  rw[hnone]
  simp only[hL]
  cases L with
  |tmp t k=>
   simp only
   rw[vaw]
   intro hx
   obtain⟨x,hx1,hx2⟩:=vbA.1 hx
   simp only[vac,vaG]at hx2
   exact hne2 x hx1 (by rw[hx2.1,hx2.2])
  |box j k=>simp only;rw[vaw (hne j k rfl)]
 have howned:∀{v:Value} {e:TypeId} {b:Nat},dz P Γ w v e->v.ownBlock=some b->(Γ b).isSome:=by
  intro v e b ho hb
  obtain⟨n,xs,_,o2⟩:=ho
  rw[o2 b hb];rfl
 have hrv:VR Γ' bs w' r v:=hr.from hbb (hS.tm 0 rc v rfl rfl)
 refine⟨v,Γ',iD ρ oa d owC ow,rfl,?_,hle⟩
 exact{
  wi:=hS.wi
  sz:=by simp[h.sz]
  tm:=fun t q u hq hu=>by
   simp only[vbk]at hq
   rw[vbq]at hu
   by_cases hdt:d=t
   ·subst hdt
    simp only[if_true]at hq hu
    split at hu
    ·split at hq
     ·cases hu;cases hq;exact hrv
     ·cases hq
    ·rename_i hnd;exact absurd hd hnd
   ·simp only[hdt,if_false]at hq hu
    exact(h.tm t q u hq hu).mono hle (.refl _)
  bl:=by simp[h.bl,hlen]
  bx:=fun j b B hjb hB=>by
   by_cases hj:j∈ρ
   ·obtain⟨i,hij⟩:=va6.1 hj
    obtain⟨B',Bc,hB',hBc,hx⟩:=hH'.box i j hij
    rw[hB]at hB';cases hB'
    obtain⟨k1,k2,k3⟩:=hS.bx i b Bc ((hbb i j hij).trans hjb) hBc
    exact⟨k1,k2,hx.from hbb k3⟩
   ·have hB0:st.boxes[j]? =some B:=(hsame j hj).symm.trans hB
    obtain⟨k1,k2,k3⟩:=h.bx j b B hjb hB0
    obtain⟨q1,q2⟩:=hkeep b k2 (hnotT_box hjb hj)
    exact⟨q2.trans k1,vaA k2 hS.step.size,k3.mono hle (.refl _) q1⟩
  inj:=h.inj
  bn:=h.bn
  on:=fun b L hL=>by
   unfold iD at hL
   split at hL
   ·rename_i i k hb
    obtain⟨k1,k2⟩:=hS.on b _ hb
    exact⟨k1,k2.elim (hTE b) (fun hx=>.inr (vaL h.step.size hx))⟩
   ·rename_i t k hb
    obtain⟨k1,k2⟩:=hS.on b _ hb
    exact⟨k1,k2.elim (hTE b) (fun hx=>.inr (vaL h.step.size hx))⟩
   ·have hsz:=hS.step.size
    cases hb:ow b with
    |none=>rw[hb]at hL;cases hL
    |some L'=>exact⟨vaA (h.on b _ hb).1 hsz,(h.on b _ hb).2⟩
  ot:=fun t k e he=>by
   rcases vaK.1 he with he|he
   ·simp only[vap,Prod.mk.injEq]at he
    obtain⟨⟨k',e'⟩,hm,⟨rfl,rfl⟩,rfl⟩:=he
    obtain⟨u,v',h1,h2,h3,h4⟩:=hS.ot 0 k' e' (vap.2 ⟨(k',e'),hm,rfl⟩)
    simp at h1;subst h1
    refine⟨v,v',by simp[hd],h2,h3,fun b hb=>?_⟩
    simp only[iD,h4 b hb]
   ·obtain⟨he,htd⟩:=bD he
    obtain⟨he,hne0⟩:=aG he
    have hne2:∀x∈oa,fN.tmp t k≠.tmp x.t x.k:=fun x hx e=>by
     cases e
     simp only[vaJ,vbx,vaG]at hne0
     exact hne0 x hx rfl
    obtain⟨u,v',h1,h2,h3,h4⟩:=h.ot t k e he
    have hq:∀b,v'.ownBlock=some b->¬aV bsC (bW ρ oa Γ ow) b:=fun b hb=>hnotT_own (h4 b hb) (howned h3 hb) (fun j k hx=>by cases hx) hne2
    exact⟨u,v',by rw[vaE (fun e=>htd e.symm)];exact h1,h2,h3.same fun b hb=>hkeep b (h3.lt hb) (hq b hb),fun b hb=>hold (h4 b hb) (howned h3 hb) (fun j k hx=>by cases hx) hne2⟩
  ob:=fun j k e cs own b hB hk hjb=>by
   by_cases hj:j∈ρ
   ·obtain⟨i,hij⟩:=va6.1 hj
    obtain⟨B',Bc,hB',hBc,hx⟩:=hH'.box i j hij
    rw[hB]at hB';cases hB'
    cases Bc with
    |cells cs' own'=>
     obtain⟨rfl,_,_⟩:=hx
     obtain⟨v',k1,k2,k3⟩:=hS.ob i k e cs' own b hBc hk ((hbb i j hij).trans hjb)
     refine⟨v',k1,k2,fun b' hb'=>?_⟩
     have hgd:ρ.getD i 0=j:=by rw[vaj,hij];rfl
     simp only[iD,k3 b' hb',hgd]
    |map es=>simp[ef]at hx
    |dead=>simp[ef]at hx
   ·have hB0:st.boxes[j]? =some (.cells cs own):=(hsame j hj).symm.trans hB
    obtain⟨v',k1,k2,k3⟩:=h.ob j k e cs own b hB0 hk hjb
    obtain⟨_,hlt,_⟩:=h.bx j b _ hjb hB0
    have hne:∀j' k',fN.box j k=.box j' k'->j'∉ρ:=fun j' k' hx=>by cases hx;exact hj
    have hne2:∀x∈oa,fN.box j k≠.tmp x.t x.k:=fun x _ e=>by cases e
    exact⟨v',(az (hkeep b hlt (hnotT_box hjb hj)).1 k).trans k1,k2.same fun b' hb'=>hkeep b' (k2.lt hb') (hnotT_own (k3 b' hb') (howned k2 hb') hne hne2),fun b' hb'=>hold (k3 b' hb') (howned k2 hb') hne hne2⟩
  gl:=fun g cs hg=>(h.gl g cs hg).mono hle (.refl _)
  gc:=h.gc
  gx:=h.gx
  step:={
   os:=hS.step.os.trans h.step.os
   tape:=hS.step.tape.trans h.step.tape
   output:=hS.step.output.trans h.step.output
   size:=vaL h.step.size hS.step.size
   drawn:=vaL h.step.drawn hS.step.drawn
   keep:=fun b hb hT=>by
    have hlt:b<w.heap.size:=vaA hb h.step.size
    have hnT:¬aV bsC (bW ρ oa Γ ow) b:=fun hx=>(hTE b hx).elim hT (fun hx=>absurd hx (vcz.2 hb))
    obtain⟨k1,k2⟩:=h.step.keep b hb hT
    obtain⟨q1,q2⟩:=hkeep b hlt hnT
    exact⟨q1.trans k1,q2.trans k2⟩
   le:=h.step.le.trans hle}}
end
abbrev ue:Value:=.slice none 0 0
def zB(v:Value):PVal:=if eE v then .val ue else absC v
def yr(P:Program)(t:TypeId):Option (List PVal):=((P.info? t).bind (·.zero)).map fun z=>z.cells.toList.map zB
def s9(P:Program)(t:TypeId)(parts:List (Nat×PVal)):Option (List PVal):=
 match P.underlying t,yr P t with
 |some (.struct fs),some zs=>if fs.all (fun f=>(P.info? f.type).isSome)then qN (fun i=>(fs[i]?).map fun f=>(f.offset,P.cellsOf f.type)) zs parts else none
 |_,_=>none
def vp(cs:List PVal):List (Nat×TypeId)->Prop
 |[]=>True
 |x::r=>cs[x.1]? =some (.val ue)/\vp cs r
def th(P:Program)(t:TypeId)(parts:List (Nat×PVal))(L:List (Nat×TypeId)):Prop:=∃cs,s9 P t parts=some cs/\vp cs L
def ownLe(H0 H:List ag):Prop:=H0.length=H.length/\∀(i:Nat) B,H0[i]? =some B->∃B',H[i]? =some B'/\(B=B'\/∃cs own own',B'=.cells cs own/\B=.cells cs own'/\∀x∈own',x∈own)
structure tE(P:Program)(GE:List (Nat×List PVal))(f:Operand)(args:List Operand)(st:aj)(r:PVal)(ro:List (Nat×TypeId))(H':List ag)(oa:List OA):Prop where
 ex:∃(g:FuncId) (first cap argsC:List PVal) (ρ:List Nat) (H0 Hc Hc':List ag) (rc:PVal),opv GE st.tmps f=.func (.func g) first cap/\ρ.Nodup/\C P GE g argsC (oa.map fun x=>((x.i,x.k),x.e)) Hc rc ro Hc'/\
  ownLe H0 st.boxes/\lH ρ H0 Hc/\lH ρ H' Hc'/\H'.length=st.boxes.length/\(∀j:Nat,j∉ρ->H'[j]? =H0[j]?)/\nB ρ r rc/\(first++args.map (opv GE st.tmps)++cap).length=argsC.length/\
  (∀(i:Nat) p q,(first++args.map (opv GE st.tmps)++cap)[i]? =some p->argsC[i]? =some q->nB ρ p q)/\
  (∀x∈oa,∃j,x.i=first.length+j/\((args[j]? =some (.const ue)/\x.k=0)\/(((x.t,x.k),x.e)∈st.own/\args[j]? =some (.tmp x.t))))/\(∀x∈oa,∀y∈oa,x.t=y.t->x.k=y.k->x.i=y.i)
def qT(P:Program)(GE:List (Nat×List PVal))(o:Oper)(K:aj->Prop)(st:aj):Prop:=
 match o.op,o.dst with
 | .build T parts,some d => ∃ (p:PVal) (L:List (Nat×TypeId)),dY P T (parts.toList.map fun x => (x.1,opv GE st.tmps x.2)) = some p∧th P T (parts.toList.map fun x => (x.1,opv GE st.tmps x.2)) L ∧
   d<st.tmps.length/\K {st with tmps:=st.tmps.set d p,own:=(L.map fun x=>((d,x.1),x.2))++aB d st.own}
 | .store T x (.tmp t),none => ∃ (i off:Nat) (H:List ag) (cs:List PVal) (own L:List (Nat×TypeId)) (l:List PVal),opv GE st.tmps x = .bptr i off∧st.tmps.getD t .undef = .agg l∧bg P T (.bptr i off) (.agg l) st.boxes = some H∧H[i]? = some (.cells cs own) ∧
   (∀y∈L,((t,y.1),y.2)∈st.own)/\(L.map (·.1)).Nodup/\
   K ⟨st.tmps,H.set i (.cells cs ((L.map fun y=>(off+y.1,y.2)).reverse++own)),st.own.filter fun x=>!L.any fun y=>x.1==(t,y.1)⟩
 | .load T x,some d => ∃ (i off:Nat) (cs:List PVal) (own L:List (Nat×TypeId)) (l:List PVal),(∃ fs,P.underlying T = some (.struct fs))∧opv GE st.tmps x = .bptr i off∧st.boxes[i]? = some (.cells cs own)∧aU P T (cs.drop off) = some (.agg l) ∧
   (∀y∈L,(off+y.1,y.2)∈own)/\(L.map (·.1)).Nodup/\(∀y∈L,y.1<l.length)/\d<st.tmps.length/\
   K ⟨st.tmps.set d (.agg l),st.boxes.set i (.cells cs (own.filter fun x=>!L.any fun y=>x.1==off+y.1)),(L.map fun y=>((d,y.1),y.2)).reverse++aB d st.own⟩
 |.box _ x,some d=>∃vs:List PVal,bo (opv GE st.tmps x)=some vs/\d<st.tmps.length/\K {st with tmps:=st.tmps.set d (.eptr vs),own:=aB d st.own}
 | .call { callee := .value f,args,.. },some d => ∃ (r:PVal) (ro:List (Nat×TypeId)) (H':List ag) (oa:List OA),tE P GE f args.toList st r ro H' oa∧d < st.tmps.length ∧
   K ⟨st.tmps.set d r,H',(ro.map fun x=>((d,x.1),x.2))++aB d (st.own.filter fun z=>!oa.any fun x=>z.1==(x.t,x.k))⟩
 |_,_=>False
def mb(P:Program)(GE:List (Nat×List PVal))(A:List Nat)(o:Oper)(id:Nat)(K:aj->Prop)(st:aj):Prop:=pH P GE A o id K st\/qT P GE o K st\/vH P GE o K st
def b5(P:Program)(GE:List (Nat×List PVal))(A:List Nat)(ops:Array Oper)(K:aj->Prop):List Oper->Nat->aj->Prop
 |[],_,st=>K st
 | o :: rest,id,st =>
  match o.guard with
  |none=>mb P GE A o id (b5 P GE A ops K rest (id+if ah o.op then 1 else 0)) st
  |some (j,want)=>match iV ops st.tmps j with
   | some x => (x = some want→mb P GE A o id (b5 P GE A ops K rest (id + if ah o.op then 1 else 0)) st) ∧
     (x≠some want->b5 P GE A ops K rest (id+if ah o.op then 1 else 0) (jT st o.dst (.val undef) [] st.boxes))
   |none=>False
section
variable{P:Program}{E:jk}{Γ:au}{bs:ax}{ow:Nat->Option fN}{w:World}
theorem yN{z:Value}(j:Nat)(p:PVal)(v:Value)(hp:(z.cells.toList.map zB)[j]? =some p)(hv:z.cells[j]? =some v):VR Γ bs w p v:=by
 simp only[vau,vaS,hv,vag,vaq]at hp
 subst hp
 unfold zB
 split
 ·rename_i hn
  unfold eE at hn
  split at hn
  ·exact .val _
  ·cases hn
 ·exact .absC v
theorem uj{t:TypeId}{parts:List (Nat×PVal)}{vs:List (Nat×Value)}{cs:List PVal}(hl:parts.length=vs.length)
  (hv:∀(j:Nat) p v,parts[j]? =some p->vs[j]? =some v->p.1=v.1/\VR Γ bs w p.2 v.2) (h:s9 P t parts=some cs):
  ∃ov,(Instr.build t vs.toArray).run P w=.ok (.agg ov) w/\ov.size=cs.length/\∀(j:Nat) p v,cs[j]? =some p->ov[j]? =some v->VR Γ bs w p v:=by
 unfold s9 at h
 split at h
 ·rename_i fs zs ht hz
  unfold yr at hz
  simp only[vaB,va8]at hz
  obtain⟨z,⟨i,hi,hz'⟩,rfl⟩:=hz
  have hr:(zeroValue t).run P w=.ok z w:=by simp[zeroValue,run_typeInfo w hi,hz']
  split at h
  ·rename_i hall
   have hplaces:∀(l:List Field),(∀f∈l,(P.info? f.type).isSome=true)->(l.mapM fun f=>do pure (f.offset,<-sizeOf f.type):Sem (List (Nat×Nat))).run P w=.ok (l.map fun f=>(f.offset,P.cellsOf f.type)) w:=by
    intro l hl
    induction l with
    |nil=>simp
    |cons f l ih=>
     obtain⟨inf,hinf⟩:=vax.1 (hl f (by simp))
     have:=ih fun g hg=>hl g (by simp[hg])
     simp only[vbM,Sem.run_bind,run_sizeOf w hinf,Result.andThen_ok,this,Sem.run_pure,vaX]
   have hp:(fs.mapM fun f=>do pure (f.offset,<-sizeOf f.type):Sem (Array (Nat×Nat))).run P w=.ok (fs.map fun f=>(f.offset,P.cellsOf f.type)) w:=by
    rw[vb1]
    simp only[Sem.run_map]
    rw[hplaces fs.toList fun f hf=>by
     have:=vba.1 hall f (by simpa using hf)
     simpa using this]
    simp only[Result.andThen_ok]
    exact vbh (fun x=>Result.ok x w) (vbw (by simp))
   obtain⟨ov,r1,r2,r3⟩:=mC (place':=((fs.map fun f=>(f.offset,P.cellsOf f.type))[·]?)) (fun i x hx=>by simpa using hx) parts vs _ z.cells hl hv (by simp) (fun j p v hp hv=>yN j p v hp hv) h
   refine⟨ov,?_,r2,r3⟩
   simp only[Instr.build,Sem.run_bind,hr,Result.andThen_ok,run_underlying ht,hp]
   rw[r1]
   simp
  ·cases h
 ·cases h
theorem qI{cs:List PVal}:∀{L:List (Nat×TypeId)},vp cs L->∀x∈L,cs[x.1]? =some (.val ue)
 |[],_,x,hx=>by cases hx
 | y :: L,h,x,hx => by
  rcases vaF.1 hx with rfl|hx
  ·exact h.1
  ·exact qI h.2 x hx
section
variable{a:Array Value}{st:aj}
theorem SR.ownNils(h:SR P E Γ bs ow w a st){d:Nat}{u:Value}(hu:a[d]? =some u)(L:List (Nat×TypeId))(hL:∀x∈L,ey u x.1=some ue):SR P E Γ bs ow w a {st with own:=(L.map fun x=>((d,x.1),x.2))++st.own}:=
 { h with
  ot:=fun t k e he=>by
   rcases vaK.1 he with he|he
   ·simp only[vap,Prod.mk.injEq]at he
    obtain⟨x,hx,⟨rfl,rfl⟩,rfl⟩:=he
    exact⟨u,ue,hu,hL x hx,⟨0,[],World.ownsRow_nil _ _ _ _,fun b hb=>by simp[Value.ownBlock]at hb⟩,fun b hb=>by simp[Value.ownBlock]at hb⟩
   ·exact h.ot t k e he}
theorem SR.takeOwn(h:SR P E Γ bs ow w a st){i b d k off:Nat}{e:TypeId}{u v:Value}{cs:List PVal}{own:List (Nat×TypeId)}(hi:bs[i]? =some (some b))(hB:st.boxes[i]? =some (.cells cs own))
  (hm:(off,e)∈own) (hu:a[d]? =some u) (hp:ey u k=some v) (hc:w.cell? ⟨b,off,none⟩=some v):
  ∃ow',SR P E Γ bs ow' w a {st with own:=((d,k),e)::st.own,boxes:=st.boxes.set i (.cells cs (own.filter fun x=>x.1 !=off))}:=by
 obtain⟨v',q1,q2,q3⟩:=h.ob i off e cs own b hB hm hi
 rw[hc]at q1
 cases q1
 exact⟨_,(h.freeB (j:=off) hB).addOwn (d:=d) (k:=k) (e:=e) (u:=u) (v:=v) hu hp q2 (fun b' hb'=>⟨by simp[q3 b' hb'],(h.on b' _ (q3 b' hb')).2⟩)⟩
theorem SR.takeOwns{i b d off:Nat}{u:Value}{cs:List PVal}(hi:bs[i]? =some (some b))(hu:a[d]? =some u):∀(L:List (Nat×TypeId)) {ow:Nat->Option fN} {st:aj} {own:List (Nat×TypeId)},SR P E Γ bs ow w a st->st.boxes[i]? =some (.cells cs own)->
  (∀x∈L,(off+x.1,x.2)∈own)->(L.map (·.1)).Nodup->(∀x∈L,∃v,ey u x.1=some v/\w.cell? ⟨b,off+x.1,none⟩=some v)->
  ∃ow',SR P E Γ bs ow' w a ⟨st.tmps,st.boxes.set i (.cells cs (own.filter fun x=>!L.any fun y=>x.1==off+y.1)),(L.map fun y=>((d,y.1),y.2)).reverse++st.own⟩
 | [],ow,st,own,h,hB,_,_,_ => by
  refine⟨ow,?_⟩
  have e2:(own.filter fun x=>!([]:List (Nat×TypeId)).any fun y=>x.1==off+y.1)=own:=by
   apply vcr.2
   intro x _
   rfl
  have e1:st.boxes.set i (.cells cs (own.filter fun x=>!([]:List (Nat×TypeId)).any fun y=>x.1==off+y.1))=st.boxes:=by
   rw[e2]
   apply va7
   intro j
   by_cases hj:i=j
   ·subst hj
    rw[vae (aa hB),hB]
   ·rw[vak hj]
  rw[e1]
  exact h
 | x :: L,ow,st,own,h,hB,hm,hn,hc => by
  rw[vaX,vbX]at hn
  obtain⟨v,hv1,hv2⟩:=hc x (by simp)
  obtain⟨ow1,h1⟩:=h.takeOwn hi hB (hm x (by simp)) hu hv1 hv2
  obtain⟨ow2,h2⟩:=SR.takeOwns (off:=off) hi hu L h1 (vae (aa hB)) (fun y hy=>by
   refine vaO.2 ⟨hm y (by simp[hy]),?_⟩
   simp only[bne_iff_ne,ne_eq]
   exact fun e=>hn.1 (vap.2 ⟨y,hy,by omega⟩)) hn.2 (fun y hy=>hc y (by simp[hy]))
  refine⟨ow2,?_⟩
  simp only[vbO,vcu]at h2
  have e1:((x::L).map fun y=>((d,y.1),y.2)).reverse++st.own=(L.map fun y=>((d,y.1),y.2)).reverse++((d,x.1),x.2)::st.own:=by simp
  have e2:(own.filter fun z=>!(x::L).any fun y=>z.1==off+y.1)=own.filter fun z=>(!L.any fun y=>z.1==off+y.1)&&(z.1 !=off+x.1):=by
   congr 1
   funext z
   rw[List.any_cons]
   cases(L.any fun y=>z.1==off+y.1)<;>cases hz:(z.1==off+x.1)<;>simp[bne,hz]
  rw[e1,e2]
  exact h2
theorem nn(h:SR P E Γ bs ow w a st){T:TypeId}{i off b:Nat}{cs:List PVal}{own:List (Nat×TypeId)}{l:List PVal}(hi:bs[i]? =some (some b))(hB:st.boxes[i]? =some (.cells cs own))(hp:aU P T (cs.drop off)=some (.agg l)):∃v,(loadVar T ⟨b,off,none⟩).run P w=.ok v w/\VR Γ bs w (.agg l) v/\((∃d,P.underlying T=some d/\(match d with|.struct _|.array _ _=>True|_=>False))->∀k,k<l.length->ey v k=w.cell? ⟨b,off+k,none⟩):=by
 obtain⟨c,t',h1,h2,h3,h4⟩:=h.box_cells hi hB
 have hval:∀(k:Nat) q,(cs.drop off)[k]? =some q->w.cell? ⟨b,off+k,none⟩=some (c.getD (off+k) undef)/\VR Γ bs w q (c.getD (off+k) undef):=by
  intro k q hq
  rw[vaQ]at hq
  have hlt:off+k<c.size:=vaA (aa hq) h2
  have hc:c[off+k]? =some (c.getD (off+k) undef):=by simp[vas,hlt]
  exact⟨(h4 _).trans hc,h3 _ _ _ hq hc⟩
 obtain⟨v,hr,hv⟩:=dH hp (vals:=fun k=>c.getD (off+k) undef) (fun k q hq=>(hval k q hq).1) (fun k q hq=>(hval k q hq).2)
 refine⟨v,hr,hv,fun hagg k hk=>?_⟩
 obtain⟨dd,hd,hm⟩:=hagg
 have hlen:P.cellsOf T<=(cs.drop off).length/\l.length=P.cellsOf T:=by
  unfold aU at hp
  rw[hd]at hp
  have key:(if P.cellsOf T<=(cs.drop off).length then some (PVal.agg ((cs.drop off).take (P.cellsOf T)))else none)=some (.agg l):=by
   cases dd<;>simp only at hm<;>exact hp
  split at key
  ·rename_i hh;cases key;exact⟨hh,by rw[va4];omega⟩
  ·cases key
 have hp2:aU P T ((List.range (cs.drop off).length).map fun k=>PVal.val (c.getD (off+k) undef))=some (.agg (((List.range (cs.drop off).length).map fun k=>PVal.val (c.getD (off+k) undef)).take (P.cellsOf T))):=by
  unfold aU
  rw[hd]
  cases dd<;>simp at hm<;>simp only<;>rw[vav (by simpa using hlen.1)]
 obtain⟨v2,hr2,hv2⟩:=dH (Γ:=Γ) (bs:=bs) hp2 (vals:=fun k=>c.getD (off+k) undef) (fun k q hq=>by
   have hlt:k<(cs.drop off).length:=by have:=aa hq;simpa using this
   exact(hval k _ (vaa hlt)).1) (fun k q hq=>by
   have hlt:k<(cs.drop off).length:=by have:=aa hq;simpa using this
   simp only[vau,vaT hlt,vag,vaq]at hq
   subst hq
   exact .val _)
 rw[hr]at hr2
 cases hr2
 have hk2:k<(cs.drop off).length:=by omega
 cases hv2 with
 | agg _ vs hl hvv =>
  have hd1:(cs.drop off).length=cs.length - off:=vbz
  have hkv:k<vs.size:=by rw[hl];simp;omega
  have hq:(((List.range (cs.drop off).length).map fun k=>PVal.val (c.getD (off+k) undef)).take (P.cellsOf T))[k]? =some (.val (c.getD (off+k) undef)):=by
   rw[vat (by omega)]
   simp only[vau,vaT hk2,vag]
  have:=hvv k _ vs[k] hq (by simp[hkv])
  show vs[k]? =_
  rw[(hval k _ (vaa hk2)).1]
  rw[vaC hkv]
  generalize vs[k]=q at this
  generalize c.getD (off+k) undef=q2 at this
  cases this
  rfl
end
variable{a:Act}{st:aj}
theorem lM(h:SR P E Γ bs ow w a.tmps st){o:Oper}{id d:Nat}{T:TypeId}{parts:Array (Nat×Operand)}{p:PVal}{L:List (Nat×TypeId)}{K:aj->Prop}(ho:o.op=.build T parts)(hdst:o.dst=some d)(hd:d<st.tmps.length)
  (hp:dY P T (parts.toList.map fun x=>(x.1,opv E.GE st.tmps x.2))=some p) (hL:th P T (parts.toList.map fun x=>(x.1,opv E.GE st.tmps x.2)) L)
  (hK:K {st with tmps:=st.tmps.set d p,own:=(L.map fun x=>((d,x.1),x.2))++aB d st.own}) (Q:Exit->Act->World->Prop):
  o.wp P a w (cF P E bs id (ah o.op) a.defers K) Q:=by
 have hρ:∀x,VR Γ bs w (opv E.GE st.tmps x) (a.eval x):=fun x=>h.opv a.defers x
 obtain⟨k1,k2⟩:=km hρ parts.toList
 obtain⟨v,r1,r2⟩:=kV k1 k2 hp
 obtain⟨cs,hcs,hn⟩:=hL
 obtain⟨ov,s1,s2,s3⟩:=uj k1 k2 hcs
 rw[r1]at s1
 cases s1
 have hrun:(execOp a.eval o).run P w=.ok (.value (.agg ov)) w:=by
  have:(parts.map fun x=>(x.1,a.eval x.2))=(parts.toList.map fun x=>(x.1,a.eval x.2)).toArray:=by apply vbw;simp
  simp only[execOp,ho]
  rw[this]
  simp[r1]
 unfold Oper.wp
 rw[hrun,Oper.upon_value]
 have hds:d<a.tmps.size:=by rw[h.sz];exact hd
 have g1:=h.set (d:=d) r2
 have g2:=g1.ownNils (d:=d) (u:=.agg ov) (by simp[hds]) L fun x hx=>by
  have hq:=qI hn x hx
  have hlt:x.1<ov.size:=by rw[s2];exact aa hq
  have hv:=s3 x.1 _ ov[x.1] hq (by simp[hlt])
  show ov[x.1]? =_
  rw[vaC hlt]
  generalize ov[x.1]=q at hv
  cases hv
  rfl
 have hput:∀v,(a.put o.dst v).tmps=a.tmps.setIfInBounds d v:=fun v=>by rw[hdst];rfl
 rw[<-hput]at g2
 exact⟨aO _ _ _,Γ,bs,_,_,g2,hK,.inl rfl⟩
theorem SR.ownLe(h:SR P E Γ bs ow w a.tmps st){H0:List ag}(hs:ownLe H0 st.boxes):SR P E Γ bs ow w a.tmps {st with boxes:=H0}:=
 { h with
  bl:=h.bl.trans hs.1.symm
  bx:=fun i b B hb hB=>by
   obtain⟨B',hB',hx⟩:=hs.2 i B hB
   obtain⟨k1,k2,k3⟩:=h.bx i b B' hb hB'
   rcases hx with rfl|⟨cs,own,own',rfl,rfl,_⟩
   ·exact⟨k1,k2,k3⟩
   ·exact⟨k1,k2,k3⟩
  ob:=fun i j e cs own b hB hj hb=>by
   obtain⟨B',hB',hx⟩:=hs.2 i _ hB
   rcases hx with rfl|⟨cs1,own1,own2,rfl,e2,hsub⟩
   ·exact h.ob i j e cs own b hB' hj hb
   ·cases e2;exact h.ob i j e _ own1 b hB' (hsub _ hj) hb}
theorem pB(h:SR P E Γ bs ow w a.tmps st){o:Oper}{id d:Nat}{f:Operand}{args:Array Operand}{tys:Array TypeId}{r:PVal}{ro:List (Nat×TypeId)}{H':List ag}{oa:List OA}{K:aj->Prop}(ho:o.op=.call {callee:=.value f,args,argTypes:=tys})(hdst:o.dst=some d)(hd:d<st.tmps.length)
  (hg:tE P E.GE f args.toList st r ro H' oa) (hK:K ⟨st.tmps.set d r,H',(ro.map fun x=>((d,x.1),x.2))++aB d (st.own.filter fun z=>!oa.any fun x=>z.1==(x.t,x.k))⟩) (Q:Exit->Act->World->Prop):
  o.wp P a w (cF P E bs id (ah o.op) a.defers K) Q:=by
 obtain⟨g,first,cap,argsC,ρ,H0,Hc,Hc',rc,hfv,hnd,hC,hle,hH,hH',hlen,hsame,hr,hal,ha,ho1,ho3⟩:=hg.ex
 have hρ:∀x,VR Γ bs w (opv E.GE st.tmps x) (a.eval x):=fun x=>h.opv a.defers x
 have hf:=hρ f
 rw[hfv]at hf
 generalize hvf:a.eval f=vf at hf
 cases hf with
 |func _ _ _ fs cs hl hl' h1 h2=>
 have hargs:(fs++args.map a.eval++cs).size=(first++args.toList.map (opv E.GE st.tmps)++cap).length:=by simp[hl,hl']
 have hvr:∀(i:Nat) p v,(first++args.toList.map (opv E.GE st.tmps)++cap)[i]? =some p->(fs++args.map a.eval++cs)[i]? =some v->VR Γ bs w p v:=by
  refine mo (by simp[hl]) (mo hl h1 fun i p v hp hv=>?_) h2
  exact mt hρ args.toList i p v hp (by simpa using hv)
 have hrun:(execOp a.eval o).run P w=.ok (.enter g (fs++args.map a.eval++cs)) w:=by
  simp[execOp,ho,resolve,hvf,Deferred.ofValue,invoke,hC.1]
 have hds:d<a.tmps.size:=by rw[h.sz];exact hd
 have hw:=h.ownLe hle
 unfold Oper.wp
 rw[hrun,Oper.upon_enter]
 refine(xE hw hds hnd hC (fun x hx=>?_) ho3 hH hH' (hlen.trans hle.1.symm) hsame hr hal ha hargs hvr).mono fun e w' he=>?_
 ·obtain⟨j,hj,hj2⟩:=ho1 x hx
  have hat:∀{y:Operand},args.toList[j]? =some y->(fs++args.map a.eval++cs)[x.i]? =some (a.eval y):=by
   intro y hy
   have hjl:j<args.size:=by have:=aa hy;simpa using this
   have hja:args[j]? =some y:=by simpa using hy
   rw[hj,<-hl,vaH (by simp;omega),vbu (by omega),vb7]
   simp only[Array.getElem?_map,hja,vag]
  rcases hj2 with⟨hj2,hk⟩|⟨ht,hj2⟩
  ·exact .inl ⟨hat hj2,hk⟩
  ·obtain⟨u,v,e1,_⟩:=h.ot _ _ _ ht
   exact .inr ⟨ht,by rw[hat hj2,eZ e1];exact e1.symm⟩
 ·obtain⟨v,Γ',ow',rfl,hS,_⟩:=he
  have hput:(a.put o.dst v).tmps=a.tmps.setIfInBounds d v:=by rw[hdst];rfl
  show cF P E bs id (ah o.op) a.defers K (a.put o.dst v) w'
  refine⟨aO _ _ _,Γ',bs,ow',_,?_,hK,.inl rfl⟩
  rw[hput];exact hS
theorem nx(h:SR P E Γ bs ow w a.tmps st){o:Oper}{id:Nat}{K:aj->Prop}(hp:qT P E.GE o K st)(Q:Exit->Act->World->Prop):o.wp P a w (cF P E bs id (ah o.op) a.defers K) Q:=by
 unfold qT at hp
 split at hp
 ·rename_i T parts d ho hd
  obtain⟨p,L,h1,h2,h3,h4⟩:=hp
  exact lM h ho hd h3 h1 h2 h4 Q
 ·rename_i T x t ho hd
  obtain⟨i,off,H,cs,own,L,l,hx,ht,hst,hB,hm,hn,hK⟩:=hp
  have htl:t<st.tmps.length:=by
   by_cases hlt:t<st.tmps.length
   ·exact hlt
   ·rw[vaj,vay (vbQ hlt)]at ht;cases ht
  have hta:t<a.tmps.size:=by rw[h.sz];exact htl
  have hu:a.tmps[t]? =some a.tmps[t]:=by simp[hta]
  generalize a.tmps[t]=u at hu
  have hvt:=qd h hu
  rw[ht]at hvt
  have hvx:VR Γ bs w (opv E.GE st.tmps x) (a.eval x):=h.opv a.defers x
  rw[hx]at hvx
  obtain⟨w',r1,r2,_,r4⟩:=me h hvx hvt hst
  have hrun:(execOp a.eval o).run P w=.ok .skip w':=by simp[execOp,ho,eZ hu,r1]
  unfold Oper.wp
  rw[hrun,Oper.upon_skip]
  generalize a.eval x=vx at hvx r1
  cases hvx with
  |bptr _ _ b hb=>
  obtain⟨c1,_⟩:=r4 i off b rfl hb
  obtain⟨ow',g⟩:=SR.moveOwns (off:=off) hb hu L r2 hB hm hn fun y hy=>by
   obtain⟨u',v,e1,e2,_,_⟩:=h.ot t y.1 y.2 (hm y hy)
   rw[hu]at e1
   cases e1
   refine⟨v,e2,?_⟩
   cases hvt with
   |agg _ vs _ _=>exact c1 y.1 v e2
  have hput:a.put o.dst undef=a:=by rw[hd];rfl
  rw[hput]
  exact⟨rfl,Γ,bs,ow',_,g,hK,.inl rfl⟩
 ·rename_i T x d ho hd
  obtain⟨i,off,cs,own,L,l,⟨fs,hfs⟩,hx,hB,hp,hm,hn,hll,hdl,hK⟩:=hp
  have hvx:VR Γ bs w (opv E.GE st.tmps x) (a.eval x):=h.opv a.defers x
  rw[hx]at hvx
  generalize hve:a.eval x=vx at hvx
  cases hvx with
  |bptr _ _ b hb=>
  obtain⟨v,r1,r2,r3⟩:=nn h hb hB hp
  have hrun:(execOp a.eval o).run P w=.ok (.value v) w:=by simp[execOp,ho,hve,Instr.loadAt,Instr.sureAddr,r1]
  unfold Oper.wp
  rw[hrun,Oper.upon_value]
  have hds:d<a.tmps.size:=by rw[h.sz];exact hdl
  have g1:=h.set (d:=d) r2
  obtain⟨ow',g2⟩:=SR.takeOwns (off:=off) (d:=d) (u:=v) hb (by simp[hds]) L g1 hB hm hn fun y hy=>by
   have:=r3 ⟨_,hfs,trivial⟩ y.1 (hll y hy)
   obtain⟨v',q1,_⟩:=h.ob i (off+y.1) y.2 cs own b hB (hm y hy) hb
   exact⟨v',this.trans q1,q1⟩
  have hput:∀v,(a.put o.dst v).tmps=a.tmps.setIfInBounds d v:=fun v=>by rw[hd];rfl
  rw[<-hput]at g2
  exact⟨aO _ _ _,Γ,bs,ow',_,g2,hK,.inl rfl⟩
 ·rename_i T x d ho hd
  obtain⟨vs,hvs,hdl,hK⟩:=hp
  have hvx:VR Γ bs w (opv E.GE st.tmps x) (a.eval x):=h.opv a.defers x
  generalize hve:a.eval x=vx at hvx
  obtain⟨k1,k2⟩:=hvx.cells hvs
  obtain⟨g1,hle⟩:=h.alloc_imm vx.cells T vx.cells.size (van _)
  have hrun:(execOp a.eval o).run P w=.ok (.value (.pointer (some ⟨w.heap.size,0,none⟩))) (w.alloc (.cells vx.cells T)):=by simp[execOp,ho,hve,Instr.box,newVar,newRow]
  unfold Oper.wp
  rw[hrun,Oper.upon_value]
  have hcell:∀j,(w.alloc (.cells vx.cells T)).cell? ⟨w.heap.size,j,none⟩=vx.cells[j]?:=fun j=>cell_of_row _ _ _ _ _ _ (dv w _)
  have hget:∀{k:Nat} {p:PVal},vs[k]? =some p->vx.cells[k]? =some (vx.cells.getD k undef):=fun{k p} hp=>by
   have hlt:k<vx.cells.size:=by rw[k1];exact aa hp
   simp[vas,hlt]
  have hvr:VR (Γ.put w.heap.size vx.cells.size) bs (w.alloc (.cells vx.cells T)) (.eptr vs) (.pointer (some ⟨w.heap.size,0,none⟩)):=
   .eptr vs w.heap.size 0 vx.cells.size (fun k=>vx.cells.getD k undef) (Γ.put_same _ _) (by omega)
    (fun k p hp=>by rw[hcell,vaz];exact hget hp) (fun k p hp=>(k2 k p _ hp (hget hp)).mono hle (.refl _))
  have g2:=g1.set (d:=d) hvr
  have hput:∀v,(a.put o.dst v).tmps=a.tmps.setIfInBounds d v:=fun v=>by rw[hd];rfl
  rw[<-hput]at g2
  exact⟨aO _ _ _,_,bs,_,_,g2,hK,.inl rfl⟩
 ·rename_i f args tys d ho hd
  obtain⟨r,ro,H',oa,h1,h2,h3⟩:=hp
  exact pB h ho hd h2 h1 h3 Q
 ·exact hp.elim
theorem tk(h:SR P E Γ bs ow w a.tmps st){A:List Nat}{o:Oper}{id:Nat}(hid:ah o.op=true->bs[id]? =some none){K:aj->Prop}(hp:mb P E.GE A o id K st)(Q:Exit->Act->World->Prop):o.wp P a w (sE P E bs id (ah o.op) a.defers K) Q:=by
 rcases hp with hp|hp|hp
 ·exact Oper.wp_mono (fun _ _ hA=>hA.to3) (uq h hid hp Q)
 ·exact Oper.wp_mono (fun _ _ hA=>hA.to3) (nx h hp Q)
 ·exact vI h hp Q
theorem kX{bs0:ax}{ds:List Deferred}{A:List Nat}{ops:Array Oper}{K:aj->Prop}{Q:Exit->Act->World->Prop}
  (hQ:∀a w st,a.defers=ds->tB P E bs0 st a w->K st->Q .normal a w):
  ∀(rest:List Oper) (k id:Nat) (Γ:au) (bs:ax) (ow:Nat->Option fN) (a:Act) (w:World) (st:aj),(∀j,rest[j]? =ops[k+j]?)->SR P E Γ bs ow w a.tmps st->a.defers=ds->xu bs0 bs->bs0.length<=id->
   (∀m,id<=m->m<id+aA rest->bs[m]? =some none)->b5 P E.GE A ops K rest id st->wpOps P ops Q ((List.range ops.size).drop k) a w
 | [],k,id,Γ,bs,ow,a,w,st,hr,h,hd,hk,_,_,hp => by
  have hsz:ops.size<=k:=by
   have:=hr 0
   simp only[List.getElem?_nil,Nat.add_zero]at this
   exact vbY.1 this.symm
  rw[List.drop_eq_nil_of_le (by simpa using hsz)]
  exact hQ a w st hd ⟨Γ,bs,ow,h,hk⟩ hp
 | o :: rest,k,id,Γ,bs,ow,a,w,st,hr,h,hd,hk,hid,hfree,hp => by
  have hok:ops[k]? =some o:=by have:=hr 0;simpa using this.symm
  have hlt:k<ops.size:=(vai.1 hok).1
  have hcons:(List.range ops.size).drop k=k::(List.range ops.size).drop (k+1):=by
   rw[vbd (by simpa using hlt)];simp
  rw[hcons,wpOps_cons]
  unfold wpOp
  rw[hok]
  simp only
  have hcnt:aA (o::rest)=(if ah o.op then 1 else 0)+aA rest:=by
   unfold aA
   simp only[vbo]
   split<;>simp<;>omega
  have hrest:∀j,rest[j]? =ops[k+1+j]?:=fun j=>by
   have:=hr (j+1)
   simpa[vbV,vcj 1 j]using this
  have hmk:ah o.op=true->bs[id]? =some none:=fun hm=>hfree id (van _) (by rw[hcnt,hm];simp;omega)
  have step:mb P E.GE A o id (b5 P E.GE A ops K rest (id+if ah o.op then 1 else 0)) st->o.wp P a w (wpOps P ops Q ((List.range ops.size).drop (k+1))) Q:=by
   intro hs
   refine Oper.wp_mono (fun a' w' hA=>?_) (tk h hmk hs Q)
   obtain⟨hd',Γ',bs',ow',st',h1,h2,h3⟩:=hA
   refine kX hQ rest (k+1) _ Γ' bs' ow' a' w' st' hrest h1 (hd'.trans hd) ?_ (by omega) ?_ h2
   ·rcases h3 with rfl|⟨hm,b,rfl⟩|⟨x,rfl⟩
    ·exact hk
    ·intro i hi
     rw[vak (by omega)]
     exact hk i hi
    ·intro i hi
     have hki:=hk i hi
     have hlt:i<bs.length:=by
      have h1:bs0[i]? =some bs0[i]:=vaa hi
      rw[h1]at hki
      exact aa hki
     rw[vad hlt]
     exact hki
   ·intro m hm1 hm2
    have hb:=hfree m (by omega) (by rw[hcnt];omega)
    rcases h3 with rfl|⟨hm,b,rfl⟩|⟨x,rfl⟩
    ·exact hb
    ·rw[hm]at hm1
     simp only[if_true]at hm1
     rw[vak (by omega)]
     exact hb
    ·rw[vad (aa hb)]
     exact hb
  have skip:b5 P E.GE A ops K rest (id+if ah o.op then 1 else 0) (jT st o.dst (.val undef) [] st.boxes)->wpOps P ops Q ((List.range ops.size).drop (k+1)) (a.put o.dst undef) w:=by
   intro hs
   refine kX hQ rest (k+1) _ Γ bs ow (a.put o.dst undef) w _ hrest (h.putv_nil (.val undef) o.dst rfl) ((aO _ _ _).trans hd) hk (by omega) (fun m hm1 hm2=>hfree m (by omega) (by rw[hcnt];omega)) hs
  simp only[b5]at hp
  have hgo:(Region.wanted o (yielded ops a.tmps)=true->o.wp P a w (wpOps P ops Q ((List.range ops.size).drop (k+1))) Q)/\(¬Region.wanted o (yielded ops a.tmps)=true->wpOps P ops Q ((List.range ops.size).drop (k+1)) (a.put o.dst undef) w):=by
   split at hp
   ·rename_i hg
    exact⟨fun _=>step hp,fun hn=>absurd (by simp[Region.wanted,hg]) hn⟩
   ·rename_i j want hg
    split at hp
    ·rename_i x hx
     have hw:Region.wanted o (yielded ops a.tmps)=(x==some want):=by simp[Region.wanted,hg,pG h hx]
     rw[hw]
     exact⟨fun hx=>step (hp.1 (by simpa using hx)),fun hx=>skip (hp.2 (by simpa using hx))⟩
    ·exact hp.elim
  by_cases hw:Region.wanted o (yielded ops a.tmps)=true
  ·rw[vav hw];exact .inl (hgo.1 hw)
  ·rw[vaw hw];exact hgo.2 hw
theorem mZ{bs0:ax}{A:List Nat}{ops:Array Oper}{K:aj->Prop}{Q:Exit->Act->World->Prop}(hR:tB P E bs0 st a w)(hl:bs0.length<=st.boxes.length)
  (hQ:∀a' w' st',a'.defers=a.defers->tB P E bs0 st' a' w'->K st'->Q .normal a' w') (hp:b5 P E.GE A ops K ops.toList st.boxes.length {st with boxes:=st.boxes++bZ P ops.toList}):
  wpOps P ops Q (List.range ops.size) a w:=by
 obtain⟨Γ,bs,ow,h,hk⟩:=hR
 have hext:=h.extend (bZ P ops.toList)
 have hlen:=lq P ops.toList
 have:=kX (P:=P) (E:=E) (bs0:=bs0) (ds:=a.defers) hQ ops.toList 0 st.boxes.length Γ _ ow a w _ (fun j=>by simp) hext rfl (fun i hi=>?_) hl (fun m hm1 hm2=>?_) hp
 ·simpa using this
 ·rw[vad (by rw[h.bl];omega)];exact hk i hi
 ·rw[vaf (by rw[h.bl];omega),vaN,vav (by rw[h.bl];omega)]
end
def sM(ro:Option Nat)(P:Program)(c:Code)(Q:Exit->Act->World->Prop)(a:Act)(w:World):Prop:=match ro with
 |none=>c.wp P Q a w
 |some l=>∀n,c.wpIn (Fence.wide.inRound l) n P Q a w
def dn(o:Oper):Bool:=match o.op with
 |.defer _=>false
 |_=>true
section
variable{P:Program}{ro:Option Nat}{Q:Exit->Act->World->Prop}{a:Act}{w:World}
theorem gU{c:Code}{Q':Exit->Act->World->Prop}(h:sM ro P c Q a w)(hq:∀e a w,Q e a w->Q' e a w):sM ro P c Q' a w:=by
 cases ro with
 |none=>exact wp_mono h hq
 |some l=>exact fun n=>wpIn_mono (h n) hq
theorem xJ(h:Q .normal a w):sM ro P .skip Q a w:=by
 cases ro with
 |none=>exact wp_skip h
 |some l=>exact fun n=>wpIn_skip h
theorem wM{l:Nat}(h:Q .normal a w):sM ro P (.label l) Q a w:=by
 cases ro with
 |none=>exact wp_label h
 |some l=>exact fun n=>wpIn_label h
theorem xI{id:Nat}(h:Q (.exit id) a w):sM ro P (.exit id) Q a w:=by
 cases ro with
 |none=>exact wp_exit h
 |some l=>exact fun n=>wpIn_exit h
theorem yV(h:Q .ret a w):sM ro P .ret Q a w:=by
 cases ro with
 |none=>exact wp_ret h
 |some l=>exact fun n=>wpIn_ret h
theorem yW{x y:Code}(h:sM ro P x (Exit.then (sM ro P y Q) Q) a w):sM ro P (.seq x y) Q a w:=by
 cases ro with
 |none=>exact wp_seq h
 |some l=>exact fun n=>wpIn_seq (wpIn_mono (h n) fun e a w hq=>by cases e<;>first|exact hq n|exact hq)
theorem xH{c:Operand}{x y:Code}{t:Bool}(hc:a.eval c=.bool t)(h1:t=true->sM ro P x Q a w)(h2:t=false->sM ro P y Q a w):sM ro P (.cond c x y) Q a w:=by
 cases t with
 |true=>cases ro with
  |none=>exact wp_cond hc (h1 rfl)
  |some l=>exact fun n=>wpIn_cond hc (h1 rfl n)
 |false=>cases ro with
  |none=>exact wp_cond hc (h2 rfl)
  |some l=>exact fun n=>wpIn_cond hc (h2 rfl n)
theorem wL{id:Nat}{c:Code}(h:sM ro P c (Exit.inBlock id Q) a w):sM ro P (.block id c) Q a w:=by
 cases ro with
 |none=>exact wp_block h
 |some l=>exact fun n=>wpIn_block (h n)
theorem qj{c:Code}(I:Nat->Act->World->Prop)(n₀:Nat)(h₀:I n₀ a w)(round:∀n a w,I n a w->sM ro P c (Exit.then (fun a' w'=>∃n',n'<n/\I n' a' w') Q) a w):sM ro P (.loop c) Q a w:=by
 cases ro with
 |none=>exact wp_loop_ghost I n₀ h₀ round
 |some l=>exact fun n=>wpIn_loop_ghost I n₀ h₀ fun k a w hI=>round k a w hI n
theorem y9{l n:Nat}{row:String}{args:Array Value}{R:Value->World->Prop}(h:Rows P row args w R):RowsIn (Fence.wide.inRound l) n P row args w R:=fun c cs _=>by
 obtain⟨v,w',r,s⟩:=h c cs
 exact⟨v,w',r,by rw[fenced_inRound];exact stepsIn_wide.2 s⟩
theorem xF{l n:Nat}{f:FuncId}{args:Array Value}{R:Ending->World->Prop}(h:Calls P f args w R):CallsIn (Fence.wide.inRound l) n P f args w R:=CallsIn.inRound l (callsIn_wide.2 h)
theorem wr{l n:Nat}{o:Oper}{od:Act->World->Prop}(hd:dn o=true)(h:o.wp P a w od Q):o.wpIn (Fence.wide.inRound l) n P a w od Q:=by
 refine⟨fun _ _=>trivial,?_⟩
 have hs:o.semAt (Fence.wide.inRound l).round a.eval=execOp a.eval o:=Oper.semAt_eq _ _ _ fun c hc=>by unfold dn at hd;rw[hc]at hd;cases hd
 rw[hs]
 unfold Oper.wp at h
 generalize (execOp a.eval o).run P w=r at *
 have hdep:(Fence.wide.inRound l).depth.isSome=true->1<=n:=fun h=>by simp[Fence.wide]at h
 cases r with
 | ok x w' =>
  cases x<;>simp only[Oper.upon]at h<;>simp only[Oper.uponIn]<;>first
   |exact h.elim
   |exact h
   |exact⟨hdep,xF h⟩
   |exact⟨hdep,y9 h⟩
 |halt x w'=>cases x<;>simp only[Oper.upon]at h<;>simp only[Oper.uponIn]<;>exact h
theorem oh{l n:Nat}{ops:Array Oper}(hd:ops.toList.all dn=true)(hQ:¬LetsOut Q):∀(L:List Nat) (a:Act) (w:World),wpOps P ops Q L a w->wpOpsIn (Fence.wide.inRound l) n P ops Q L a w
 |[],a,w,h=>h
 | i :: rest,a,w,h => by
  unfold wpOps at h
  unfold wpOpsIn
  split at h
  ·rename_i ho;simp only[ho];exact oh hd hQ rest a w h
  ·rename_i o ho
   simp only[ho]
   have hn:dn o=true:=vao.1 hd o (by
    have:=vcl ho
    simpa using this)
   split at h
   ·rename_i hw
    rw[vav hw]
    rcases h with h|h
    ·exact Oper.wpIn_mono (fun a w h=>oh hd hQ rest a w h) (wr hn h)
    ·exact absurd h.2 hQ
   ·rename_i hw
    rw[vaw hw]
    exact⟨fun _ _=>trivial,oh hd hQ rest _ w h⟩
theorem y2{l n:Nat}{ops:Array Oper}(hd:ops.toList.all dn=true)(hQ:¬LetsOut Q){i:Nat}{K:Act->World->Prop}(h:wpOp P ops Q i K a w):wpOpIn (Fence.wide.inRound l) n P ops Q i K a w:=by
 unfold wpOp at h
 unfold wpOpIn
 split at h
 ·rename_i ho;simp only[ho];exact h
 ·rename_i o ho
  simp only[ho]
  have hn:dn o=true:=vao.1 hd o (by
   have:=vcl ho
   simpa using this)
  split at h
  ·rename_i hw
   rw[vav hw]
   rcases h with h|h
   ·exact wr hn h
   ·exact absurd h.2 hQ
  ·rename_i hw
   rw[vaw hw]
   exact⟨fun _ _=>trivial,h⟩
theorem tH{l n:Nat}{md:Region.Mode}{ops:Array Oper}(hd:ops.toList.all dn=true)(hQ:¬LetsOut Q):∀(fuel:Nat) (listed:Array Bool) (a:Act) (w:World),wpAny P md ops Q fuel listed a w->wpAnyIn (Fence.wide.inRound l) n P md ops Q fuel listed a w
 |0,_,_,_,h=>h
 |fuel+1,_,_,_,h=>⟨h.1,fun i hi=>wpOpIn_mono (fun a w h=>tH hd hQ fuel _ a w h) (y2 hd hQ (h.2 i hi))⟩
theorem qk{id:Nat}{ops:Array Oper}(hd:ops.toList.all dn=true)(hQ:¬LetsOut Q)(h:wpOps P ops Q (List.range ops.size) a w):sM ro P (.region id ops false) Q a w:=by
 cases ro with
 |none=>exact wp_region h
 |some l=>exact fun n=>wpIn_region (oh hd hQ _ _ _ h)
theorem lS{id:Nat}{ops:Array Oper}(hf:P.follows .mixedOrders=true)(hd:ops.toList.all dn=true)(hQ:¬LetsOut Q)
  (h:wpAny P .any ops Q ops.size (Array.replicate ops.size false) a {w with drawn:=w.drawn+1}):sM ro P (.region id ops true) Q a w:=by
 cases ro with
 |none=>exact wp_region_any hf h
 |some l=>exact fun n=>wpIn_region_any hf (tH hd hQ _ _ _ _ h)
end
section plain
variable{σ X:Type}
def ie(body:σ->Option (σ⊕X)):Nat->σ->Option X
 |0,_=>none
 |n+1,s=>match body s with
  |none=>none
  |some (.inl s')=>ie body n s'
  |some (.inr x)=>some x
theorem qE{body:σ->Option (σ⊕X)}:∀{n:Nat} {s:σ} {x:X},ie body n s=some x->∀k,ie body (n+k) s=some x
 |0,_,_,h,_=>by cases h
 | n + 1,s,x,h,k => by
  rw[Nat.add_right_comm]
  unfold ie at h ⊢
  split at h
  ·cases h
  ·exact qE h k
  ·exact h
theorem sa{body:σ->Option (σ⊕X)}{n m:Nat}{s:σ}{x y:X}(h1:ie body n s=some x)(h2:ie body m s=some y):x=y:=by
 have h3:=qE h1 m
 have h4:=qE h2 n
 rw[vcj]at h4
 exact va3 (h3.symm.trans h4)
open Classical in
def x6(body:σ->Option (σ⊕X))(s:σ):Option X:=if h:∃x n,ie body n s=some x then some h.choose else none
def B3:Nat:=2 ^ 200
def loop(body:σ->Option (σ⊕X))(s:σ):Option X:=match ie body B3 s with
 |some x=>some x
 |none=>x6 body s
theorem my{body:σ->Option (σ⊕X)}{s:σ}{x:X}:loop body s=some x↔∃n,ie body n s=some x:=by
 have hC:x6 body s=some x↔∃n,ie body n s=some x:=by
  unfold x6
  constructor
  ·intro h
   split at h
   ·rename_i he;cases h;exact he.choose_spec
   ·cases h
  ·rintro⟨n,h⟩
   have he:∃x n,ie body n s=some x:=⟨x,n,h⟩
   rw[dif_pos he]
   obtain⟨m,hm⟩:=he.choose_spec
   rw[sa hm h]
 unfold loop
 split
 ·rename_i y hy
  exact⟨fun h=>⟨B3,hy.trans h⟩,fun⟨n,h⟩=>vbh some (sa hy h)⟩
 ·exact hC
theorem qa(body:σ->Option (σ⊕X))(s:σ):loop body s=match body s with
  |none=>none
  |some (.inl s')=>loop body s'
  |some (.inr x)=>some x:=by
 have key:∀y,loop body s=some y↔(match body s with
  |none=>none
  |some (.inl s')=>loop body s'
  |some (.inr x)=>some x)=some y:=by
  intro y
  rw[my]
  constructor
  ·rintro⟨n,h⟩
   cases n with
   |zero=>cases h
   | succ n =>
    unfold ie at h
    cases hb:body s with
    |none=>rw[hb]at h;cases h
    |some v=>
     cases v with
     |inl s'=>rw[hb]at h;exact my.2 ⟨n,h⟩
     |inr x=>rw[hb]at h;exact h
  ·intro h
   cases hb:body s with
   |none=>rw[hb]at h;cases h
   | some v =>
    cases v with
    |inl s'=>
     rw[hb]at h
     obtain⟨n,hn⟩:=my.1 h
     exact⟨n+1,by unfold ie;rw[hb];exact hn⟩
    |inr x=>rw[hb]at h;exact⟨1,by unfold ie;rw[hb];exact h⟩
 cases h1:loop body s with
 | none =>
  cases h2:(match body s with
   |none=>none
   |some (.inl s')=>loop body s'
   |some (.inr x)=>some x)with
  |none=>rfl
  |some y=>rw[(key y).2 h2]at h1;cases h1
 |some y=>exact((key y).1 h1).symm
def g9{α:Type}(l:List α)(i:Int):Option α:=if 0<=i then l[i.toNat]? else none
theorem aF{α β:Type}{o:Option α}{k:α->Option β}{x:β}(h:o.bind k=some x):∃a,o=some a/\k a=some x:=by
 cases o with
 |none=>cases h
 |some a=>exact⟨a,rfl,h⟩
theorem bB{β:Type}{b:Bool}{x y:Option β}{z:β}(h:(if b=true then x else y)=some z):(b=true/\x=some z)\/(b=false/\y=some z):=by
 cases b
 ·exact .inr ⟨rfl,h⟩
 ·exact .inl ⟨rfl,h⟩
end plain
structure vT(GE:List (Nat×List PVal))(m:Nat)(E:jk):Prop where
 ge:E.GE=GE
 low:∀b n,E.Γ b=some n->b<E.w.heap.size
 nt:m=0->∀b,¬E.T b
 gl:∀g cs,(g,cs)∈GE->VR E.Γ [] E.w (.eptr cs) (.pointer (some ⟨g,0,none⟩))
def aL(P:Program)(GE:List (Nat×List PVal))(m:Nat)(c:Code)(Q:Exit->aj->Prop)(st:aj):Prop:=
 ∀(ro:Option Nat) (E:jk) (bs0:ax) (a:Act) (w:World),vT GE m E->bs0.length=m % 1000->tB P E bs0 st a w->sM ro P c (qe P E bs0 a.defers Q) a w
def EX(e:Exit)(st:aj):Exit->aj->Prop:=fun e' st'=>e'=e/\st'=st
def lu(P:Program)(m:Nat)(st st':aj):Prop:=∀(E:jk) (bs0:ax) (a:Act) (w:World),bs0.length=m % 1000->tB P E bs0 st a w->tB P E bs0 st' a w
section
variable{P:Program}{GE:List (Nat×List PVal)}{m:Nat}
theorem lu.refl(st:aj):lu P m st st:=fun _ _ _ _ _ h=>h
theorem lu.trans{a b c:aj}(h:lu P m a b)(h':lu P m b c):lu P m a c:=fun E bs0 x w hb h0=>h' E bs0 x w hb (h E bs0 x w hb h0)
theorem lu.of_less{st st':aj}(h:Ar st st')(hm:m % 1000<=st'.boxes.length):lu P m st st':=fun _ _ _ _ hb hR=>hR.less h (by rw[hb];exact hm)
theorem aL.mono{c:Code}{Q Q':Exit->aj->Prop}{st:aj}(h:aL P GE m c Q st)(hq:∀e st,Q e st->∃st',lu P m st st'/\Q' e st'):aL P GE m c Q' st:=
 fun ro E bs0 a w hE hb hR=>gU (h ro E bs0 a w hE hb hR) fun e a' w' hP=>by
  obtain⟨hd,st1,hR1,hQ⟩:=hP
  obtain⟨st2,hw,hQ2⟩:=hq e st1 hQ
  exact⟨hd,st2,hw E bs0 a' w' hb hR1,hQ2⟩
theorem aL.imp{c:Code}{Q Q':Exit->aj->Prop}{st:aj}(h:aL P GE m c Q st)(hq:∀e st,Q e st->Q' e st):aL P GE m c Q' st:=h.mono fun e st hQ=>⟨st,.refl st,hq e st hQ⟩
theorem aL.weak{c:Code}{Q:Exit->aj->Prop}{st st':aj}(hw:lu P m st st')(h:aL P GE m c Q st'):aL P GE m c Q st:=
 fun ro E bs0 a w hE hb hR=>h ro E bs0 a w hE hb (hw E bs0 a w hb hR)
theorem aL.skip{Q:Exit->aj->Prop}{st:aj}(h:Q .normal st):aL P GE m .skip Q st:=fun _ _ _ _ _ _ _ hR=>xJ ⟨rfl,st,hR,h⟩
theorem aL.label{l:Nat}{Q:Exit->aj->Prop}{st:aj}(h:Q .normal st):aL P GE m (.label l) Q st:=fun _ _ _ _ _ _ _ hR=>wM ⟨rfl,st,hR,h⟩
theorem aL.exit{id:Nat}{Q:Exit->aj->Prop}{st:aj}(h:Q (.exit id) st):aL P GE m (.exit id) Q st:=fun _ _ _ _ _ _ _ hR=>xI ⟨rfl,st,hR,h⟩
theorem aL.ret{Q:Exit->aj->Prop}{st:aj}(h:Q .ret st):aL P GE m .ret Q st:=fun _ _ _ _ _ _ _ hR=>yV ⟨rfl,st,hR,h⟩
theorem aL.seq{x y:Code}{Q:Exit->aj->Prop}{st:aj}(h:aL P GE m x (fun e st'=>match e with|.normal=>aL P GE m y Q st'|e=>Q e st') st):aL P GE m (.seq x y) Q st:=by
 intro ro E bs0 a w hE hb hR
 refine yW (gU (h ro E bs0 a w hE hb hR) fun e a' w' hq=>?_)
 obtain⟨hd,st',hR',hq⟩:=hq
 cases e with
 |normal=>
  have:=hq ro E bs0 a' w' hE hb hR'
  rw[hd]at this
  exact this
 |exit id=>exact⟨hd,st',hR',hq⟩
 |goto l=>exact⟨hd,st',hR',hq⟩
 |ret=>exact⟨hd,st',hR',hq⟩
 |panic c=>exact⟨hd,st',hR',hq⟩
 |outgrown=>exact⟨hd,st',hR',hq⟩
theorem aL.cond{c:Operand}{x y:Code}{Q:Exit->aj->Prop}{st:aj}{t:Bool}(hv:opv GE st.tmps c=.bool t)(h1:t=true->aL P GE m x Q st)(h2:t=false->aL P GE m y Q st):aL P GE m (.cond c x y) Q st:=by
 intro ro E bs0 a w hE hb hR
 obtain⟨Γ,bs,ow,h,hk⟩:=hR
 have hv':=h.opv a.defers c
 rw[hE.ge,hv]at hv'
 generalize hc:(Act.mk a.tmps a.defers).eval c=vc at hv'
 cases hv'
 exact xH (t:=t) hc (fun ht=>h1 ht ro E bs0 a w hE hb ⟨Γ,bs,ow,h,hk⟩) (fun ht=>h2 ht ro E bs0 a w hE hb ⟨Γ,bs,ow,h,hk⟩)
theorem aL.block{id:Nat}{c:Code}{Q:Exit->aj->Prop}{st:aj}(h:aL P GE m c (uQ id Q) st):aL P GE m (.block id c) Q st:=by
 intro ro E bs0 a w hE hb hR
 refine wL (gU (h ro E bs0 a w hE hb hR) fun e a' w' hq=>?_)
 obtain⟨hd,st',hR',hq⟩:=hq
 cases e with
 | exit id' =>
  simp only[uQ]at hq
  simp only[Exit.inBlock]
  split at hq
  ·rename_i hid;rw[vav hid];exact⟨hd,st',hR',hq⟩
  ·rename_i hid;rw[vaw hid];exact⟨hd,st',hR',hq⟩
 |normal=>exact⟨hd,st',hR',hq⟩
 |goto l=>exact⟨hd,st',hR',hq⟩
 |ret=>exact⟨hd,st',hR',hq⟩
 |panic c=>exact⟨hd,st',hR',hq⟩
 |outgrown=>exact⟨hd,st',hR',hq⟩
theorem aL.text{A:List Nat}{id:Nat}{ops:Array Oper}{Q:Exit->aj->Prop}{st:aj}(hd:ops.toList.all dn=true)
  (h:b5 P GE A ops (Q .normal) ops.toList st.boxes.length {st with boxes:=st.boxes++bZ P ops.toList}):aL P GE m (.region id ops false) Q st:=by
 intro ro E bs0 a w hE hb hR
 obtain⟨rfl,_,_,_⟩:=hE
 refine gU (qk (Q:=fun e a' w'=>e=.normal/\qe P E bs0 a.defers Q .normal a' w') hd (by rintro⟨_,_,h,_⟩;cases h) ?_) fun e a' w' hq=>by obtain⟨rfl,hq⟩:=hq;exact hq
 exact mZ hR hR.len (fun a' w' st' hd hR' hK=>⟨rfl,hd,st',hR',hK⟩) h
def LQ{σ X:Type}(S:σ->aj)(ex:X->Exit)(so:X->aj):σ⊕X->Exit->aj->Prop
 |.inl s,e,st=>e=.normal/\st=S s
 |.inr x,e,st=>e≠.normal/\e=ex x/\st=so x
theorem aL.loop{σ X:Type}{S:σ->aj}{ex:X->Exit}{so:X->aj}{body:σ->Option (σ⊕X)}{c:Code}{s:σ}{x:X}(h:loop body s=some x)
  (hb:∀s y,body s=some y->aL P GE m c (LQ S ex so y) (S s)):aL P GE m (.loop c) (EX (ex x) (so x)) (S s):=by
 obtain⟨n,hn⟩:=my.1 h
 intro ro E bs0 a w hE hb0 hR
 refine qj (fun k a' w'=>a'.defers=a.defers/\∃s',tB P E bs0 (S s') a' w'/\ie body k s'=some x) n ⟨rfl,s,hR,hn⟩ ?_
 intro k a1 w1 hI
 obtain⟨hd1,s1,hR1,hl⟩:=hI
 cases k with
 |zero=>cases hl
 | succ k =>
  unfold ie at hl
  split at hl
  ·cases hl
  ·rename_i s2 hs2
   refine gU (hb s1 _ hs2 ro E bs0 a1 w1 hE hb0 hR1) fun e a' w' hq=>?_
   obtain⟨hd,st',hR',rfl,rfl⟩:=hq
   exact⟨k,vbR k,hd.trans hd1,s2,hR',hl⟩
  ·rename_i x2 hs2
   cases hl
   refine gU (hb s1 _ hs2 ro E bs0 a1 w1 hE hb0 hR1) fun e a' w' hq=>?_
   obtain⟨hd,st',hR',hne,rfl,rfl⟩:=hq
   have hd':=hd.trans hd1
   cases hex:ex x with
   |normal=>exact absurd hex hne
   |exit id=>exact⟨hd',_,hR',rfl,rfl⟩
   |goto l=>exact⟨hd',_,hR',rfl,rfl⟩
   |ret=>exact⟨hd',_,hR',rfl,rfl⟩
   |panic c=>exact⟨hd',_,hR',rfl,rfl⟩
   |outgrown=>exact⟨hd',_,hR',rfl,rfl⟩
def sR:List PVal->List PVal->List PVal
 |[],_=>[]
 |_::ps,[]=>.undef::sR ps []
 |_::ps,.undef::qs=>.undef::sR ps qs
 |p::ps,_::qs=>p::sR ps qs
def rr:ag->ag->ag
 |_,.dead=>.dead
 |.cells cs own,.cells _ own'=>.cells cs (match own'.all fun x=>decide (x∈own)with
  |true=>own'
  |false=>own)
 |p,_=>p
def tD:List ag->List ag->List ag
 |[],_=>[]
 |p::ps,[]=>p::tD ps []
 |p::ps,q::qs=>rr p q::tD ps qs
def BP(B B':ag):Prop:=B=.dead\/B=B'\/∃cs own own',B'=.cells cs own/\B=.cells cs own'/\∀x∈own',x∈own
theorem wb(p q:ag):BP (rr p q) p:=by
 unfold rr
 split
 ·exact .inl rfl
 ·split
  ·rename_i h
   exact .inr (.inr ⟨_,_,_,rfl,rfl,fun x hx=>by simpa using vao.1 h x hx⟩)
  ·exact .inr (.inl rfl)
 ·exact .inr (.inl rfl)
theorem tV(p:PVal)(ps qs:List PVal):∃q r,sR (p::ps) qs=q::sR ps r/\(q=.undef\/q=p):=by
 cases qs with
 |nil=>exact⟨_,[],by simp[sR],.inl rfl⟩
 |cons q qs=>cases q<;>first|(refine⟨p,qs,?_,.inr rfl⟩;simp only[sR];done)|(refine⟨.undef,qs,?_,.inl rfl⟩;simp only[sR];done)
theorem wc:∀{l bs:List PVal} {i:Nat} {p:PVal},(sR l bs)[i]? =some p->p=.undef\/l[i]? =some p
 |[],bs,i,p,h=>by simp[sR]at h
 |q::l,bs,i,p,h=>by
  obtain⟨q',r,h1,h2⟩:=tV q l bs
  rw[h1]at h
  cases i with
  |zero=>simp at h;subst h;rcases h2 with h2|h2<;>simp[h2]
  |succ i=>simpa using wc (by simpa using h)
theorem wd:∀{l bs:List PVal},(sR l bs).length=l.length
 |[],bs=>by simp[sR]
 |q::l,bs=>by obtain⟨q',r,h1,h2⟩:=tV q l bs;rw[h1];simp[wd]
theorem pZ:∀{l bs:List ag} {i:Nat} {B:ag},(tD l bs)[i]? =some B->∃B',l[i]? =some B'/\BP B B'
 |[],bs,i,p,h=>by simp[tD]at h
 |q::l,[],i,B,h=>by
  simp only[tD]at h
  cases i with
  |zero=>simp at h;subst h;exact⟨q,rfl,.inr (.inl rfl)⟩
  |succ i=>simpa using pZ (by simpa using h)
 |q::l,r::bs,i,B,h=>by
  simp only[tD]at h
  cases i with
  |zero=>simp at h;subst h;exact⟨q,rfl,wb q r⟩
  |succ i=>simpa using pZ (by simpa using h)
theorem sQ:∀{l bs:List ag},(tD l bs).length=l.length
 |[],bs=>by simp[tD]
 |q::l,[]=>by simp only[tD,va5,sQ]
 |q::l,r::bs=>by simp only[tD,va5,sQ]
theorem lu.forget{st:aj}(bt:List PVal)(bb:List ag)(own:List ((Nat×Nat)×TypeId))(ho:∀x∈own,x∈st.own):lu P m st ⟨sR st.tmps bt,tD st.boxes bb,own⟩:=by
 intro E bs0 a w hb hR
 obtain⟨Γ,bs,ow,h,hk⟩:=hR
 refine⟨Γ,bs,ow,?_,hk⟩
 exact{h with
  sz:=by rw[h.sz];exact wd.symm
  tm:=fun t p v hp hv=>by
   rcases wc hp with rfl|hp'
   ·exact .undef v
   ·exact h.tm t p v hp' hv
  bl:=by rw[h.bl];exact sQ.symm
  bx:=fun i b B hib hB=>by
   obtain⟨B',hB',hx⟩:=pZ hB
   obtain⟨k1,k2,k3⟩:=h.bx i b B' hib hB'
   rcases hx with rfl|rfl|⟨cs,own,own',rfl,rfl,_⟩
   ·exact⟨k1,k2,trivial⟩
   ·exact⟨k1,k2,k3⟩
   ·exact⟨k1,k2,k3⟩
  ot:=fun t k e he=>h.ot t k e (ho _ he)
  ob:=fun i j e cs own' b hB hj hib=>by
   obtain⟨B',hB',hx⟩:=pZ hB
   rcases hx with hx|rfl|⟨cs1,own1,own2,rfl,e2,hs⟩
   ·cases hx
   ·exact h.ob i j e cs own' b hB' hj hib
   ·cases e2;exact h.ob i j e _ own1 b hB' (hs _ hj) hib}
theorem EX.of{c:Code}{e:Exit}{st st0:aj}{Q:Exit->aj->Prop}(h:aL P GE m c (EX e st0) st)(hq:Q e st0):aL P GE m c Q st:=
 h.imp fun e' st' hx=>by obtain⟨rfl,rfl⟩:=hx;exact hq
end
structure GC where
 ρ:List Nat
 argsC:List PVal
 oa:List OA
 Bs:List ag
 Hc:List ag
 Bs':List ag
 Hc':List ag
 r:PVal
 rc:PVal
 ro:List (Nat×TypeId)
inductive It where
 |cg (c:GC)
 |ar (i:Nat) (e:TypeId) (n:Nat) (cs:List PVal)
 |fz (i:Nat) (es:List (List PVal)) (lv rk:List Nat)
 |g (j:Nat) (b:Bool)
 |k
 |s
 |v (p:PVal)
 |x (cs:List PVal)
 |w (i:Nat) (B:ag)
 |c (r:PVal) (ro:List (Nat×TypeId))
 |dr (an:List Nat)
 |dx (an:List Nat) (X:List ag) (br:List (Nat×Nat)) (rw:List Nat)
 |pa (n:Nat)
 |pc (st0:aj) (e:Exit) (st1:aj)
 |b (p:PVal) (L:List (Nat×TypeId))
 |y (vs:List PVal)
 |z (l:List PVal)
 |e (vs:List PVal)
def jN:List PVal->Nat->(PVal->Prop)->Prop
 |[],_,k=>k .undef
 |p::_,0,k=>k p
 |_::l,n+1,k=>jN l n k
theorem dm:∀(l:List PVal) (n:Nat) (k:PVal->Prop),jN l n k=k (l.getD n .undef)
 |[],_,_=>by simp[jN]
 |_::_,0,_=>by simp[jN]
 |_::l,n+1,k=>by simp only[jN,dm l n k,List.getD_cons_succ]
def cD{α:Type}:List α->Nat->α->(List α->Prop)->Prop
 |[],_,_,k=>k []
 |_::l,0,v,k=>k (v::l)
 |x::l,n+1,v,k=>cD l n v fun l'=>k (x::l')
theorem aw{α:Type}:∀(l:List α) (n:Nat) (v:α) (k:List α->Prop),cD l n v k=k (l.set n v)
 |[],_,_,_=>by simp[cD]
 |_::_,0,_,_=>by simp[cD]
 |x::l,n+1,v,k=>by simp only[cD,aw l n v,List.set_cons_succ]
def av{α:Type}:List α->(List α->Prop)->Prop
 |[],k=>k []
 |x::l,k=>av l fun l'=>k (x::l')
def rh(l:List ag)(r:List ag)(k:List ag->Prop):Prop:=av (l++r) k
theorem ai{α:Type}:∀(l:List α) (k:List α->Prop),av l k=k l
 |[],_=>rfl
 |x::l,k=>by simp only[av,ai l]
def zA:Value->(PVal->Prop)->Prop
 |.int a n,k=>k (.int a n)
 |.bool b,k=>k (.bool b)
 |.string s,k=>av s.data.toList fun l=>k (.str l)
 |v,k=>k (absV v)
theorem yM(v:Value)(k:PVal->Prop):zA v k=k (absV v):=by
 unfold zA
 split
 ·rfl
 ·rfl
 ·rw[ai];rfl
 ·rfl
def fL(GE:List (Nat×List PVal))(tmps:List PVal)(x:Operand)(k:PVal->Prop):Prop:=
 match x with
 |.tmp t=>jN tmps t k
 |.const v=>zA v k
 |x=>k (opv GE tmps x)
theorem aC(GE:List (Nat×List PVal))(tmps:List PVal)(x:Operand)(k:PVal->Prop):fL GE tmps x k=k (opv GE tmps x):=by
 cases x with
 |tmp t=>exact dm _ _ _
 |const v=>exact yM _ _
 |global g=>rfl
 |func f=>rfl
def rA(GE:List (Nat×List PVal))(tmps:List PVal):List Operand->(List PVal->Prop)->Prop
 |[],k=>k []
 |x::l,k=>fL GE tmps x fun p=>rA GE tmps l fun ps=>k (p::ps)
theorem iz(GE:List (Nat×List PVal))(tmps:List PVal):∀(l:List Operand) (k:List PVal->Prop),rA GE tmps l k=k (l.map (opv GE tmps))
 |[],_=>rfl
 |x::l,k=>by simp only[rA,aC,iz GE tmps l,vaX]
def jS(GE:List (Nat×List PVal))(tmps:List PVal):List (Nat×Operand)->(List (Nat×PVal)->Prop)->Prop
 |[],k=>k []
 |x::l,k=>fL GE tmps x.2 fun p=>jS GE tmps l fun ps=>k ((x.1,p)::ps)
theorem fB(GE:List (Nat×List PVal))(tmps:List PVal):∀(l:List (Nat×Operand)) (k:List (Nat×PVal)->Prop),jS GE tmps l k=k (l.map fun x=>(x.1,opv GE tmps x.2))
 |[],_=>rfl
 |x::l,k=>by simp only[jS,aC,fB GE tmps l,vaX]
def y3(GE:List (Nat×List PVal))(tmps:List PVal):Option Operand->(Option PVal->Prop)->Prop
 |none,k=>k none
 |some x,k=>fL GE tmps x fun p=>k (some p)
theorem y4(GE:List (Nat×List PVal))(tmps:List PVal)(o:Option Operand)(k:Option PVal->Prop):y3 GE tmps o k=k (o.map (opv GE tmps)):=by
 cases o with
 |none=>rfl
 |some x=>simp only[y3,aC,vag]
def nz(sc:List It)(f:PVal->Prop)(K:PVal->List It->Prop):Prop:=
 match sc with
 |.v p::sc'=>f p/\K p sc'
 |_=>False
def ru(o:Option PVal)(K:PVal->Prop):Prop:=
 match o with
 |some p=>K p
 |none=>False
theorem jE{o:Option PVal}{K:PVal->Prop}(h:ru o K):∃p,o=some p/\K p:=by
 unfold ru at h
 split at h
 ·exact⟨_,rfl,h⟩
 ·exact h.elim
theorem eU{sc:List It}{f:PVal->Prop}{K:PVal->List It->Prop}(h:nz sc f K):∃p sc',f p/\K p sc':=by
 unfold nz at h
 split at h
 ·exact⟨_,_,h⟩
 ·exact h.elim
def CC(P:Program)(GE:List (Nat×List PVal))(g:FuncId)(args:List PVal)(r:PVal)(ro:List (Nat×TypeId)):Prop:=gC 0 args/\C P GE g args [] [] r ro []
def qP(P:Program)(t:TypeId)(es:List (PVal×PVal))(k:PVal)(ok:Bool):Option PVal:=
 match P.underlying t with
 | some (.map kt e) => match P.underlying kt with
  | some kd =>
   if fe kd k then
    match l9 k es 0,po P e with
    |some (some (_,v)),_=>some (if ok then .tuple [v,.bool true]else v)
    |some none,some z=>some (if ok then .tuple [z,.bool false]else z)
    |_,_=>none
   else none
  |_=>none
 |_=>none
theorem w9{P:Program}{t:TypeId}{es:List (PVal×PVal)}{k p:PVal}{ok:Bool}{H:List ag}{i:Nat}(hB:H[i]? =some (.map es))(h:qP P t es k ok=some p):jH P t (.mapr i) k ok H=some p:=by
 unfold qP at h
 unfold jH
 split at h
 ·rename_i kt e hu
  split at h
  ·rename_i kd hk
   simp only[hu,hB,hk]
   exact h
  ·cases h
 ·cases h
def sn(P:Program)(t:TypeId)(es:List (PVal×PVal))(k v:PVal):Option (List (PVal×PVal)):=
 match P.underlying t with
 | some (.map kt _) => match P.underlying kt with
  | some kd =>
   if fe kd k then
    match l9 k es 0 with
    |some (some (j,_))=>some (es.set j (k,v))
    |some none=>some (es++[(k,v)])
    |none=>none
   else none
  |_=>none
 |_=>none
theorem uo{P:Program}{t:TypeId}{es es':List (PVal×PVal)}{k v:PVal}{H:List ag}{i:Nat}(hB:H[i]? =some (.map es))(h:sn P t es k v=some es'):cU P t (.mapr i) k v H=some (H.set i (.map es')):=by
 unfold sn at h
 unfold cU
 split at h
 ·rename_i kt e hu
  split at h
  ·rename_i kd hk
   simp only[hu,hB,hk]
   split at h
   ·rename_i hkk
    rw[vav hkk]
    split at h
    ·rename_i hf;cases h;simp[hf]
    ·rename_i hf;cases h;simp[hf]
    ·cases h
   ·cases h
  ·cases h
 ·cases h
def eD:List ag->Nat->(ag->Prop)->Prop
 |[],_,_=>False
 |B::_,0,k=>k B
 |_::l,n+1,k=>eD l n k
theorem bw:∀{l:List ag} {n:Nat} {k:ag->Prop},eD l n k->∃B,l[n]? =some B/\k B
 |[],_,_,h=>h.elim
 |B::_,0,_,h=>⟨B,rfl,h⟩
 |_::l,n+1,k,h=>by simp only[eD]at h;obtain⟨B,h1,h2⟩:=bw h;exact⟨B,by simpa using h1,h2⟩
def wU(op:BinOp)(x:PVal):Bool:=match op,x with
 |.quo,_=>true
 |.rem,_=>true
 |.add,.str _=>true
 |_,.agg _=>true
 |_,_=>false
def wa(P:Program)(GE:List (Nat×List PVal))(op:Op)(tmps:List PVal)(H:List ag)(sc:List It)(K:PVal->List ag->List It->Prop):Prop:=
 match op with
 |.move x=>fL GE tmps x fun p=>K p H sc
 |.assign x=>fL GE tmps x fun p=>K p H sc
 |.pick c x y=>fL GE tmps c fun pc=>match pc with
  |.bool true=>fL GE tmps x fun p=>K p H sc
  |.bool false=>fL GE tmps y fun p=>K p H sc
  |_=>False
 |.binOp op T x y _=>fL GE tmps x fun vx=>fL GE tmps y fun vy=>match wU op vx with
  |true=>nz sc (fun p=>ui P op T vx vy=some p) fun p sc'=>K p H sc'
  |false=>ru (ui P op T vx vy) fun p=>K p H sc
 |.unOp op _ x=>fL GE tmps x fun vx=>ru (Ba op vx) fun p=>K p H sc
 |.convert s d x=>fL GE tmps x fun vx=>nz sc (fun p=>ww P s d vx=some p) fun p sc'=>K p H sc'
 |.extract t i=>fL GE tmps t fun vt=>ru (iU vt i) fun p=>K p H sc
 |.nilCheck x=>fL GE tmps x fun vx=>match vx with
  |.eptr cs=>K (.eptr cs) H sc
  |.bptr i off=>K (.bptr i off) H sc
  |.func (.func f) first cap=>K (.func (.func f) first cap) H sc
  |_=>False
 |.makeFunc fn first cap=>rA GE tmps first.toList fun f=>rA GE tmps cap.toList fun c=>K (.func fn f c) H sc
 | .load t x => fL GE tmps x fun vx => match vx with
  |.eptr cs=>nz sc (fun p=>aU P t cs=some p) fun p sc'=>K p H sc'
  | .bptr i off => eD H i fun B => match B with
   |.cells cs _=>match sc with
    |.s::sc'=>ru (aU P t (cs.drop off)) fun p=>K p H sc'
    |.v p::sc'=>aU P t (cs.drop off)=some p/\K p H sc'
    |_=>False
   |_=>False
  |_=>False
 | .store t x y => fL GE tmps x fun vx => fL GE tmps y fun vy => match vx,sc with
  | .bptr i off,.s :: sc' => match bo vy with
   | some vs => eD H i fun B => match B with
    |.cells cs own=>match decide (vs.length=P.cellsOf t)&&(P.info? t).isSome&&decide (off+vs.length<=cs.length)&&vs.all PVal.one with
     |true=>av (cs.take off++vs++cs.drop (off+vs.length)) fun cs'=>cD H i (.cells cs' (own.filter fun y=>y.1<off||off+vs.length<=y.1)) fun H'=>K (.val undef) H' sc'
     |false=>False
    |_=>False
   |none=>False
  | .bptr i off,.x vs :: sc' => bo vy = some vs∧(eD H i fun B => match B with
    |.cells cs own=>match decide (vs.length=P.cellsOf t)&&(P.info? t).isSome&&decide (off+vs.length<=cs.length)&&vs.all PVal.one with
     |true=>av (cs.take off++vs++cs.drop (off+vs.length)) fun cs'=>cD H i (.cells cs' (own.filter fun y=>y.1<off||off+vs.length<=y.1)) fun H'=>K (.val undef) H' sc'
     |false=>False
    |_=>False)
  |.bptr i off,.w _ (.cells cs' own')::sc'=>eD H i fun B=>(bg P t (.bptr 0 off) vy [B]=some [.cells cs' own'])/\cD H i (.cells cs' own') fun H'=>K (.val undef) H' sc'
  |_,_=>False
 |.fieldAddr s x f=>fL GE tmps x fun vx=>match vx with
  |.bptr i off=>ru (cT P s (.bptr i off) f) fun p=>K p H sc
  |vx=>nz sc (fun p=>cT P s vx f=some p) fun p sc'=>K p H sc'
 |.field t x f=>fL GE tmps x fun vx=>nz sc (fun p=>tc P t vx f=some p) fun p sc'=>K p H sc'
 |.indexAddr t x i=>fL GE tmps x fun vx=>fL GE tmps i fun vi=>nz sc (fun p=>ck P t vx vi=some p) fun p sc'=>K p H sc'
 |.index t x i=>fL GE tmps x fun vx=>fL GE tmps i fun vi=>nz sc (fun p=>kW P t vx vi=some p) fun p sc'=>K p H sc'
 | .lookup t m k ok => fL GE tmps m fun vm => fL GE tmps k fun vk => match vm with
  |.mapr i=>eD H i fun B=>match B with
   |.map es=>nz sc (fun p=>qP P t es vk ok=some p) fun p sc'=>K p H sc'
   |_=>False
  |_=>False
 | .mapUpdate t m k x => fL GE tmps m fun vm => fL GE tmps k fun vk => fL GE tmps x fun vx => match vm,sc with
  |.mapr i,.w _ (.map es')::sc'=>eD H i fun B=>match B with
   |.map es=>sn P t es vk vx=some es'/\cD H i (.map es') fun H'=>K (.val undef) H' sc'
   |_=>False
  |_,_=>False
 |.slice t x lo hi none=>fL GE tmps x fun vx=>y3 GE tmps lo fun vl=>y3 GE tmps hi fun vh=>nz sc (fun p=>pn P t vx vl vh none=some p) fun p sc'=>K p H sc'
 |.build t parts=>jS GE tmps parts.toList fun ps=>nz sc (fun p=>dY P t ps=some p) fun p sc'=>K p H sc'
 |.buildSlice t len parts=>jS GE tmps parts.toList fun ps=>nz sc (fun p=>co P t len ps=some p) fun p sc'=>K p H sc'
 | .call { callee := .builtin .len,args:=⟨[x]⟩,argTypes:=⟨[t]⟩ } => fL GE tmps x fun vx => match vx with
  |.mapr i=>eD H i fun B=>match B with
   |.map es=>nz sc (fun p=>p=.int .i64 es.length/\(P.underlying t).any (fun d=>match d with|.map _ _=>true|_=>false)=true) fun p sc'=>K p H sc'
   |_=>False
  |vx=>nz sc (fun p=>∀H,nw P t vx H=some p) fun p sc'=>K p H sc'
 |.call {callee:=.builtin .max,args:=⟨x::r⟩,..}=>fL GE tmps x fun vx=>rA GE tmps r fun vr=>ru (pF wx vx vr) fun p=>K p H sc
 |.call {callee:=.builtin .min,args:=⟨x::r⟩,..}=>fL GE tmps x fun vx=>rA GE tmps r fun vr=>ru (pF wy vx vr) fun p=>K p H sc
 |_=>False
section
variable{P:Program}{GE:List (Nat×List PVal)}
theorem xe{t:TypeId}{off i:Nat}{y:PVal}{H:List ag}{B:ag}{cs':List PVal}{own':List (Nat×TypeId)}(hB:H[i]? =some B)(h:bg P t (.bptr 0 off) y [B]=some [.cells cs' own']):bg P t (.bptr i off) y H=some (H.set i (.cells cs' own')):=by
 unfold bg at h ⊢
 split at h
 ·rename_i i' off' vs h1 h2
  cases h1
  simp only[h2]
  change (match(some B:Option ag)with|some (.cells cs own)=>_|_=>none)=_ at h
  rw[hB]
  split at h
  ·rename_i hb
   cases hb
   simp only
   split at h
   ·rename_i hc
    rw[vav hc]
    simp only[List.set_cons_zero,vaq,vbD,vcD]at h
    rw[h]
   ·cases h
  ·cases h
 ·cases h
theorem yh(t:TypeId)(id:Nat)(v:Operand->PVal)(x:Operand)(H:List ag):gZ P (.load t x) id v H=(eV P t (v x) H).map fun p=>(p,H):=rfl
theorem pz{op:Op}{id:Nat}{tmps:List PVal}{H:List ag}{sc:List It}{K:PVal->List ag->List It->Prop}(h:wa P GE op tmps H sc K):∃p H' sc',gZ P op id (opv GE tmps) H=some (p,H')/\K p H' sc'/\H'.length=H.length:=by
 unfold wa at h
 split at h
 case h_1=>rw[aC]at h;exact⟨_,_,_,rfl,h,rfl⟩
 case h_2=>rw[aC]at h;exact⟨_,_,_,rfl,h,rfl⟩
 case h_3 c x y=>
  rw[aC]at h
  split at h
  ·rename_i hc;rw[aC]at h;exact⟨_,_,_,by simp only[gZ,hc],h,rfl⟩
  ·rename_i hc;rw[aC]at h;exact⟨_,_,_,by simp only[gZ,hc],h,rfl⟩
  ·exact h.elim
 case h_4=>
  simp only[aC]at h
  split at h
  ·obtain⟨p,sc',h1,h2⟩:=eU h;exact⟨p,_,sc',by simp only[gZ,h1,vag],h2,rfl⟩
  ·obtain⟨p,h1,h2⟩:=jE h;exact⟨p,_,_,by simp only[gZ,h1,vag],h2,rfl⟩
 case h_5=>simp only[aC]at h;obtain⟨p,h1,h2⟩:=jE h;exact⟨p,_,_,by simp only[gZ,h1,vag],h2,rfl⟩
 case h_6=>simp only[aC]at h;obtain⟨p,sc',h1,h2⟩:=eU h;exact⟨p,_,sc',by simp only[gZ,h1,vag],h2,rfl⟩
 case h_7=>simp only[aC]at h;obtain⟨p,h1,h2⟩:=jE h;exact⟨p,_,_,by simp only[gZ,h1,vag],h2,rfl⟩
 case h_8=>
  simp only[aC]at h
  split at h
  ·rename_i hv;exact⟨_,_,_,by simp only[gZ,hv],h,rfl⟩
  ·rename_i hv;exact⟨_,_,_,by simp only[gZ,hv],h,rfl⟩
  ·rename_i hv;exact⟨_,_,_,by simp only[gZ,hv],h,rfl⟩
  ·exact h.elim
 case h_9=>simp only[iz]at h;exact⟨_,_,_,rfl,h,rfl⟩
 case h_10 t x=>
  simp only[aC]at h
  rw[yh]
  split at h
  ·rename_i cs hv
   obtain⟨p,sc',h1,h2⟩:=eU h
   exact⟨p,_,sc',by simp only[hv,eV,h1,vag],h2,rfl⟩
  ·rename_i i off hv
   obtain⟨B,hB,h⟩:=bw h
   split at h
   ·rename_i cs own
    split at h
    ·obtain⟨p,h1,h2⟩:=jE h
     exact⟨p,_,_,by simp only[hv,eV,hB,h1,vag],h2,rfl⟩
    ·exact⟨_,_,_,by simp only[hv,eV,hB,h.1,vag],h.2,rfl⟩
    ·exact h.elim
   ·exact h.elim
  ·exact h.elim
 case h_11 t x y=>
  simp only[aC]at h
  split at h
  ·rename_i i off sc' hv
   split at h
   ·rename_i vs hvs
    obtain⟨B,hB,h⟩:=bw h
    split at h
    ·rename_i cs own
     split at h
     ·rename_i hc
      simp only[ai,aw]at h
      simp only[vac,vah]at hc
      exact⟨_,_,_,by simp only[gZ,bg,hv,hvs,hB];rw[vav ⟨hc.1.1.1,hc.1.1.2,hc.1.2,hc.2⟩];rfl,h,by simp⟩
     ·exact h.elim
    ·exact h.elim
   ·exact h.elim
  ·rename_i i off vs sc' hv
   obtain⟨hvs,h⟩:=h
   obtain⟨B,hB,h⟩:=bw h
   split at h
   ·rename_i cs own
    split at h
    ·rename_i hc
     simp only[ai,aw]at h
     simp only[vac,vah]at hc
     exact⟨_,_,_,by simp only[gZ,bg,hv,hvs,hB];rw[vav ⟨hc.1.1.1,hc.1.1.2,hc.1.2,hc.2⟩];rfl,h,by simp⟩
    ·exact h.elim
   ·exact h.elim
  ·rename_i i off j cs' own' sc' hv
   obtain⟨B,hB,h1,h2⟩:=bw h
   rw[aw]at h2
   exact⟨_,_,_,by simp only[gZ,hv,xe hB h1];rfl,h2,by simp⟩
  ·exact h.elim
 case h_12=>
  simp only[aC]at h
  split at h
  ·rename_i hv
   obtain⟨p,h1,h2⟩:=jE h;exact⟨p,_,_,by simp only[gZ,hv,h1,vag],h2,rfl⟩
  ·obtain⟨p,sc',h1,h2⟩:=eU h;exact⟨p,_,sc',by simp only[gZ,h1,vag],h2,rfl⟩
 case h_13=>simp only[aC]at h;obtain⟨p,sc',h1,h2⟩:=eU h;exact⟨p,_,sc',by simp only[gZ,h1,vag],h2,rfl⟩
 case h_14=>simp only[aC]at h;obtain⟨p,sc',h1,h2⟩:=eU h;exact⟨p,_,sc',by simp only[gZ,h1,vag],h2,rfl⟩
 case h_15=>simp only[aC]at h;obtain⟨p,sc',h1,h2⟩:=eU h;exact⟨p,_,sc',by simp only[gZ,h1,vag],h2,rfl⟩
 case h_16 t m k ok=>
  simp only[aC]at h
  split at h
  ·rename_i i hv
   obtain⟨B,hB,h⟩:=bw h
   split at h
   ·rename_i es
    obtain⟨p,sc',h1,h2⟩:=eU h
    exact⟨p,_,sc',by simp only[gZ,hv,w9 hB h1,vag],h2,rfl⟩
   ·exact h.elim
  ·exact h.elim
 case h_17 t m k x=>
  simp only[aC]at h
  split at h
  ·rename_i i j es' sc' hv
   obtain⟨B,hB,h⟩:=bw h
   split at h
   ·rename_i es
    obtain⟨h1,h2⟩:=h
    rw[aw]at h2
    exact⟨_,_,_,by simp only[gZ,hv,uo hB h1];rfl,h2,by simp⟩
   ·exact h.elim
  ·exact h.elim
 case h_18=>simp only[aC,y4]at h;obtain⟨p,sc',h1,h2⟩:=eU h;exact⟨p,_,sc',by simp only[gZ,h1,vag],h2,rfl⟩
 case h_19=>simp only[fB]at h;obtain⟨p,sc',h1,h2⟩:=eU h;exact⟨p,_,sc',by simp only[gZ,h1,vag],h2,rfl⟩
 case h_20=>simp only[fB]at h;obtain⟨p,sc',h1,h2⟩:=eU h;exact⟨p,_,sc',by simp only[gZ,h1,vag],h2,rfl⟩
 case h_21 x t=>
  simp only[aC]at h
  split at h
  ·rename_i i hv
   obtain⟨B,hB,h⟩:=bw h
   split at h
   ·rename_i es
    obtain⟨p,sc',⟨rfl,h1⟩,h2⟩:=eU h
    refine⟨_,_,sc',?_,h2,rfl⟩
    simp only[gZ,hv,nw]
    cases hu:P.underlying t with
    |none=>rw[hu]at h1;cases h1
    |some d=>
     rw[hu]at h1
     cases d<;>simp at h1
     simp only[hB,vag]
   ·exact h.elim
  ·obtain⟨p,sc',h1,h2⟩:=eU h;exact⟨p,_,sc',by simp only[gZ,h1 H,vag],h2,rfl⟩
 case h_22=>simp only[aC,iz]at h;obtain⟨p,h1,h2⟩:=jE h;exact⟨p,_,_,by simp only[gZ,h1,vag],h2,rfl⟩
 case h_23=>simp only[aC,iz]at h;obtain⟨p,h1,h2⟩:=jE h;exact⟨p,_,_,by simp only[gZ,h1,vag],h2,rfl⟩
 case h_24=>exact h.elim
end
end Go.Proofs.YtoficachfgggjaaDoor
