/- PROVED: a part of the proof. Conditions: none. -/
import Derived.Test.YtkdahfeiedaahaaGreatDoorPkD6
import Derived.Deep.Draws
import Derived.Sort.Grow
import Derived.Lib.LaidTab
import Derived.WalkKit
import Derived.ProofKit
import Derived.OpenShut
import Derived.Below
import Derived.ChangeSame
import Derived.SliceStrings
import Derived.ChangeMaps5
import Derived.WideKeyArgs
noncomputable section
namespace Go.Proofs.YtkdahfeiedaahaaGreatDoor
open Go
mutual

def PVal.no(i:Nat):PVal->Prop
 |.undef|.int _ _|.bool _|.str _|.val _=>True
 |.agg cs=>Ra i cs
 |.tuple cs=>Ra i cs
 |.slice es=>LN i es
 |.eptr cs=>Ra i cs
 |.bptr j _=>j≠i
 |.bsl j _ _=>j≠i
 |.mapr j=>j≠i
 |.func _ f c=>Ra i f/\Ra i c
def Ra(i:Nat):List PVal->Prop
 |[]=>True
 |p::ps=>p.no i/\Ra i ps
def LN(i:Nat):List (List PVal)->Prop
 |[]=>True
 |p::ps=>Ra i p/\LN i ps
end
mutual
theorem LO(i:Nat):∀(p:PVal),p.cl 0->p.no i
 |.undef,_=>by simp[PVal.no]
 |.int _ _,_=>by simp[PVal.no]
 |.bool _,_=>by simp[PVal.no]
 |.str _,_=>by simp[PVal.no]
 |.val _,_=>by simp[PVal.no]
 |.agg cs,h=>by simp only[PVal.cl]at h;simp only[PVal.no];exact sD i cs h
 |.tuple cs,h=>by simp only[PVal.cl]at h;simp only[PVal.no];exact sD i cs h
 |.slice es,h=>by simp only[PVal.cl]at h;simp only[PVal.no];exact Fj i es h
 |.eptr cs,h=>by simp only[PVal.cl]at h;simp only[PVal.no];exact sD i cs h
 |.bptr j _,h=>by simp only[PVal.cl]at h;omega
 |.bsl j _ _,h=>by simp only[PVal.cl]at h;omega
 |.mapr j,h=>by simp only[PVal.cl]at h;omega
 |.func _ f c,h=>by simp only[PVal.cl]at h;simp only[PVal.no];exact⟨sD i f h.1,sD i c h.2⟩
theorem sD(i:Nat):∀(l:List PVal),jl 0 l->Ra i l
 |[],_=>by simp[Ra]
 |p::l,h=>by simp only[jl]at h;simp only[Ra];exact⟨LO i p h.1,sD i l h.2⟩
theorem Fj(i:Nat):∀(l:List (List PVal)),xh 0 l->LN i l
 |[],_=>by simp[LN]
 |p::l,h=>by simp only[xh]at h;simp only[LN];exact⟨sD i p h.1,Fj i l h.2⟩
end
theorem tx{n:Nat}:∀{l:List PVal} {i:Nat} {p:PVal},Ra n l->l[i]? =some p->p.no n
 |[],i,p,_,h=>by simp at h
 |q::l,0,p,h,hp=>by simp at hp;subst hp;simp only[Ra]at h;exact h.1
 |q::l,i+1,p,h,hp=>by simp only[Ra]at h;exact tx h.2 (by simpa using hp)
theorem GJ{n:Nat}:∀{l:List (List PVal)} {i:Nat} {p:List PVal},LN n l->l[i]? =some p->Ra n p
 |[],i,p,_,h=>by simp at h
 |q::l,0,p,h,hp=>by simp at hp;subst hp;simp only[LN]at h;exact h.1
 |q::l,i+1,p,h,hp=>by simp only[LN]at h;exact GJ h.2 (by simpa using hp)
theorem VR.noi{Γ:aU}{bs bs':bD}{w:World}{p:PVal}{v:Value}{n:Nat}(h:VR Γ bs w p v)(hc:p.no n)
  (hb:∀(i b:Nat),i≠n->bs[i]? =some (some b)->bs'[i]? =some (some b)):VR Γ bs' w p v:=by
 induction h with
 |undef v=>exact .undef v
 |int k n=>exact .int k n
 |bool b=>exact .bool b
 |str l=>exact .str l
 |val v=>exact .val v
 |agg cs vs hl _ ih=>simp only[PVal.no]at hc;exact .agg cs vs hl fun i p v hp hv=>ih i p v hp hv (tx hc hp)
 |tuple cs vs hl _ ih=>simp only[PVal.no]at hc;exact .tuple cs vs hl fun i p v hp hv=>ih i p v hp hv (tx hc hp)
 |sliceNil=>exact .sliceNil
 |sliceE a cap=>exact .sliceE a cap
 |slice es b off cap n sz vals h0 hcap hg hn hsz hcc _ ih=>
  simp only[PVal.no]at hc
  exact .slice es b off cap n sz vals h0 hcap hg hn hsz hcc fun i e k p he hp=>ih i e k p he hp (tx (GJ hc he) hp)
 |eptrE b off=>exact .eptrE b off
 |bsl i off k x cap hcap hnil h=>simp only[PVal.no]at hc;exact .bsl i off k x cap hcap hnil (h.imp_right fun⟨b,h1,h2⟩=>⟨b,h1,hb i b hc h2⟩)
 |eptr cs b off n vals hg hn hcc _ ih=>
  simp only[PVal.no]at hc
  exact .eptr cs b off n vals hg hn hcc fun k p hp=>ih k p hp (tx hc hp)
 |bptr i off b h=>simp only[PVal.no]at hc;exact .bptr i off b (hb i b hc h)
 |mapr i b h=>simp only[PVal.no]at hc;exact .mapr i b (hb i b hc h)
 |func fn first cap fs cs hl hl' _ _ ih ih'=>
  simp only[PVal.no]at hc
  exact .func fn first cap fs cs hl hl' (fun i p v hp hv=>ih i p v hp hv (tx hc.1 hp)) (fun i p v hp hv=>ih' i p v hp hv (tx hc.2 hp))
inductive Fz(i:Nat)(es:List (List PVal)):PVal->PVal->Prop where
 |u (p:PVal):Fz i es p .undef
 |k (p:PVal) (h:p.no i):Fz i es p p
 |s (n:Nat) (h:n=es.length):Fz i es (.bsl i 0 n) (.slice es)
 |b (off:Nat):Fz i es (.bptr i off) (.eptr (es.flatten.drop off))
 |f (fn:Fn) (f c f' c':List PVal) (hl:f.length=f'.length) (hl':c.length=c'.length) (h:∀(j:Nat) p q,f[j]? =some p->f'[j]? =some q->Fz i es p q) (h':∀(j:Nat) p q,c[j]? =some p->c'[j]? =some q->Fz i es p q):Fz i es (.func fn f c) (.func fn f' c')
def Sg(i:Nat)(es:List (List PVal)):List PVal->List PVal->Prop
 |[],[]=>True
 |p::ps,q::qs=>Fz i es p q/\Sg i es ps qs
 |_,_=>False
inductive Xo(i:Nat)(es:List (List PVal)):aC->aC->Prop where
 |d (B:aC):Xo i es B .dead
 |c (cs cs':List PVal) (own:List (Nat×TypeId)) (h:Sg i es cs cs'):Xo i es (.cells cs own) (.cells cs' own)
 |k (cs:List PVal) (own:List (Nat×TypeId)) (h:Ra i cs):Xo i es (.cells cs own) (.cells cs own)
 |m (l:List (PVal×PVal)) (h:∀x∈l,x.1.no i/\x.2.no i):Xo i es (.map l) (.map l)
def Mv(i:Nat)(es:List (List PVal)):List aC->List aC->Prop
 |[],[]=>True
 |p::ps,q::qs=>Xo i es p q/\Mv i es ps qs
 |_,_=>False
theorem Sg.len{i:Nat}{es:List (List PVal)}:∀{l r:List PVal},Sg i es l r->l.length=r.length
 |[],[],_=>rfl
 |[],_::_,h=>h.elim
 |_::_,[],h=>h.elim
 |_::_,_::_,h=>by simp[Sg.len h.2]
theorem Sg.get{i:Nat}{es:List (List PVal)}:∀{l r:List PVal},Sg i es l r->∀{j:Nat} {p q},l[j]? =some p->r[j]? =some q->Fz i es p q
 |[],[],_,j,p,q,hp,_=>by simp at hp
 |[],_::_,h,_,_,_,_,_=>h.elim
 |_::_,[],h,_,_,_,_,_=>h.elim
 |_::_,_::_,h,0,p,q,hp,hq=>by simp at hp hq;subst hp;subst hq;exact h.1
 |_::_,_::_,h,j+1,p,q,hp,hq=>Sg.get h.2 (j:=j) (by simpa using hp) (by simpa using hq)
theorem Mv.len{i:Nat}{es:List (List PVal)}:∀{l r:List aC},Mv i es l r->l.length=r.length
 |[],[],_=>rfl
 |[],_::_,h=>h.elim
 |_::_,[],h=>h.elim
 |_::_,_::_,h=>by simp[Mv.len h.2]
theorem Mv.get{i:Nat}{es:List (List PVal)}:∀{l r:List aC},Mv i es l r->∀{j:Nat} {p q},l[j]? =some p->r[j]? =some q->Xo i es p q
 |[],[],_,j,p,q,hp,_=>by simp at hp
 |[],_::_,h,_,_,_,_,_=>h.elim
 |_::_,[],h,_,_,_,_,_=>h.elim
 |_::_,_::_,h,0,p,q,hp,hq=>by simp at hp hq;subst hp;subst hq;exact h.1
 |_::_,_::_,h,j+1,p,q,hp,hq=>Mv.get h.2 (j:=j) (by simpa using hp) (by simpa using hq)
def FZ(m i:Nat)(es:List (List PVal))(st st':aB):Prop:=
 ((m % 1000<=i)/\∃sz,0<sz/\∀x∈es,x.length=sz)/\LN i es/\(∃own,st.boxes[i]? =some (.cells es.flatten own))/\st'.boxes[i]? =some .dead/\Sg i es st.tmps st'.tmps/\Mv i es st.boxes st'.boxes/\∀x∈st'.own,x∈st.own
theorem Ss{sz:Nat}:∀{es:List (List PVal)},(∀x∈es,x.length=sz)->∀{i k:Nat} {e:List PVal} {p:PVal},es[i]? =some e->e[k]? =some p->es.flatten[i * sz+k]? =some p
 |[],_,i,k,e,p,h,_=>by simp at h
 |x::es,hl,0,k,e,p,h,hp=>by
  simp at h;subst h
  rw[List.flatten_cons,vcJ,vaI,vac (aq hp)]
  exact hp
 |x::es,hl,i+1,k,e,p,h,hp=>by
  have hx:=hl x (by simp)
  rw[List.flatten_cons,vaf (by rw[hx,vbe];omega),hx,show(i+1) * sz+k - sz=i * sz+k by rw[vbe];omega]
  exact Ss (fun y hy=>hl y (by simp[hy])) (by simpa using h) hp
theorem FZ.weak{P:Program}{m i:Nat}{es:List (List PVal)}{st st':aB}(h:FZ m i es st st'):Bq P m st st':=by
 obtain⟨⟨hm,sz,hsz0,hsz⟩,hno,hBi,hBi',htm,hbx,how⟩:=h
 obtain⟨bown,hB⟩:=hBi
 have hB':=hBi'
 intro E bs0 a w hb0 hR
 obtain⟨Γ,bs,ow,hS,hk⟩:=hR
 have hil:i<bs.length:=by rw[hS.bl];exact aq hB
 obtain⟨x,hx⟩:∃x,bs[i]? =some x:=⟨_,vaa hil⟩
 have hsub:∀(j b:Nat),j≠i->bs[j]? =some (some b)->(bs.set i none)[j]? =some (some b):=fun j b hj hb=>by rw[vap (fun e=>hj e.symm)];exact hb
 have hback:∀{j b:Nat},(bs.set i none)[j]? =some (some b)->j≠i/\bs[j]? =some (some b):=fun{j b} hb=>by
  by_cases hj:j=i
  ·subst hj;rw[vaj hil]at hb;cases hb
  ·rw[vap (fun e=>hj e.symm)]at hb;exact⟨hj,hb⟩
 obtain ⟨Γ',hle,hwi,hΓ,hslice,hkeep,hptr⟩:∃ Γ':aU,Γ.Le w Γ' w∧(∀ b n,Γ' b = some n→∃ c t fr,w.heap[b]? = some (.cells c t fr)∧n ≤ c.size)∧(∀ b,bs[i]? ≠ some (some b)→Γ' b = Γ b) ∧
   (∀n v,n=es.length->VR Γ bs w (.bsl i 0 n) v->VR Γ' (bs.set i none) w (.slice es) v)/\(∀b n,Γ b=some n->Γ' b=some n)/\(∀off v,VR Γ bs w (.bptr i off) v->VR Γ' (bs.set i none) w (.eptr (es.flatten.drop off)) v):=by
  cases x with
  | none =>
   refine⟨Γ,.refl _ _,hS.wi,fun _ _=>rfl,fun n v hn hv=>?_,fun _ _ h=>h,fun off v hv=>by cases hv with|bptr _ _ b hb=>rw[hx]at hb;cases hb⟩
   cases hv with
   | bsl _ _ _ x cap hcap hnil hxb =>
    have hes:es=[]:=by
     rcases hxb with h0|⟨b,_,hb⟩
     ·exact vao (by omega)
     ·rw[hx]at hb;cases hb
    subst hes
    have hn0:n=0:=hn
    subst hn0
    cases x with
    |none=>rw[hnil rfl];exact .sliceNil
    |some ad=>exact .sliceE ad cap
  | some b =>
   obtain⟨hg,hlt,c,t,hheap,hcs,hcv⟩:=hS.bx i b _ hx hB
   have hflen:=P8 hsz
   have hle:Γ.Le w (Γ.put b es.flatten.length) w:=fun b' n hb' _=>⟨n,(Γ.put_other (fun e=>by subst e;rw[hg]at hb';cases hb')).trans hb',vam _,fun _ _=>rfl⟩
   refine⟨Γ.put b es.flatten.length,hle,fun b' n hb'=>?_,fun b' hb'=>Γ.put_other (fun e=>hb' (by rw[e];exact hx)),fun n v hn hv=>?_,fun b' n hb'=>(Γ.put_other (fun e=>by subst e;rw[hg]at hb';cases hb')).trans hb',fun off v hv=>?_⟩
   ·by_cases hbb:b'=b
    ·subst hbb;rw[Γ.put_same]at hb';cases hb';exact⟨c,t,_,hheap,hcs⟩
    ·rw[Γ.put_other hbb]at hb';exact hS.wi b' n hb'
   ·cases hv with
    | bsl _ _ _ x cap hcap hnil hxb =>
     rcases hxb with h0|⟨b',hxb,hb'⟩
     ·subst h0
      have hes:es=[]:=vao hn.symm
      subst hes
      cases x with
      |none=>rw[hnil rfl];exact .sliceNil
      |some ad=>exact .sliceE ad cap
     ·rw[hx]at hb';cases hb'
      subst hxb;subst hn
      refine AH hheap (Γ.put_same _ _) (by rw[hflen];exact vam _) hsz0 hcap (fun i x hx=>hsz x (vaC hx)) fun j x k q hxj hq=>?_
      have hfa:=Ss hsz hxj hq
      have hlt2:j * sz+k<c.size:=vaA (aq hfa) hcs
      exact⟨c[j * sz+k],by simp[hlt2],((hcv _ _ _ hfa (by simp[hlt2])).noi (tx (GJ hno hxj) hq) hsub).mono hle (.refl _)⟩
   ·cases hv with
    | bptr _ _ b' hb' =>
     rw[hx]at hb';cases hb'
     by_cases hoff:off<=es.flatten.length
     ·have hget:∀(k:Nat) q,(es.flatten.drop off)[k]? =some q->es.flatten[off+k]? =some q/\off+k<c.size:=fun k q hq=>by
       rw[vbc]at hq
       exact⟨hq,vaA (aq hq) hcs⟩
      refine .eptr _ b off es.flatten.length (fun k=>c.getD (off+k) undef) (Γ.put_same _ _) (by rw[vbN];omega) (fun k q hq=>?_) (fun k q hq=>?_)
      ·obtain⟨h1,h2⟩:=hget k q hq
       rw[cell_of_row w b _ c t _ hheap]
       simp[vas,h2]
      ·obtain⟨h1,h2⟩:=hget k q hq
       have hc1:c[off+k]? =some (c.getD (off+k) undef):=by simp[vas,h2]
       have hnq:q.no i:=by
        obtain⟨y,hy1,hy2⟩:=Lr hsz0 hsz h1
        exact tx (GJ hno hy1) hy2
       exact((hcv _ _ _ h1 hc1).noi hnq hsub).mono hle (.refl _)
     ·rw[List.drop_of_length_le (by omega)];exact .eptrE _ _
 have fz:∀{p q:PVal} {v:Value},Fz i es p q->VR Γ bs w p v->VR Γ' (bs.set i none) w q v:=by
  intro p q v hf
  induction hf generalizing v with
  |u p=>exact fun _=>.undef _
  |k p h=>exact fun hv=>(hv.noi h hsub).mono hle (.refl _)
  |s n h=>exact fun hv=>hslice n _ h hv
  |b off=>exact fun hv=>hptr off _ hv
  | f fn f c f' c' hl hl' h h' ih ih' =>
   intro hv
   cases hv with
   | func _ _ _ fs cs k1 k2 k3 k4 =>
    refine .func fn f' c' fs cs (by omega) (by omega) (fun j q u hq hu=>?_) (fun j q u hq hu=>?_)
    ·have hj:=aq hq
     have hp:=vaa (l:=f) (i:=j) (by omega)
     exact ih j _ q hp hq (k3 j _ u hp hu)
    ·have hj:=aq hq
     have hp:=vaa (l:=c) (i:=j) (by omega)
     exact ih' j _ q hp hq (k4 j _ u hp hu)
 have hown:∀{v:Value} {e:TypeId},jQ P Γ w v e->jQ P Γ' w v e:=by
  intro v e ho
  obtain⟨n,xs,o1,o2⟩:=ho
  exact⟨n,xs,o1,fun b hb=>hkeep b _ (o2 b hb)⟩
 have hmem:∀y∈st'.own,y∈st.own:=how
 have hbnot:∀{j b:Nat},j≠i->bs[j]? =some (some b)->bs[i]? ≠some (some b):=fun hj hb hbi=>hj (hS.inj _ _ _ hb hbi)
 refine⟨Γ',bs.set i none,ow,?_,fun j hj=>?_⟩
 ·exact{
   wi:=hwi
   sz:=by rw[hS.sz];exact htm.len
   tm:=fun t q v hq hv=>by
    have hl:=htm.len
    have ht:=aq hq
    have hp:=vaa (l:=st.tmps) (i:=t) (by omega)
    exact fz (htm.get hp hq) (hS.tm t _ v hp hv)
   bl:=by rw[vcu,hS.bl];exact hbx.len
   bx:=fun j b C hb hC=>by
    obtain⟨hj,hb⟩:=hback hb
    have hl:=hbx.len
    have hjl:=aq hC
    have hp:=vaa (l:=st.boxes) (i:=j) (by omega)
    obtain⟨h1,h2,h3⟩:=hS.bx j b _ hb hp
    refine⟨(hΓ b (hbnot hj hb)).trans h1,h2,?_⟩
    have hf:=hbx.get hp hC
    generalize st.boxes[j]=B0 at hf h3
    cases hf with
    |d B=>trivial
    |c cs cs' own h=>
     obtain⟨c,t,e1,e2,e3⟩:=h3
     refine⟨c,t,e1,by rw[<-h.len];exact e2,fun k q v hq hv=>?_⟩
     have hk:=aq hq
     have hlen:=h.len
     have hpk:=vaa (l:=cs) (i:=k) (by omega)
     exact fz (h.get hpk hq) (e3 k _ v hpk hv)
    |k cs own h=>
     obtain⟨c,t,e1,e2,e3⟩:=h3
     exact⟨c,t,e1,e2,fun k q v hq hv=>((e3 k q v hq hv).noi (tx h hq) hsub).mono hle (.refl _)⟩
    |m l h=>
     obtain⟨c,t,e1,e2,e3,e4⟩:=h3
     refine⟨c,t,e1,e2,fun k q u y hq hy=>?_,e4⟩
     obtain⟨n1,n2⟩:=h _ (vaC hq)
     obtain⟨v1,v2⟩:=e3 k q u y hq hy
     exact⟨(v1.noi n1 hsub).mono hle (.refl _),(v2.noi n2 hsub).mono hle (.refl _)⟩
   inj:=fun j k b hj hk'=>hS.inj j k b (hback hj).2 (hback hk').2
   bn:=fun j b hb=>hS.bn j b (hback hb).2
   on:=hS.on
   ot:=fun t k e he=>by
    obtain⟨u,v,h1,h2,h3,h4⟩:=hS.ot t k e (hmem _ he)
    exact⟨u,v,h1,h2,hown h3,h4⟩
   ob:=fun j k e cs own b hC hk' hb=>by
    obtain⟨hj,hb⟩:=hback hb
    have hl:=hbx.len
    have hjl:=aq hC
    have hp:=vaa (l:=st.boxes) (i:=j) (by omega)
    have hf:=hbx.get hp hC
    generalize hB0:st.boxes[j]=B0 at hf hp
    cases hf with
    |c cs0 _ _ h=>
     obtain⟨v,h1,h2,h3⟩:=hS.ob j k e cs0 own b hp hk' hb
     exact⟨v,h1,hown h2,h3⟩
    |k _ _ h=>
     obtain⟨v,h1,h2,h3⟩:=hS.ob j k e cs own b hp hk' hb
     exact⟨v,h1,hown h2,h3⟩
   gl:=fun g cs hg=>((hS.gl g cs hg).mono hle (.refl _)).restrict (n:=0) (by simp only[PVal.cl];exact hS.gc g cs hg) (fun i b hi _=>absurd hi (vaK _))
   gc:=hS.gc
   gx:=hS.gx
   step:={hS.step with
    keep:=fun b hb hT=>by
     obtain⟨k1,k2⟩:=hS.step.keep b hb hT
     refine⟨k1,(hΓ b fun hbi=>?_).trans k2⟩
     rcases hS.bn i b hbi with h1|h1
     ·exact hT h1
     ·omega
    le:=hS.step.le.trans hle}}
 ·rw[vap (by omega)]
  exact hk j hj
def Zc(i:Nat)(es:List (List PVal)):PVal->(PVal->Prop)->Prop
 |.undef,k=>k .undef
 |.int a n,k=>k (.int a n)
 |.bool b,k=>k (.bool b)
 |.str s,k=>k (.str s)
 |.val v,k=>k (.val v)
 |.bptr j off,k=>match j==i with
  |true=>bI (es.flatten.drop off) fun l=>k (.eptr l)
  |false=>k (.bptr j off)
 | .bsl j off n,k => match j == i with
  |true=>match off with
   |0=>n=es.length/\k (.slice es)
   |_+1=>False
  |false=>k (.bsl j off n)
 |.mapr j,k=>match j==i with
  |true=>False
  |false=>k (.mapr j)
 |p,k=>p.no i/\k p
def OU(i:Nat)(es:List (List PVal)):List PVal->(List PVal->Prop)->Prop
 |[],k=>k []
 |p::ps,k=>match p with
  |.func fn f c=>fzF i es f fun f'=>fzF i es c fun c'=>OU i es ps fun l=>k (.func fn f' c'::l)
  |p=>Zc i es p fun q=>OU i es ps fun l=>k (q::l)
where
 fzF (i:Nat) (es:List (List PVal)):List PVal->(List PVal->Prop)->Prop
  |[],k=>k []
  |p::ps,k=>Zc i es p fun q=>fzF i es ps fun l=>k (q::l)
def Yq(i:Nat)(es:List (List PVal))(lv:List Nat):Nat->List PVal->(List PVal->Prop)->Prop
 |_,[],k=>k []
 | n,p :: ps,k => match lv.contains n with
  |true=>match p with
   |.func fn f c=>OU.fzF i es f fun f'=>OU.fzF i es c fun c'=>Yq i es lv (n+1) ps fun l=>k (.func fn f' c'::l)
   |p=>Zc i es p fun q=>Yq i es lv (n+1) ps fun l=>k (q::l)
  |false=>Yq i es lv (n+1) ps fun l=>k (.undef::l)
def Wz(i:Nat)(es:List (List PVal))(rk:List Nat):Nat->List aC->(List aC->Prop)->Prop
 |_,[],k=>k []
 | n,B :: Bs,k => match n == i with
  |true=>Wz i es rk (n+1) Bs fun l=>k (.dead::l)
  | false => match B with
   |.dead=>Wz i es rk (n+1) Bs fun l=>k (.dead::l)
   |.cells cs own=>match rk.contains n with
    |true=>Ra i cs/\Wz i es rk (n+1) Bs fun l=>k (.cells cs own::l)
    |false=>OU i es cs fun cs'=>Wz i es rk (n+1) Bs fun l=>k (.cells cs' own::l)
   |.map m=>(∀x∈m,x.1.no i/\x.2.no i)/\Wz i es rk (n+1) Bs fun l=>k (.map m::l)
def UW(es:List (List PVal)):aC->Prop
 |.cells cs _=>cs=es.flatten
 |_=>False
theorem UX{es:List (List PVal)}{H:List aC}{i:Nat}(h:mz H i (UW es)):∃own,H[i]? =some (.cells es.flatten own):=by
 obtain⟨B,hB,h⟩:=eO h
 unfold UW at h
 split at h
 ·subst h;exact⟨_,hB⟩
 ·exact h.elim
def UL(m:Nat):List It->aB->(List It->aB->Prop)->Prop
 |.fz i es lv rk::sc',st,k=>((m % 1000<=i)/\∃sz,0<sz/\∀x∈es,x.length=sz)/\LN i es/\mz st.boxes i (UW es)/\Yq i es lv 0 st.tmps fun tm=>Wz i es rk 0 st.boxes fun H=>bI (st.own.filter fun x=>lv.contains x.1.1) fun ow=>UL m sc' ⟨tm,H,ow⟩ k
 |sc,st,k=>k sc st
theorem RD{i:Nat}{es:List (List PVal)}{p:PVal}{k:PVal->Prop}(h:Zc i es p k):∃q,Fz i es p q/\k q:=by
 unfold Zc at h
 split at h
 ·exact⟨_,.u _,h⟩
 ·exact⟨_,.k _ (by simp[PVal.no]),h⟩
 ·exact⟨_,.k _ (by simp[PVal.no]),h⟩
 ·exact⟨_,.k _ (by simp[PVal.no]),h⟩
 ·exact⟨_,.k _ (by simp[PVal.no]),h⟩
 ·rename_i j off
  split at h
  ·rename_i hj
   simp only[vaZ]at hj
   subst hj
   rw[aP]at h
   exact⟨_,.b _,h⟩
  ·rename_i hj
   exact⟨_,.k _ (by simpa[PVal.no]using hj),h⟩
 ·rename_i j off n
  split at h
  ·rename_i hj
   simp only[vaZ]at hj
   subst hj
   split at h
   ·exact⟨_,.s _ h.1,h.2⟩
   ·exact h.elim
  ·rename_i hj
   exact⟨_,.k _ (by simpa[PVal.no]using hj),h⟩
 ·rename_i j
  split at h
  ·exact h.elim
  ·rename_i hj
   exact⟨_,.k _ (by simpa[PVal.no]using hj),h⟩
 ·exact⟨_,.k _ h.1,h.2⟩
theorem Ls{i:Nat}{es:List (List PVal)}:∀{l:List PVal} {k:List PVal->Prop},OU.fzF i es l k->∃r,Sg i es l r/\k r
 |[],k,h=>⟨[],trivial,h⟩
 |p::ps,k,h=>by
  unfold OU.fzF at h
  obtain⟨q,h1,h2⟩:=RD h
  obtain⟨r,h3,h4⟩:=Ls h2
  exact⟨q::r,⟨h1,h3⟩,h4⟩
theorem Fz.fn{i:Nat}{es:List (List PVal)}(fn:Fn){f c f' c':List PVal}(h:Sg i es f f')(h':Sg i es c c'):Fz i es (.func fn f c) (.func fn f' c'):=
 .f fn f c f' c' h.len h'.len (fun _ _ _ hp hq=>h.get hp hq) (fun _ _ _ hp hq=>h'.get hp hq)
theorem OV{i:Nat}{es:List (List PVal)}:∀{l:List PVal} {k:List PVal->Prop},OU i es l k->∃r,Sg i es l r/\k r
 |[],k,h=>⟨[],trivial,h⟩
 | p :: ps,k,h => by
  unfold OU at h
  split at h
  ·obtain⟨f',h1,h2⟩:=Ls h
   obtain⟨c',h3,h4⟩:=Ls h2
   obtain⟨r,h5,h6⟩:=OV h4
   exact⟨_::r,⟨.fn _ h1 h3,h5⟩,h6⟩
  ·obtain⟨q,h1,h2⟩:=RD h
   obtain⟨r,h3,h4⟩:=OV h2
   exact⟨q::r,⟨h1,h3⟩,h4⟩
theorem OT{i:Nat}{es:List (List PVal)}{lv:List Nat}:∀{n:Nat} {l:List PVal} {k:List PVal->Prop},Yq i es lv n l k->∃r,Sg i es l r/\k r
 |_,[],k,h=>⟨[],trivial,h⟩
 | n,p :: ps,k,h => by
  unfold Yq at h
  split at h
  ·split at h
   ·obtain⟨f',h1,h2⟩:=Ls h
    obtain⟨c',h3,h4⟩:=Ls h2
    obtain⟨r,h5,h6⟩:=OT h4
    exact⟨_::r,⟨.fn _ h1 h3,h5⟩,h6⟩
   ·obtain⟨q,h1,h2⟩:=RD h
    obtain⟨r,h3,h4⟩:=OT h2
    exact⟨q::r,⟨h1,h3⟩,h4⟩
  ·obtain⟨r,h3,h4⟩:=OT h
   exact⟨.undef::r,⟨.u _,h3⟩,h4⟩
theorem UK{i:Nat}{es:List (List PVal)}{rk:List Nat}:∀{n:Nat} {l:List aC} {k:List aC->Prop},Wz i es rk n l k->∃r,Mv i es l r/\(∀j B,l[j]? =some B->n+j=i->r[j]? =some .dead)/\k r
 |_,[],k,h=>⟨[],trivial,by simp,h⟩
 | n,B :: Bs,k,h => by
  have go:∀{B':aC} {k':List aC->Prop},Xo i es B B'->(n=i->B'=.dead)->Wz i es rk (n+1) Bs k'->(∀r,k' r->k (B'::r))->∃r,Mv i es (B::Bs) r/\(∀j C,(B::Bs)[j]? =some C->n+j=i->r[j]? =some .dead)/\k r:=by
   intro B' k' h1 h2 h3 h4
   obtain⟨r,r1,r2,r3⟩:=UK h3
   refine⟨B'::r,⟨h1,r1⟩,fun j C hC hj=>?_,h4 r r3⟩
   cases j with
   |zero=>simp[h2 (by omega)]
   |succ j=>simpa using r2 j C (by simpa using hC) (by omega)
  unfold Wz at h
  split at h
  ·exact go (.d _) (fun _=>rfl) h (fun _ x=>x)
  ·rename_i hn
   have hn':n≠i:=by simpa using hn
   split at h
   ·exact go (.d _) (fun _=>rfl) h (fun _ x=>x)
   ·split at h
    ·exact go (.k _ _ h.1) (fun e=>absurd e hn') h.2 (fun _ x=>x)
    ·obtain⟨cs',h1,h2⟩:=OV h
     exact go (.c _ _ _ h1) (fun e=>absurd e hn') h2 (fun _ x=>x)
   ·exact go (.m _ h.1) (fun e=>absurd e hn') h.2 (fun _ x=>x)
theorem RC{P:Program}{m:Nat}:∀{sc:List It} {st:aB} {k:List It->aB->Prop},UL m sc st k->∃sc' st',Bq P m st st'/\k sc' st'
 |[],st,k,h=>⟨[],st,.refl _,by simpa[UL]using h⟩
 | x :: sc,st,k,h => by
  unfold UL at h
  split at h
  ·rename_i i es lv rk sc' heq
   cases heq
   obtain⟨h1,h2,h3,h4⟩:=h
   obtain⟨own,hB⟩:=UX h3
   obtain⟨tm,t1,h5⟩:=OT h4
   obtain⟨H,b1,b2,h6⟩:=UK h5
   rw[aP]at h6
   obtain⟨sc2,st2,w1,h7⟩:=RC h6
   exact⟨sc2,st2,Bq.trans (FZ.weak (st':=⟨tm,H,_⟩) ⟨h1,h2,⟨own,hB⟩,b2 i _ hB (by omega),t1,b1,fun x hx=>(vaJ.1 hx).1⟩) w1,h7⟩
  ·exact⟨_,_,.refl _,h⟩
set_option linter.unusedSimpArgs false
set_option linter.unusedVariables false
section
variable{P:Program}{Q Q1:Exit->Act->World->Prop}
theorem Ud{o:Oper}{a:Act}{K:Act->World->Prop}{r:Result Next}(hQ:∀e a w,Q1 e a w->e=.normal)(h:o.upon P a K Q1 r):o.upon P a K Q r:=by
 have hno:∀c a w,¬Q1 (.panic c) a w:=fun c a w h=>by have:=hQ _ _ _ h;cases this
 have hlo:¬LetsOut Q1:=by rintro⟨a,w,h⟩;have:=hQ _ _ _ h;cases this
 cases r with
 | ok x w' =>
  cases x<;>simp only[Oper.upon]at h ⊢<;>first
   |exact h
   | exact Calls.mono h (fun e w'' he => by
     cases e<;>first
      |exact he
      |exact absurd he (hno _ _ _)
      |exact absurd he hlo)
 |halt x w'=>cases x<;>simp only[Oper.upon]at h ⊢<;>exact absurd h (hno _ _ _)
theorem W1{o:Oper}{a:Act}{w:World}{K:Act->World->Prop}(hQ:∀e a w,Q1 e a w->e=.normal)(h:o.wp P a w K Q1):o.wp P a w K Q:=Ud hQ h
theorem Ug{ops:Array Oper}{o:Oper}{i:Nat}{a:Act}{w:World}{K:Act->World->Prop}(hQ:∀e a w,Q1 e a w->e=.normal)(hi:i<ops.size)
  (hg:∀(x:Oper) j b,ops[i]? =some x->x.guard=some (j,b)->j<ops.size) (h:wpOp P ops Q1 i K a w):wpOp P (ops.push o) Q i K a w:=by
 have hlo:¬LetsOut Q1:=by rintro⟨a,w,h⟩;have:=hQ _ _ _ h;cases this
 have hget:∀k,k<ops.size->(ops.push o)[k]? =ops[k]?:=fun k hk=>by rw[vbC,vaz (by omega)]
 unfold wpOp at h ⊢
 rw[hget i hi]
 rw[vaM hi]at h ⊢
 simp only at h ⊢
 have hw:Region.wanted ops[i] (yielded (ops.push o) a.tmps)=Region.wanted ops[i] (yielded ops a.tmps):=by
  unfold Region.wanted
  cases hgu:ops[i].guard with
  |none=>rfl
  |some x=>
   obtain⟨j,b⟩:=x
   have hj:=hg _ j b (vaM hi) hgu
   simp only[yielded,hget j hj]
 rw[hw]
 split
 ·rename_i hw2
  rw[vax hw2]at h
  rcases h with h|h
  ·exact .inl (W1 hQ h)
  ·exact absurd h.2 hlo
 ·rename_i hw2
  rw[vaz hw2]at h
  exact h
theorem N5{ops:Array Oper}{o:Oper}
  (hlast:∀a w,Q1 .normal a w->wpOp P (ops.push o) Q ops.size (Q .normal) a w)
  (he:∀(k:Nat) (x:Oper),ops[k]? =some x->∀e∈x.after.toList,Region.binds .any e=true->e.on<k)
  (ho:∀e∈o.after.toList,Region.binds .any e=true->e.on<ops.size) {l0 l1:Array Bool} {a:Act} {w:World}
  (h0:l0.size=ops.size) (h1:l1.size=ops.size+1) (hl:∀i,i<ops.size->l1.getD i false=l0.getD i false) (hn:l1.getD ops.size false=false)
  (hr:Region.ready .any ops l0=[]) (hq:Q1 .normal a w) (n:Nat):wpAny P .any (ops.push o) Q (n+1) l1 a w:=by
 have hget:∀k,k<ops.size->(ops.push o)[k]? =ops[k]?:=fun k hk=>by rw[vbC,vaz (by omega)]
 have hgl:(ops.push o)[ops.size]? =some o:=by simp
 have hall:∀j,j<ops.size->cZ l0 j:=by
  intro j
  induction j using Nat.strongRecOn with
  | _ j ih =>
   intro hj
   by_cases hx:cZ l0 j
   ·exact hx
   ·exfalso
    have hoj:ops[j]? =some ops[j]:=by simp[hj]
    have:j∈Region.ready .any ops l0:=mem_ready.2 ⟨by
     unfold cZ at hx
     have:j<l0.size:=by omega
     simp[this]at hx ⊢;exact hx,_,hoj,fun e he' hb=>by
     have hlt:=he j _ hoj e (by simpa using he') hb
     exact ih e.on hlt (by omega)⟩
    rw[hr]at this;cases this
 have hall1:∀j,j<ops.size->l1.getD j false=true:=fun j hj=>by rw[hl j hj];exact hall j hj
 have hsz:ops.size<l1.size:=by omega
 have hin:ops.size∈Region.ready .any (ops.push o) l1:=mem_ready.2 ⟨by simp[hsz]at hn ⊢;exact hn,o,hgl,fun e he' hb=>hall1 _ (ho e (by simpa using he') hb)⟩
 have hone:∀i∈Region.ready .any (ops.push o) l1,i=ops.size:=by
  intro i hi
  obtain⟨k1,x,hx,k2⟩:=mem_ready.1 hi
  have hlt:=(vae.1 hx).1
  by_cases hii:i=ops.size
  ·exact hii
  ·exfalso
   have hlt2:i<ops.size:=by simp at hlt;omega
   have:=hall1 i hlt2
   have e1:i<l1.size:=by omega
   simp[e1]at k1 this
   rw[this]at k1;cases k1
 have hdone:Region.ready .any (ops.push o) (l1.setIfInBounds ops.size true)=[]:=by
  apply vbq.2
  intro i hi
  obtain⟨k1,x,hx,k2⟩:=mem_ready.1 hi
  have hlt:=(vae.1 hx).1
  have e1:i<l1.size:=by simp at hlt;omega
  by_cases hii:i=ops.size
  ·subst hii;simp[e1]at k1
  ·have:=hall1 i (by simp at hlt;omega)
   simp[e1,vbx,Ne.symm hii]at k1 this
   rw[this]at k1;cases k1
 unfold wpAny
 refine⟨fun h=>(by rw[h]at hin;cases hin),fun i hi=>?_⟩
 rw[hone i hi]
 refine wpOp_mono (fun a w hq=>?_) (hlast a w hq)
 cases n with
 |zero=>exact⟨hdone,hq⟩
 |succ n=>exact⟨fun _=>hq,fun i hi=>by rw[hdone]at hi;cases hi⟩
theorem Sc{ops:Array Oper}{o:Oper}(hQ:∀e a w,Q1 e a w->e=.normal)
  (hlast:∀a w,Q1 .normal a w->wpOp P (ops.push o) Q ops.size (Q .normal) a w)
  (hg:∀(i:Nat) (x:Oper) j b,ops[i]? =some x->x.guard=some (j,b)->j<ops.size)
  (he:∀(k:Nat) (x:Oper),ops[k]? =some x->∀e∈x.after.toList,Region.binds .any e=true->e.on<k)
  (ho:∀e∈o.after.toList,Region.binds .any e=true->e.on<ops.size)
  (hb:∀i,i<ops.size->(jk (E2 ops.toList) o).testBit i=true):
  ∀(fuel:Nat) (l0 l1:Array Bool) (a:Act) (w:World),l0.size=ops.size->l1.size=ops.size+1->(∀i,i<ops.size->l1.getD i false=l0.getD i false)->l1.getD ops.size false=false->Xn ops l0->
   wpAny P .any ops Q1 fuel l0 a w->wpAny P .any (ops.push o) Q (fuel+1) l1 a w:=by
 have hget:∀k,k<ops.size->(ops.push o)[k]? =ops[k]?:=fun k hk=>by rw[vbC,vaz (by omega)]
 have hgl:(ops.push o)[ops.size]? =some o:=by simp
 intro fuel
 induction fuel with
 |zero=>
  intro l0 l1 a w h0 h1 hl hn hd h
  exact N5 hlast he ho h0 h1 hl hn (by unfold wpAny at h;exact h.1) (by unfold wpAny at h;exact h.2) 0
 | succ fuel ih =>
  intro l0 l1 a w h0 h1 hl hn hd h
  by_cases hr:Region.ready .any ops l0=[]
  ·exact N5 hlast he ho h0 h1 hl hn hr (by unfold wpAny at h;exact h.1 hr) (fuel+1)
  ·unfold wpAny at h ⊢
   have hmem:∀i,i∈Region.ready .any (ops.push o) l1->i<ops.size/\i∈Region.ready .any ops l0:=by
    intro i hi
    obtain⟨k1,x,hx,k2⟩:=mem_ready.1 hi
    have hne:i≠ops.size:=by
     intro hin
     subst hin
     rw[hgl]at hx;cases hx
     apply hr
     have hall:∀j,j<ops.size->cZ l0 j:=by
      intro j hj
      obtain⟨e,e1,e2,e3⟩:=F9 (hb j hj)
      have hle:=ho e e1 e2
      have hle2:cZ l0 e.on:=by unfold cZ;rw[<-hl e.on hle];exact k2 e (by simpa using e1) e2
      rcases e3 with rfl|e3
      ·exact hle2
      ·exact HN hd e.on _ (vaM hle) (hd e.on _ (vaM hle) hle2) j e3
     apply vbq.2
     intro j hj
     obtain⟨q1,y,hy,_⟩:=mem_ready.1 hj
     have hjs:=(vae.1 hy).1
     have:=hall j hjs
     unfold cZ at this
     have hjs':j<l0.size:=by omega
     simp[hjs']at q1 this
     rw[this]at q1;cases q1
    have hlt:i<ops.size:=by
     have:=(vae.1 hx).1
     simp at this;omega
    refine⟨hlt,mem_ready.2 ⟨?_,x,by rw[<-hget i hlt];exact hx,fun e he1 he2=>?_⟩⟩
    ·have e1:i<l1.size:=by omega
     have e2:i<l0.size:=by omega
     have:=hl i hlt
     simp[e1,e2]at k1 this ⊢
     rw[<-this];exact k1
    ·have hlte:=he i x (by rw[<-hget i hlt];exact hx) e (by simpa using he1) he2
     rw[<-hl e.on (by omega)];exact k2 e he1 he2
   have hne:Region.ready .any (ops.push o) l1≠[]:=by
    intro hnil
    apply hr
    apply vbq.2
    intro j hj
    obtain⟨q1,y,hy,q2⟩:=mem_ready.1 hj
    have hjs:=(vae.1 hy).1
    have:j∈Region.ready .any (ops.push o) l1:=mem_ready.2 ⟨by
      have e1:j<l1.size:=by omega
      have e2:j<l0.size:=by omega
      have:=hl j hjs
      simp[e1,e2]at q1 this ⊢
      rw[this];exact q1,y,by rw[hget j hjs];exact hy,fun e he1 he2=>by
      have hlte:=he j y hy e (by simpa using he1) he2
      rw[hl e.on (by omega)];exact q2 e he1 he2⟩
    rw[hnil]at this;cases this
   refine⟨fun h=>absurd h hne,fun i hi=>?_⟩
   obtain⟨hlt,hi0⟩:=hmem i hi
   obtain⟨q1,y,hy,q2⟩:=mem_ready.1 hi0
   refine wpOp_mono (fun a w hh=>ih (l0.setIfInBounds i true) (l1.setIfInBounds i true) a w (by simpa using h0) (by simpa using h1) (fun k hk=>?_) ?_ ?_ hh) (Ug hQ hlt (fun x j b hx=>hg i x j b hx) (h.2 i hi0))
   ·by_cases hki:k=i
    ·subst hki
     have e1:k<l1.size:=by omega
     have e2:k<l0.size:=by omega
     simp[e1,e2]
    ·have:=hl k hk
     have e1:k<l1.size:=by omega
     have e2:k<l0.size:=by omega
     simp[e1,e2,vbx,Ne.symm hki]at this ⊢
     exact this
   ·have e1:ops.size<l1.size:=by omega
    have hki:¬i=ops.size:=by omega
    simp[e1,vbx,hki]at hn ⊢
    exact hn
   ·intro j x hx hj e he1 he2
    have hset:∀k,cZ (l0.setIfInBounds i true) k↔(k=i\/cZ l0 k):=fun k=>by
     unfold cZ
     by_cases hk:k<l0.size
     ·by_cases hki:k=i
      ·subst hki;simp[hk]
      ·simp[hk,vbx,Ne.symm hki,hki]
     ·simp[hk];intro hki;subst hki;omega
    rw[hset]at hj ⊢
    rcases hj with rfl|hj
    ·rw[hy]at hx;cases hx
     exact .inr (q2 e (by simpa using he1) he2)
    ·exact .inr (hd j x hx hj e he1 he2)
end
def RI(l:List Oper)(an:List Nat)(o:Oper):Bool:=
 (ft o&&(!aK o.op&&o.guard.isNone))&&(o.after.all (fun e=>!Region.binds .any e||decide (e.on<l.length))&&
 ((List.range l.length).all (fun i=>(jk an o).testBit i)&&l.all fun x=>match x.guard with
  |some (j,_)=>decide (j<l.length)
  |none=>true))
section
variable{P:Program}{GE:List (Nat×List PVal)}{A:List Nat}
theorem vq{bid:Nat->Option (Nat×aC)}{rw:List Nat}{ops:Array Oper}{K K':List (List Rs)->aB->Prop}(hK:∀lg st,K lg st->K' lg st):∀(L:List Oper) (id:Nat) (lg:List (List Rs)) (st:aB),my P GE bid rw ops K L id lg st->my P GE bid rw ops K' L id lg st
 |[],_,lg,st,h=>hK lg st h
 | o :: L,id,lg,st,h => by
  unfold my at h ⊢
  split at h
  ·obtain⟨s',rs,h1,h2⟩:=h
   exact⟨s',rs,h1,vq hK L _ _ _ h2⟩
  ·split at h
   ·refine⟨fun hx=>?_,fun hx=>vq hK L _ _ _ (h.2 hx)⟩
    obtain⟨s',rs,h1,h2⟩:=h.1 hx
    exact⟨s',rs,h1,vq hK L _ _ _ h2⟩
   ·exact h
theorem qO{ops:Array Oper}{K K':aB->Prop}(hK:∀st,K st->K' st):∀(L:List Oper) (id:Nat) (st:aB),dn P GE A ops K L id st->dn P GE A ops K' L id st
 |[],_,st,h=>hK st h
 | o :: L,id,st,h => by
  unfold dn at h ⊢
  split at h
  ·exact tR (fun st hx=>qO hK L _ st hx) h
  ·split at h
   ·exact⟨fun hx=>tR (fun st hx=>qO hK L _ st hx) (h.1 hx),fun hx=>qO hK L _ _ (h.2 hx)⟩
   ·exact h
theorem Pq{o:Oper}(h:aK o.op=false):gb P [o]=[]:=by
 have:=A7 P [o]
 simp[cf,h]at this
 exact this
theorem aW.drawL{m:Nat}(hf:P.follows .mixedOrders=true){id:Nat}{ops:Array Oper}{o:Oper}{an:List Nat}{X:List aC}{br:List (Nat×Nat)}{rw:List Nat}{Q:Exit->aB->Prop}{st:aB}(hnd:ops.toList.all ft=true)(hl:RI ops.toList an o=true)
  (h:Pk P GE ops an X br rw (fun st'=>dn P GE A #[o] (Q .normal) [o] st'.boxes.length st') st):aW P GE m (.region id (ops.push o) true) Q st:=by
 unfold RI at hl
 simp only[vad,vaT,Option.isNone_iff_eq_none,vau,vbu,va4,vai,vbl]at hl
 obtain⟨⟨l1,l2,l3⟩,l4,l5,l6⟩:=hl
 intro ro E bs0 a w hE hb hR
 obtain⟨rfl,_,_,_⟩:=hE
 obtain⟨hD,han⟩:=Lk h.1
 refine lA (Ci (Q:=fun e a' w'=>e=.normal/\Nm P E bs0 a.defers Q .normal a' w') hf (by simp only[vce,List.all_append,vad];exact⟨hnd,by simp[l1]⟩) (by rintro⟨_,_,h,_⟩;cases h) ?_) fun e a' w' hq=>by obtain⟨rfl,hq⟩:=hq;exact hq
 have key:=Sc (P:=P) (ops:=ops) (o:=o) (Q:=fun e a' w'=>e=.normal/\Nm P E bs0 a.defers Q .normal a' w')
  (Q1:=fun e a' w'=>e=.normal/\a'.defers=a.defers/\∃st',Oo P E bs0 st' a' w'/\dn P E.GE A #[o] (Q .normal) [o] st'.boxes.length st')
  (fun e a w h=>h.1) (fun a1 w1 hq=>?_) (fun i x j b hx hg=>?_) (fun k x hx e he hb=>hD.f2 k x hx e he hb) (fun e he hb=>?_) (fun i hi=>?_)
  ops.size (Array.replicate ops.size false) (Array.replicate (ops.size+1) false) a {w with drawn:=w.drawn+1} (by simp) (by simp) (fun i hi=>by rw[tL,tL]) (by rw[tL]) (fun j x hx hj=>?_) ?_
 ·simpa using key
 ·obtain⟨_,hd,st',hR',hp⟩:=hq
  have hp2:dn P E.GE A #[o] (Q .normal) (#[o]:Array Oper).toList st'.boxes.length {st' with boxes:=st'.boxes++gb P (#[o]:Array Oper).toList}:=by
   simp only[Pq l2,va9]
   exact hp
  have ht:=EC (Q:=fun e a' w'=>e=.normal/\Nm P E bs0 a.defers Q .normal a' w') hR' hR'.len (fun a' w' st'' hd' hR'' hK=>⟨rfl,hd'.trans hd,st'',hR'',hK⟩) hp2
  rw[show List.range (#[o]:Array Oper).size=[0]from rfl,wpOps_cons]at ht
  unfold wpOp at ht ⊢
  rw[show((#[o]:Array Oper)[0]?)=some o from rfl]at ht
  rw[show(ops.push o)[ops.size]? =some o by simp]
  simp only[Region.wanted,l3,if_true]at ht ⊢
  refine ht.imp_left (Oper.wp_mono fun a2 w2 h2=>?_)
  exact⟨trivial,h2.2⟩
 ·have:=l6 x (vaC (by simpa using hx:ops.toList[i]? =some x))
  rw[hg]at this
  simpa using this
 ·have:=l4 e (by simpa using he)
  rcases this with hx|hx
  ·rw[hb]at hx;cases hx
  ·simpa using hx
 ·rw[han];exact l5 i (by simpa using hi)
 ·unfold cZ at hj;rw[tL]at hj;cases hj
 ·exact Gj hR hR.len (fun a' w' st' hd hR' hK=>⟨rfl,hd,st',hR',hK⟩) h
theorem Tf{ops:Array Oper}{an:List Nat}{X:List aC}{br:List (Nat×Nat)}{rw:List Nat}{K:List It->aB->Prop}{sc:List It}{st:aB}
  (h:E6 P GE A ops an X br rw K sc st):ops.toList.all ft=true/\Pk P GE ops an X br rw (fun st=>∃sc,K sc st) st:=by
 unfold E6 at h
 split at h
 ·rename_i hd
  rw[vad,vad]at hd
  obtain⟨hnd,hd⟩:=hd
  unfold JW at h
  rw[aP]at h
  split at h
  ·rename_i hr
   rw[aP]at h
   refine⟨hnd,hd.1,by rw[vad];exact⟨hd.2,hr⟩,?_⟩
   have:=vw _ _ _ _ _ _ h
   simpa using this
  ·exact h.elim
 ·exact h.elim
def OJ(P:Program)(GE:List (Nat×List PVal))(A:List Nat)(ops:Array Oper)(an:List Nat)(X:List aC)(br:List (Nat×Nat))(rw:List Nat)(K:List It->aB->Prop)(sc:List It)(st:aB):Prop:=
 match ops.toList.getLast? with
 |some o=>match RI ops.toList.dropLast an o with
  |true=>E6 P GE A ops.toList.dropLast.toArray an X br rw (fun sc st=>I1 P GE A #[o] K [o] 0 st.boxes.length sc st) sc st
  |false=>False
 |none=>False
theorem MV{m:Nat}(hf:P.follows .mixedOrders=true){id:Nat}{ops:Array Oper}{an:List Nat}{X:List aC}{br:List (Nat×Nat)}{rw:List Nat}{K:List It->aB->Prop}{sc:List It}{st:aB}{Q:Exit->aB->Prop}(hQ:∀st,(∃sc,K sc st)->Q .normal st)
  (h:OJ P GE A ops an X br rw K sc st):aW P GE m (.region id ops true) Q st:=by
 unfold OJ at h
 split at h
 ·rename_i o ho
  split at h
  ·rename_i hl
   have hops:ops=ops.toList.dropLast.toArray.push o:=by
    have h1:ops.toList.dropLast++[o]=ops.toList:=by
     have hne:ops.toList≠[]:=by intro hx;rw[hx]at ho;cases ho
     rw[List.getLast?_eq_some_getLast hne]at ho
     rw[<-vbj ho]
     exact List.dropLast_concat_getLast hne
    apply Array.toList_inj.1
    simp[h1]
   obtain⟨hnd,hp⟩:=Tf h
   have:=aW.drawL (P:=P) (GE:=GE) (A:=A) (m:=m) (id:=id) hf (Q:=fun e st=>e=.normal/\∃sc,K sc st) hnd (by simpa using hl) (o:=o) (by
    refine⟨hp.1,hp.2.1,?_⟩
    refine vq (fun lg st' hx=>⟨hx.1,?_⟩) _ _ _ _ hp.2.2
    obtain⟨sc',hx⟩:=hx.2
    refine qO (fun st hx=>⟨rfl,hx⟩) _ _ _ (wB _ _ _ _ _ hx))
   rw[hops]
   exact this.imp fun e st hx=>by obtain⟨rfl,hx⟩:=hx;exact hQ st hx
  ·exact h.elim
 ·exact h.elim
end
def FG(st st0:aB):Prop:=NF st.tmps st0.tmps=st0.tmps/\PC st.boxes st0.boxes=st0.boxes/\(st0.own.all fun x=>decide (x∈st.own))=true
theorem fr(st:aB):st.tmps=st.tmps/\st.boxes=st.boxes/\true=true:=⟨rfl,rfl,rfl⟩
theorem FG.weak{P:Program}{m:Nat}{st st0:aB}(h:FG st st0):Bq P m st st0:=by
 obtain⟨h1,h2,h3⟩:=h
 have:=Bq.forget (P:=P) (m:=m) (st:=st) st0.tmps st0.boxes st0.own (fun x hx=>by simpa using vau.1 h3 x hx)
 rw[h1,h2]at this
 exact this
def xO(P:Program)(GE:List (Nat×List PVal))(A:List Nat)(m:Nat):Code->List It->aB->(Exit->List It->aB->Prop)->Prop
 |.skip,sc,st,K=>K .normal sc st
 |.label _,sc,st,K=>K .normal sc st
 | .region _ ops draw,sc,st,K => match draw with
  |false=>match ops.toList.all ft with
   |true=>JW st.boxes (gb P ops.toList) fun H=>I1 P GE A ops (K .normal) ops.toList 0 st.boxes.length sc ⟨st.tmps,H,st.own⟩
   |false=>False
  |true=>match sc with
   |.dr an::sc'=>E6 P GE A ops an [] [] [] (K .normal) sc' st
   |.dx an X br rw::sc'=>E6 P GE A ops an X br rw (K .normal) sc' st
   |.k::.dx an X br rw::sc'=>OJ P GE A ops an X br rw (K .normal) sc' st
   |_=>False
 | .seq a b,sc,st,K =>
  let after (e:Exit) (sc:List It) (st:aB):Prop:=match e with
   |.normal=>UL m sc st fun sc st=>xO P GE A m b sc st K
   |e=>K e sc st
  match sc with
  |.pa 0::.pc st0 e st1::sc'=>FG st st0/\aW P GE m a (EX e st1) st0/\after e sc' st1
  |.pa (n+1)::sc'=>xO P GE A m a (.pa n::sc') st after
  |sc=>xO P GE A m a sc st after
 | .cond c a b,sc,st,K => pQ GE st.tmps c fun v => match v with
  | .bool t => match sc with
   |.k::sc'=>match t with
    |true=>UL m sc' st fun sc st=>xO P GE A m a sc st K
    |false=>UL m sc' st fun sc st=>xO P GE A m b sc st K
   |.g _ x::sc'=>t=x/\match x with
    |true=>UL m sc' st fun sc st=>xO P GE A m a sc st K
    |false=>UL m sc' st fun sc st=>xO P GE A m b sc st K
   |_=>False
  |_=>False
 |.block id c,sc,st,K=>xO P GE A m c sc st fun e sc st=>match e with
  |.exit id'=>if id'=id then K .normal sc st else K (.exit id') sc st
  |e=>K e sc st
 |.exit id,sc,st,K=>K (.exit id) sc st
 |.ret,sc,st,K=>K .ret sc st
 |.loop c,sc,st,K=>match sc with
  |.pc st0 e st1::sc'=>FG st st0/\aW P GE m (.loop c) (EX e st1) st0/\K e sc' st1
  |_=>False
 |_,_,_,_=>False
section
variable{P:Program}{GE:List (Nat×List PVal)}{A:List Nat}{m:Nat}
theorem iV(hf:P.follows .mixedOrders=true):∀(c:Code) (sc:List It) (st:aB) (K:Exit->List It->aB->Prop),xO P GE A m c sc st K->aW P GE m c (fun e st'=>∃sc',K e sc' st') st
 |.skip,sc,st,K,h=>aW.skip ⟨sc,h⟩
 |.label _,sc,st,K,h=>aW.label ⟨sc,h⟩
 | .region id ops draw,sc,st,K,h => by
  simp only[xO]at h
  cases draw with
  | false =>
   simp only at h
   split at h
   ·rename_i hd
    simp only[JW,aP]at h
    exact aW.text hd (wB _ _ _ _ _ h)
   ·exact h.elim
  | true =>
   simp only at h
   split at h
   ·exact Gl hf (fun st hx=>hx) h
   ·exact Gl hf (fun st hx=>hx) h
   ·exact MV hf (fun st hx=>hx) h
   ·exact h.elim
 | .seq a b,sc,st,K,h => by
  have aft:∀(e:Exit) (sc':List It) (st':aB),(match e with|.normal=>UL m sc' st' (fun sc st=>xO P GE A m b sc st K)|e=>K e sc' st')->(match e with|.normal=>aW P GE m b (fun e st'=>∃sc',K e sc' st') st'|e=>∃sc',K e sc' st'):=by
   intro e sc' st' hx
   cases e with
   |normal=>
    obtain⟨sc2,st2,hw,hx⟩:=RC (P:=P) hx
    exact aW.weak hw (iV hf b sc2 st2 K hx)
   |exit id=>exact⟨_,hx⟩
   |goto l=>exact⟨_,hx⟩
   |ret=>exact⟨_,hx⟩
   |panic c=>exact⟨_,hx⟩
   |outgrown=>exact⟨_,hx⟩
  simp only[xO]at h
  refine aW.seq ?_
  split at h
  ·rename_i st0 e st1 sc'
   obtain⟨h1,h2,h3⟩:=h
   refine aW.weak h1.weak (EX.of h2 ?_)
   have:=aft e sc' st1 h3
   cases e<;>exact this
  ·exact(iV hf a _ st _ h).imp fun e st' hx=>by
    obtain⟨sc',hx⟩:=hx
    have:=aft e sc' st' hx
    cases e<;>exact this
  ·exact(iV hf a _ st _ h).imp fun e st' hx=>by
    obtain⟨sc',hx⟩:=hx
    have:=aft e sc' st' hx
    cases e<;>exact this
 | .cond c a b,sc,st,K,h => by
  simp only[xO,b7]at h
  have go:∀{x:Code} (hx:∀(sc:List It) (st:aB),xO P GE A m x sc st K->aW P GE m x (fun e st'=>∃sc',K e sc' st') st) {sc:List It},UL m sc st (fun sc st=>xO P GE A m x sc st K)->aW P GE m x (fun e st'=>∃sc',K e sc' st') st:=by
   intro x hx sc h
   obtain⟨sc2,st2,hw,h⟩:=RC (P:=P) h
   exact aW.weak hw (hx sc2 st2 h)
  split at h
  ·rename_i t ht
   split at h
   ·rename_i sc'
    refine aW.cond ht (fun h1=>?_) (fun h1=>?_)
    ·subst h1;exact go (fun sc st=>iV hf a sc st K) h
    ·subst h1;exact go (fun sc st=>iV hf b sc st K) h
   ·rename_i j x sc'
    obtain⟨rfl,h⟩:=h
    refine aW.cond ht (fun h1=>?_) (fun h1=>?_)
    ·subst h1;exact go (fun sc st=>iV hf a sc st K) h
    ·subst h1;exact go (fun sc st=>iV hf b sc st K) h
   ·exact h.elim
  ·exact h.elim
 | .block id c,sc,st,K,h => by
  simp only[xO]at h
  refine aW.block ((iV hf c _ st _ h).imp fun e st' hx=>?_)
  obtain⟨sc',hx⟩:=hx
  cases e with
  | exit id' =>
   simp only[Rj]
   simp only at hx
   split at hx
   ·rename_i hid;rw[vax hid];exact⟨sc',hx⟩
   ·rename_i hid;rw[vaz hid];exact⟨sc',hx⟩
  |normal=>exact⟨sc',hx⟩
  |goto l=>exact⟨sc',hx⟩
  |ret=>exact⟨sc',hx⟩
  |panic c=>exact⟨sc',hx⟩
  |outgrown=>exact⟨sc',hx⟩
 |.exit id,sc,st,K,h=>aW.exit ⟨sc,h⟩
 |.ret,sc,st,K,h=>aW.ret ⟨sc,h⟩
 | .loop c,sc,st,K,h => by
  simp only[xO]at h
  split at h
  ·rename_i st0 e st1 sc'
   obtain⟨h1,h2,h3⟩:=h
   exact aW.weak h1.weak (EX.of h2 ⟨sc',h3⟩)
  ·exact h.elim
 |.rangeFunc ..,_,_,_,h=>by simp[xO]at h
 |.scope _,_,_,_,h=>by simp[xO]at h
 |.goto _,_,_,_,h=>by simp[xO]at h
 |.refuse _,_,_,_,h=>by simp[xO]at h
def FN(e0:Exit)(st0:aB):Exit->List It->aB->Prop:=fun e _ st=>e0=e/\FG st st0
theorem piece(hf:P.follows .mixedOrders=true){c:Code}{e0:Exit}{st0 st:aB}(sc:List It)(h:xO P GE A m c sc st (FN e0 st0)):aW P GE m c (EX e0 st0) st:=
 (iV hf c sc st _ h).mono fun _ _ hx=>by
  obtain⟨_,hx⟩:=hx
  exact⟨st0,hx.2.weak,hx.1.symm,rfl⟩
theorem next(hf:P.follows .mixedOrders=true){σ X:Type}{S:σ->aB}{ex:X->Exit}{so:X->aB}{c:Code}{s:σ}{st:aB}(sc:List It)(h:xO P GE A m c sc st (FN .normal (S s))):aW P GE m c (LQ S ex so (.inl s)) st:=
 (piece hf sc h).imp fun _ _ hx=>⟨hx.1,hx.2⟩
theorem qbm(hf:P.follows .mixedOrders=true){σ X:Type}{S:σ->aB}{ex:X->Exit}{so:X->aB}{c:Code}{x:X}{st:aB}(sc:List It)(hn:ex x≠.normal)(h:xO P GE A m c sc st (FN (ex x) (so x))):aW P GE m c (LQ S ex so (.inr x)) st:=
 (piece hf sc h).imp fun _ _ hx=>⟨by rw[hx.1];exact hn,hx.1,hx.2⟩
def DB(rs:List ResultVar)(ro:List (Nat×TypeId))(st:aB):Bool:=
 ro.all (fun x=>decide ((dH rs x.1,x.2)∈st.own)&&(match rs with
  |[.tmp _]=>true
  |[_]=>false
  |rs=>match rs[x.1]? with
   |some (.tmp t)=>(st.tmps.getD t .undef).isSlice
   |_=>false))&&ro.all (fun x=>ro.all fun y=>!decide (dH rs x.1=dH rs y.1)||decide (x.1=y.1))
def PVal.isAgg:PVal->Bool
 |.agg _=>true
 |_=>false
def Ps(P:Program)(rs:List ResultVar)(r:PVal)(ro:List (Nat×TypeId))(st:aB):Prop:=
 ∃(t:Tmp) (ty:TypeId) (i off:Nat) (cs:List PVal) (own:List (Nat×TypeId)) (l:List PVal),rs=[.cell t ty]/\(∃fs,P.underlying ty=some (.struct fs))/\st.tmps.getD t .undef=.bptr i off/\st.boxes[i]? =some (.cells cs own)/\
  r=.agg l/\bo P ty (cs.drop off)=some (.agg l)/\r.cl 0/\(∀x∈ro,(off+x.1,x.2)∈own/\x.1<l.length)/\(ro.map (·.1)).Nodup
def VB(P:Program)(rs:List ResultVar)(r:PVal)(ro:List (Nat×TypeId))(e:Exit)(st:aB):Prop:=
 ZA P rs r ro [] e st\/((e=.normal\/e=.ret)/\Ps P rs r ro st)
def SO(P:Program)(rs:List ResultVar)(ro:List (Nat×TypeId))(st:aB):Bool:=match rs with
 | [.cell t ty] => match P.underlying ty with
  | some (.struct _) => match st.tmps.getD t .undef with
   |.bptr i off=>match st.boxes[i]? with
    |some (.cells _ own)=>ro.all (fun x=>decide ((off+x.1,x.2)∈own)&&decide (x.1<P.cellsOf ty))&&ug (ro.map (·.1))
    |_=>false
   |_=>false
  |_=>false
 |_=>false
section
variable{P:Program}{E:rD}{Γ:aU}{bs:bD}{ow:Nat->Option lX}{w:World}{a:Array Value}{st:aB}
theorem SR.pushed(h:SR P E Γ bs ow w a st){v:Value}{p:PVal}(hv:VR Γ bs w p v):SR P E Γ bs ow w (a.push v) {st with tmps:=st.tmps++[p]}:=
 { h with
  sz:=by simp[h.sz]
  tm:=fun t q u hq hu=>by
   by_cases ht:t<a.size
   ·rw[vcp ht]at hu
    simp only at hq
    rw[vac (by rw[<-h.sz];exact ht)]at hq
    exact h.tm t q u hq (by rw[<-hu];simp[ht])
   ·have hlt:t<(a.push v).size:=(vae.1 hu).1
    have ht2:t=a.size:=by simp at hlt;omega
    subst ht2
    simp only at hq
    rw[vaf (by rw[h.sz];exact vam _),h.sz]at hq
    simp at hq hu
    subst hq;subst hu;exact hv
  ot:=fun t k e he=>by
   obtain⟨u,v',h1,h2,h3,h4⟩:=h.ot t k e he
   have hlt:t<a.size:=(vae.1 h1).1
   exact⟨u,v',by rw[vcp hlt,<-h1];simp[hlt],h2,h3,h4⟩}
theorem SR.finishCell(h:SR P E Γ bs ow w a st){fn:Func}{r:PVal}{ro:List (Nat×TypeId)}(hr:Ps P fn.results.toList r ro st):∃v ow',(results fn a).run P w=.ok v w/\SR P E Γ [] ow' w #[v] ⟨[r],[],ro.map fun x=>((0,x.1),x.2)⟩:=by
 obtain⟨t,ty,i,off,cs,own,l,hrs,⟨fs,hfs⟩,ht,hB,rfl,hp,hcl,hro,hnd⟩:=hr
 have hrv:Fr P st fn.results.toList=some (.agg l):=by
  rw[hrs]
  show kV P ty (st.tmps.getD t .undef) st.boxes=_
  rw[ht]
  simp only[kV,hB,hp]
 obtain⟨v,e1,e2,_⟩:=tT h hrv
 have hvt:=h.getD t
 rw[ht]at hvt
 generalize hva:a.getD t undef=vt at hvt
 cases hvt with
 |bptr _ _ b hb=>
 obtain⟨v2,q1,q2,q3⟩:=Fd h hb hB hp
 have hvv:v2=v:=by
  have hres:fn.results=#[.cell t ty]:=by
   have:fn.results=fn.results.toList.toArray:=by simp
   rw[this,hrs]
  have hrun:(results fn a).run P w=.ok v2 w:=by
   simp[results,hres,asAddr]
   have hva':a[t]?.getD undef=.pointer (some ⟨b,off,none⟩):=by rw[<-vas];exact hva
   rw[hva']
   simp[q1]
  rw[e1]at hrun
  cases hrun
  rfl
 subst hvv
 have g1:=h.pushed e2
 obtain⟨ow',g2⟩:=SR.takeOwns (off:=off) (d:=a.size) (u:=v2) hb (by simp) ro g1 hB (fun x hx=>(hro x hx).1) hnd fun x hx=>by
  have:=q3 ⟨_,hfs,trivial⟩ x.1 (hro x hx).2
  obtain⟨v',z1,_⟩:=h.ob i (off+x.1) x.2 cs own b hB (hro x hx).1 hb
  exact⟨v',this.trans z1,z1⟩
 refine⟨v2,y5 (fun k=>(a.size,k)) ro ow',e1,?_⟩
 have hf:=g2.finish (H':=[]) (src:=fun k=>(a.size,k)) (ro:=ro) e2 hcl (by unfold dF;trivial) (fun x hx=>⟨?_,fun u v' hu hv'=>?_⟩) (fun x _ y _ e=>by simpa using e)
 ·simpa using hf
 ·exact va0 _ (vb2.2 (vah.2 ⟨x,hx,rfl⟩))
 ·simp at hu;subst hu;exact hv'
end
def YD(P:Program)(rs:List ResultVar)(r:PVal)(ro:List (Nat×TypeId))(st:aB):Prop:=match DB rs ro st with
 |true=>match Fr P st rs with
  |some p=>p=r/\r.cl 0
  |none=>False
 | false => match SO P rs ro st with
  |true=>match Fr P st rs with
   |some p=>p=r/\r.cl 0/\r.isAgg=true
   |none=>False
  |false=>False
def FR(P:Program)(rs:List ResultVar)(r:PVal)(ro:List (Nat×TypeId)):Exit->List It->aB->Prop:=fun e _ st=>match e with
 |.normal=>YD P rs r ro st
 |.ret=>YD P rs r ro st
 |_=>False
theorem C.ofSat{f:FuncId}{fn:Func}{c:Code}{args:List PVal}{r:PVal}{ro:List (Nat×TypeId)}
  (hcall:∀vs w,(callFunc f vs).run P w=.ok (.enter f vs) w) (hfn:P.funcs[f]? =some fn) (hb:fn.body=some c)
  (hp:aW P GE 0 c (VB P fn.results.toList r ro) ⟨args++List.replicate (fn.ntmps - args.length) .undef,[],[]⟩):C P GE f args [] [] r ro []:=by
 refine⟨hcall,fun Γ bs ow w vs h=>calls_of_wp hfn hb ?_⟩
 have hbl:bs.length=0:=h.bl
 obtain rfl:bs=[]:=vao hbl
 have h0:SR P ⟨GE,Γ,w,fun _=>False⟩ Γ [] (fun _=>none) w (vs++Array.replicate (fn.ntmps - vs.size) undef) ⟨args++List.replicate (fn.ntmps - args.length) .undef,[],[]⟩:=by
  have hsz:vs.size=args.length:=h.sz
  exact{
   wi:=h.wi
   sz:=by simp[hsz]
   tm:=fun t p v hp hv=>by
    simp only at hp
    by_cases ht:t<args.length
    ·rw[vac ht]at hp
     rw[vaR (by omega)]at hv
     exact h.tm t p v hp hv
    ·rw[vaf (by omega),vaW]at hp
     split at hp<;>cases hp
     exact .undef v
   bl:=rfl
   bx:=fun i b B hi=>by simp at hi
   inj:=fun i j b hi=>by simp at hi
   bn:=fun i b hi=>by simp at hi
   on:=fun b L hL=>by cases hL
   ot:=fun t k e he=>by simp at he
   ob:=fun i j e cs own b hB=>by simp at hB
   gl:=h.gl
   gc:=h.gc
   gx:=fun g cs hg=>⟨(h.gx g cs hg).1,fun hx=>hx,(h.gx g cs hg).2.2⟩
   step:=.refl _ _ _ _}
 have hE:tC GE 0 ⟨GE,Γ,w,fun _=>False⟩:={
  ge:=rfl
  low:=fun b n hb=>h.lt_of_ghost hb
  nt:=fun _ _ hx=>hx
  gl:=h.gl}
 have hwp:=hp none ⟨GE,Γ,w,fun _=>False⟩ [] ⟨vs++Array.replicate (fn.ntmps - vs.size) undef,[]⟩ w hE rfl ⟨Γ,[],_,h0,fun i _=>rfl⟩
 refine wp_mono hwp fun e a w' hq=>?_
 obtain⟨hd,st,⟨Γ1,bs1,ow1,hS0,hk⟩,hQ⟩:=hq
 have hS:SR P ⟨GE,Γ,w,bj [] ow⟩ Γ1 bs1 ow1 w' a.tmps st:={hS0 with
  bn:=fun i b hb=>(hS0.bn i b hb).elim False.elim .inr
  on:=fun b L hL=>⟨(hS0.on b L hL).1,(hS0.on b L hL).2.elim False.elim .inr⟩
  gx:=h.gx
  step:={hS0.step with keep:=fun b hb _=>hS0.step.keep b hb (fun hx=>hx)}}
 have key:(Fr P st fn.results.toList=some r/\r.cl 0/\dF 0 st.boxes []/\(∀x∈ro,(dH fn.results.toList x.1,x.2)∈st.own/\qP st fn.results.toList x.1)/\
   (∀x∈ro,∀y∈ro,dH fn.results.toList x.1=dH fn.results.toList y.1->x.1=y.1))->
   a.defers=[]/\∃v,(results fn a.tmps).run P w'=.ok v w'/\∃v' Γ' ow',Ending.returned v=.returned v'/\SR P ⟨GE,Γ,w,bj [] ow⟩ Γ' [] ow' w' #[v'] ⟨[r],[],ro.map fun x=>((0,x.1),x.2)⟩:=by
  rintro⟨k1,k2,k3,k4,k5⟩
  obtain⟨v,e1,e2,e3⟩:=tT hS k1
  refine⟨hd,v,e1,v,Γ1,y5 (dH fn.results.toList) ro ow1,rfl,?_⟩
  have hf:=hS.finish (H':=[]) (src:=dH fn.results.toList) (ro:=ro) e2 k2 k3 (fun x hx=>⟨(k4 x hx).1,fun u v'=>e3 x.1 u v' (k4 x hx).2⟩) k5
  simpa using hf
 have key2:Ps P fn.results.toList r ro st->
   a.defers=[]/\∃v,(results fn a.tmps).run P w'=.ok v w'/\∃v' Γ' ow',Ending.returned v=.returned v'/\SR P ⟨GE,Γ,w,bj [] ow⟩ Γ' [] ow' w' #[v'] ⟨[r],[],ro.map fun x=>((0,x.1),x.2)⟩:=by
  intro hc
  obtain⟨v,ow',e1,e2⟩:=hS.finishCell hc
  exact⟨hd,v,e1,v,Γ1,ow',rfl,e2⟩
 rcases hQ with hQ|⟨he,hQ⟩
 ·cases e with
  |normal=>exact key hQ
  |ret=>exact key hQ
  |exit id=>exact hQ.elim
  |goto l=>exact hQ.elim
  |panic c=>exact hQ.elim
  |outgrown=>exact hQ.elim
 ·rcases he with rfl|rfl
  ·exact key2 hQ
  ·exact key2 hQ
theorem L9{rs:List ResultVar}{r:PVal}{ro:List (Nat×TypeId)}{st:aB}(hc:DB rs ro st=true)(hp:Fr P st rs=some r)(hcl:r.cl 0):Fr P st rs=some r/\r.cl 0/\dF 0 st.boxes []/\(∀x∈ro,(dH rs x.1,x.2)∈st.own/\qP st rs x.1)/\
      (∀x∈ro,∀y∈ro,dH rs x.1=dH rs y.1->x.1=y.1):=by
  unfold DB at hc
  rw[vad]at hc
  obtain⟨c1,c2⟩:=hc
  refine⟨hp,hcl,by unfold dF;cases st.boxes<;>trivial,fun x hx=>?_,fun x hx y hy hxy=>?_⟩
  · have:=vau.1 c1 x hx
    rw[vad]at this
    refine⟨by simpa using this.1,?_⟩
    have h2:=this.2
    clear hp this c1 c2
    rcases rs with _|⟨y,_|⟨z,rs⟩⟩
    ·simp at h2
    · cases y with
      |tmp t=>trivial
      |cell t ty=>cases h2
    · have key:∀ o:Option ResultVar,(match o with
        |some (.tmp t)=>(st.tmps.getD t .undef).isSlice
        |_=>false)=true->(match o with
        |some (.tmp t)=>(st.tmps.getD t .undef).isSlice=true
        |_=>False):=by
        intro o
        cases o with
        |none=>intro h;cases h
        |some q=>cases q<;>intro h<;>first|exact h|cases h
      cases y with
      |tmp t=>exact key _ h2
      |cell t ty=>exact key _ h2
  · have:=vau.1 (vau.1 c2 x hx) y hy
    simpa[hxy]using this
theorem YD.to{rs:List ResultVar}{r:PVal}{ro:List (Nat×TypeId)}{st:aB}{e:Exit}(he:e=.normal\/e=.ret)(h:YD P rs r ro st):VB P rs r ro e st:=by
 unfold YD at h
 split at h
 ·rename_i hc
  split at h
  ·rename_i p hp
   obtain⟨rfl,hcl⟩:=h
   have:=L9 hc hp hcl
   rcases he with rfl|rfl<;>exact .inl this
  ·exact h.elim
 ·split at h
  ·rename_i hc
   split at h
   ·rename_i p hp
    obtain⟨rfl,hcl,hagg⟩:=h
    refine .inr ⟨he,?_⟩
    unfold SO at hc
    split at hc
    ·rename_i t ty _
     split at hc
     ·rename_i fs hfs
      split at hc
      ·rename_i i off ht
       split at hc
       ·rename_i cs own hB
        rw[vad]at hc
        obtain⟨c1,c2⟩:=hc
        have hpl:bo P ty (cs.drop off)=some p:=by
         have hp':kV P ty (st.tmps.getD t .undef) st.boxes=some p:=hp
         rw[ht]at hp'
         simpa only[kV,hB]using hp'
        cases p<;>simp only[PVal.isAgg]at hagg<;>first|(cases hagg;done)|skip
        rename_i l
        have hlen:l.length=P.cellsOf ty:=by
         have hq:=hpl
         unfold bo at hq
         rw[hfs]at hq
         simp only at hq
         split at hq
         ·rename_i hh;cases hq;rw[vbk];omega
         ·cases hq
        refine⟨t,ty,i,off,cs,own,l,rfl,⟨fs,hfs⟩,ht,hB,rfl,hpl,hcl,fun x hx=>?_,pP c2⟩
        have:=vau.1 c1 x hx
        simp only[vad,vai]at this
        exact⟨this.1,by rw[hlen];exact this.2⟩
       ·cases hc
      ·cases hc
     ·cases hc
    ·cases hc
   ·exact h.elim
  ·exact h.elim
theorem FR.to{rs:List ResultVar}{r:PVal}{ro:List (Nat×TypeId)}{e:Exit}{sc:List It}{st:aB}(h:FR P rs r ro e sc st):VB P rs r ro e st:=by
 unfold FR at h
 split at h
 ·exact h.to (.inl rfl)
 ·exact h.to (.inr rfl)
 ·exact h.elim
theorem C.ev(hf:P.follows .mixedOrders=true){f:FuncId}{fn:Func}{c:Code}{args:List PVal}{r:PVal}{ro:List (Nat×TypeId)}
  (hcall:∀vs w,(callFunc f vs).run P w=.ok (.enter f vs) w) (hfn:P.funcs[f]? =some fn) (hb:fn.body=some c) (hcl:jl 0 args) (sc:List It)
  (h:xO P GE A 0 c sc ⟨args++List.replicate (fn.ntmps - args.length) .undef,[],[]⟩ (FR P fn.results.toList r ro)):CC P GE f args r ro:=
 ⟨hcl,C.ofSat hcall hfn hb ((iV hf c sc _ _ h).imp fun e st hx=>by obtain⟨sc',hx⟩:=hx;exact hx.to)⟩
end
abbrev ae:=List UInt8
abbrev bB(n:Int):Int:=IntKind.i64.wrap n
def cS(s:ae):List PVal:=[.str s]
def cI(k:IntKind)(n:Int):List PVal:=[.int k n]
def cB(b:Bool):List PVal:=[.bool b]
def sl{α:Type}(c:α->List PVal)(l:List α):PVal:=.slice (l.map c)
def cL{α:Type}(c:α->List PVal)(l:List α):List PVal:=[sl c l]
def DJ(s:ae)(i:Int):Option Int:=(eT s i).map fun c=>(c.toNat:Int)
def bd:Option Int->Nat->Option Nat
 |none,d=>some d
 |some i,_=>if 0<=i then some i.toNat else none
def WW{α:Type}(l:List α)(lo hi:Option Int):Option (List α):=
 match bd lo 0,bd hi l.length with
 |some a,some b=>if a<=b/\b<=l.length then some ((l.take b).drop a)else none
 |_,_=>none
def app{α:Type}(l r:List α):Option (List α):=if l.length+r.length<=dw then some (l++r)else none
def qa5(a b:ae):Option ae:=if a.length+b.length<=RJ then some (a++b)else none
def qu(k:IntKind)(a b:Int):Option Int:=if b=0 then none else some (k.wrap (a.tdiv b))
def yK{α:Type}(m:List (ae×α))(k:ae):Option α:=(m.find? fun e=>k==e.1).map (·.2)
def tN{α:Type}(m:List (ae×α))(k:ae)(v:α):List (ae×α):=
 match m with
 |[]=>[(k,v)]
 |e::r=>if k==e.1 then(k,v)::r else e::tN r k v
def aL{α:Type}(f:α->PVal)(m:List (ae×α)):List (PVal×PVal):=m.map fun e=>(.str e.1,f e.2)
def QZ:TypeDesc->Bool
 |.struct _=>false
 |.array _ _=>false
 |_=>true
theorem b8{P:Program}{t:TypeId}(h:(P.underlying t).any QZ=true)(p:PVal)(r:List PVal):bo P t (p::r)=some p:=by
 unfold bo
 split
 ·rename_i hu;rw[hu]at h;cases h
 ·rename_i hu;rw[hu]at h;cases h
 ·rfl
 ·rename_i hu;rw[hu]at h;cases h
structure JV{α:Type}(P:Program)(T e:TypeId)(c:α->List PVal):Prop where
 hu:P.underlying T=some (.slice e)
 hc:∀x,(c x).length=P.cellsOf e
 hi:(P.info? e).isSome=true
 hp:0<P.cellsOf e
 hz:(fM P e).map (·.length)=some (P.cellsOf e)
 hb:P.bytesOf e<=65536
 ho:∀x,∀q∈c x,q.one=true
 cl:∀x,jl 0 (c x)
theorem aj{α:Type}{c:α->List PVal}(h:∀x,jl 0 (c x))(l:List α):(sl c l).cl 0:=by
 unfold sl
 simp only[PVal.cl]
 exact Sl fun p hp=>by obtain⟨x,_,rfl⟩:=vah.1 hp;exact h x
theorem bz(s:ae):jl 0 (cS s):=⟨trivial,trivial⟩
theorem Yo(b:Bool):jl 0 (cB b):=⟨trivial,trivial⟩
theorem mP{α:Type}{c:α->List PVal}(h:∀x,jl 0 (c x))(l:List α):jl 0 (cL c l):=⟨aj h l,trivial⟩
theorem Lw{α:Type}{l:List α}{i:Int}{x:α}(h:eT l i=some x):0<=i/\l[i.toNat]? =some x:=by
 unfold eT at h
 split at h
 ·exact⟨‹_›,h⟩
 ·cases h
theorem aI{a b:Prop}(h:a)(h':b):a/\b:=⟨h,h'⟩
theorem rP(p:PVal):p=p:=rfl
theorem lf{β:Type}{a r:β}(h:some a=some r):a=r:=vbj h
abbrev u:PVal:=.undef
theorem Ij(x:ae):ct (.str x)=some (cS x):=rfl
theorem qbL{α:Type}(c:α->List PVal)(x:List α):ct (sl c x)=some (cL c x):=rfl
theorem Zs(l:List PVal):ct (.agg l)=some l:=rfl
theorem qbl(x:ae):∀q∈cS x,q.one=true:=by intro q hq;simp[cS]at hq;subst hq;rfl
def bg:Code->List Bool->Code
 |c,[]=>c
 |.seq a b,x::l=>match x with|false=>bg a l|true=>bg b l
 |.cond _ a b,x::l=>match x with|false=>bg a l|true=>bg b l
 |.block _ c,_::l=>bg c l
 |.loop c,_::l=>bg c l
 |c,_=>c
section
variable{P:Program}{T e:TypeId}{α:Type}{c:α->List PVal}
theorem JV.ia(s:JV P T e c){l:List α}{i:Int}{k:IntKind}{x:α}(h:eT l i=some x):sI P T (sl c l) (.int k i)=some (.eptr (c x)):=by
 obtain⟨h0,h1⟩:=Lw h
 unfold sl sI
 simp only[s.hu,vax h0,var,h1,vag]
 rw[vax ⟨s.hc x,s.hi⟩]
theorem JV.ln(s:JV P T e c)(l:List α):∀H,Fo P T (sl c l) H=some (.int .i64 (l.length:Int)):=fun H=>by
 unfold sl Fo;simp only[s.hu,vba]
theorem Kn{o:Option Int}{d n:Nat}{k:IntKind}(h:bd o d=some n):J6 (o.map (PVal.int k)) d=some n:=by
 cases o with
 |none=>exact h
 |some i=>exact h
theorem JV.sc(s:JV P T e c){l r:List α}{lo hi:Option Int}(h:WW l lo hi=some r):CF P T (sl c l) (lo.map (PVal.int .i64)) (hi.map (PVal.int .i64)) none=some (sl c r):=by
 unfold WW at h
 split at h
 ·rename_i a b h1 h2
  split at h
  ·rename_i hb
   cases h
   unfold sl CF
   simp only[s.hu,Kn h1]
   rw[show(l.map c).length=l.length by simp,Kn h2]
   simp only
   have hx:∀x∈(l.map c).take 1,x.length=P.cellsOf e:=fun x hx=>by
    obtain⟨y,_,rfl⟩:=vah.1 (List.mem_of_mem_take hx)
    exact s.hc y
   rw[vax ⟨hb.1,hb.2,s.hi,hx⟩,List.map_drop,List.map_take]
  ·cases h
 ·cases h
theorem JV.ap(s:JV P T e c){l r z:List α}(h:app l r=some z):nD P T (l.map c) (r.map c)=some (sl c z):=by
 unfold app at h
 split at h
 ·cases h
  unfold nD sl
  simp only[s.hu,vba]
  have h1:∀x∈l.map c,x.length=P.cellsOf e:=fun x hx=>by obtain⟨y,_,rfl⟩:=vah.1 hx;exact s.hc y
  have h2:∀x∈r.map c,x.length=P.cellsOf e/\∀q∈x,q.one=true:=fun x hx=>by obtain⟨y,_,rfl⟩:=vah.1 hx;exact⟨s.hc y,s.ho y⟩
  rw[vax ⟨‹_›,s.hb,s.hp,s.hz,h1,h2⟩,vbi]
 ·cases h
theorem NV{v:α->PVal}{sz:Nat}(hv:∀x,ct (v x)=some (c x))(hc:∀x,(c x).length=sz):∀(l:List α) (i:Nat),CA sz i ((l.map v).zipIdx i|>.map fun x=>(x.2,x.1))=some (l.map c)
 |[],i=>by simp[CA]
 |x::l,i=>by
  have ih:=NV hv hc l (i+1)
  simp only[vaD,List.zipIdx_cons,CA,hv x]
  simp[ih,hc x]
theorem JV.mk'(s:JV P T e c){v:α->PVal}(hv:∀x,ct (v x)=some (c x))(l:List α)(n:Nat)(hn:(decide (l.length=n)&&decide (n * P.cellsOf e<=16777216))=true):gV P T n ((l.map v).zipIdx 0|>.map fun x=>(x.2,x.1))=some (sl c l):=by
 simp only[vad,vai]at hn
 unfold gV sl
 simp only[s.hu,NV hv s.hc]
 have hz:(fM P e).isSome=true:=by
  cases h:fM P e with
  |none=>have:=s.hz;rw[h]at this;cases this
  |some z=>rfl
 rw[vax ⟨by simpa using hn.1,hz,s.hp,hn.2,s.hz⟩]
theorem ye{t:TypeId}(h:P.underlying t=some .string){s:ae}{i:Int}{k:IntKind}{x:Int}(hx:DJ s i=some x):AB P t (.str s) (.int k i)=some (.int .u8 x):=by
 unfold DJ at hx
 cases hi:eT s i with
 |none=>rw[hi]at hx;cases hx
 |some b=>
  rw[hi]at hx;cases hx
  obtain⟨h0,h1⟩:=Lw hi
  unfold AB
  simp only[h,vax h0,h1,vag]
theorem YJ{β:Type}{t e:TypeId}{n:Nat}{v:β->PVal}{l:List β}(h:P.underlying t=some (.array n e))(h1:P.cellsOf e=1)(h2:(P.info? e).isSome=true)(h3:(P.underlying e).any QZ=true)(h4:decide (l.length=n)=true)
  {k:IntKind} {i:Int} {x:β} (hx:eT l i=some x):AB P t (.agg (l.map v)) (.int k i)=some (v x):=by
 obtain⟨h0,hx⟩:=Lw hx
 have hlt:i.toNat<l.length:=(vca.1 hx).1
 have hl:l.length=n:=by simpa using h4
 unfold AB
 simp only[h]
 rw[vax ⟨h0,by omega,h2⟩,h1,vbT,vbo (by simpa using hlt)]
 rw[b8 h3]
 simp only[List.getElem_map]
 rw[vaa hlt]at hx
 cases hx;rfl
theorem oL{t:TypeId}(h:P.underlying t=some .string)(s:ae):∀H,Fo P t (.str s) H=some (.int .i64 (s.length:Int)):=fun H=>by unfold Fo;simp only[h]
theorem Xf{t:TypeId}(ht:P.underlying t=some .string){l r:ae}{lo hi:Option Int}(h:WW l lo hi=some r):CF P t (.str l) (lo.map (PVal.int .i64)) (hi.map (PVal.int .i64)) none=some (.str r):=by
 unfold WW at h
 split at h
 ·rename_i a b h1 h2
  split at h
  ·rename_i hb
   cases h
   unfold CF
   simp only[ht,Kn h1,Kn h2]
   rw[vax hb]
  ·cases h
 ·cases h
theorem Yc{t:TypeId}{a b z:ae}(h:qa5 a b=some z):M8 P .add t (.str a) (.str b)=some (.str z):=by
 unfold qa5 at h
 unfold M8 WS
 split at h
 ·cases h;simp only;rw[vax ‹_›]
 ·cases h
theorem Nr{t:TypeId}{k:IntKind}{a b z:Int}(h:qu k a b=some z):M8 P .quo t (.int k a) (.int k b)=some (.int k z):=by
 unfold qu at h
 split at h
 ·cases h
 ·rename_i hb;cases h;simp only[M8,WP,if_true,vaz hb]
theorem Fm{f:α->PVal}(k:ae):∀(m:List (ae×α)) (i:Nat),CB (.str k) (aL f m) i=some (match yK m k with
  |none=>none
  |some v=>some (i+(m.findIdx fun e=>k==e.1),f v))
 |[],i=>by simp[aL,CB,yK]
 | e :: m,i => by
  have ih:=Fm (f:=f) k m (i+1)
  unfold aL at ih ⊢
  simp only[vaD,CB,Pm]
  unfold yK at ih ⊢
  by_cases h:(k==e.1)=true
  ·simp[h,vbU]
  ·have h':(k==e.1)=false:=by simpa using h
   simp only[h',List.find?_cons,ih,vbU]
   cases hm:(List.find? (fun e=>k==e.1) m)with
   |none=>simp
   |some v=>simp;omega
theorem O9{t kt et:TypeId}{f:α->PVal}(h1:P.underlying t=some (.map kt et))(h2:P.underlying kt=some .string){z:α}(hz:Ip P et=some (f z))(m:List (ae×α))(k:ae):LZ P t (aL f m) (.str k) false=some (f ((yK m k).getD z)):=by
 unfold LZ
 simp only[h1,h2,oZ,if_true,Fm]
 cases yK m k with
 |none=>simp[hz]
 |some v=>simp
theorem SB(f:α->PVal)(k:ae)(v:α):∀(m:List (ae×α)),aL f (tN m k v)=match yK m k with
  |none=>aL f m++[(.str k,f v)]
  |some _=>(aL f m).set (m.findIdx fun e=>k==e.1) (.str k,f v)
 |[]=>by simp[tN,yK,aL]
 | e :: m => by
  have ih:=SB f k v m
  unfold yK at ih ⊢
  unfold aL at ih ⊢
  by_cases h:(k==e.1)=true
  ·simp[tN,h,vbU]
  ·have h':(k==e.1)=false:=by simpa using h
   simp only[tN,h',List.find?_cons,vbU,vaD]
   simp only[vbr,if_false,vaD,ih]
   cases(List.find? (fun e=>k==e.1) m)with
   |none=>simp
   |some v=>simp
theorem RL{t kt et:TypeId}{f:α->PVal}(h1:P.underlying t=some (.map kt et))(h2:P.underlying kt=some .string)(m:List (ae×α))(k:ae)(v:α):NZ P t (aL f m) (.str k) (f v)=some (aL f (tN m k v)):=by
 unfold NZ
 simp only[h1,h2,oZ,if_true,Fm,SB]
 cases yK m k with
 |none=>simp
 |some w=>simp
end
structure Xp(w w':World):Prop where
 os:w'.os=w.os
 tape:w'.tape=w.tape
 output:w'.output=w.output
 size:w.heap.size<=w'.heap.size
 drawn:w.drawn<=w'.drawn
 keep:∀b,b<w.heap.size->w'.heap[b]? =w.heap[b]?
theorem Xp.of_grow(w:World)(k:Nat)(os:Array Obj):Xp w (Sort.grow (w.drewN k) os):={
 os:=rfl
 tape:=rfl
 output:=rfl
 size:=by show w.heap.size<=(w.heap++os).size;simp
 drawn:=vbE _ _
 keep:=fun b hb=>by show(w.heap++os)[b]? =_;rw[vaR hb]}
section
variable{P:Program}{GE:List (Nat×List PVal)}
theorem Ye{E:rD}{Γ:aU}{bs:bD}{ow:Nat->Option lX}{w:World}{a:Array Value}{st:aB}(h:SR P E Γ bs ow w a st){g:Nat}{k:IntKind}{zs:List Int}{name:String}
  (hg:(g,zs.map (PVal.int k))∈E.GE) (hn:P.globalNamed name=some g):Lib.TabIs P w name k zs:=by
 obtain⟨_,_,_,c,t,fr,h1,h2⟩:=h.gnow hg
 have hv:=h.gl g _ hg
 unfold Lib.TabIs World.var?
 rw[hn]
 simp only[vab,h1]
 congr 1
 refine Array.ext_getElem? fun i=>?_
 generalize hcs:zs.map (PVal.int k)=cs at hv
 cases hv with
 |eptrE _ _=>
  have hz:zs=[]:=by simpa using hcs
  subst hz
  have h3:c.size=0:=h2
  rw[vbG (by omega),vbG (by simp)]
 | eptr _ _ _ n vals hg' hn' hc hvv =>
  subst hcs
  by_cases hi:i<zs.length
  ·have h3:=hc i _ (by simp[hi]:(zs.map (PVal.int k))[i]? =some (.int k zs[i]))
   have h4:=hvv i _ (by simp[hi]:(zs.map (PVal.int k))[i]? =some (.int k zs[i]))
   rw[vaI]at h3
   have h5:w.cell? ⟨g,i,none⟩=c[i]?:=cell_of_row w g i c t fr h1
   rw[h5]at h3
   rw[h3]
   generalize vals i=vi at h4
   cases h4
   simp[hi]
  ·rw[vba]at h2
   rw[vbG (by omega),vbG (by simp;omega)]
theorem CC.grownIS{f:FuncId}{n:Int}{s:ae}{k:IntKind}(hcall:∀vs w,(callFunc f vs).run P w=.ok (.enter f vs) w)
  (h:∀E Γ bs ow w a st,E.GE=GE->SR P E Γ bs ow w a st->Calls P f #[.int k n] w fun e w'=>e=.returned (.string ⟨s.toArray⟩)/\Xp w w'):CC P GE f [.int k n] (.str s) []:=by
 refine⟨⟨trivial,trivial⟩,hcall,fun Γ bs ow w vs hS=>?_⟩
 have hvs:vs=#[.int k n]:=by
  have h1:=hS.sz
  simp at h1
  have h2:vs[0]? =some vs[0]:=by simp[h1]
  have h3:=hS.tm 0 _ _ rfl h2
  refine Array.ext (by simp[h1]) fun i hi hi2=>?_
  have:i=0:=by simp at hi2;omega
  subst this
  generalize vs[0]=v at h3
  cases h3
  rfl
 subst hvs
 refine(h _ Γ bs ow w _ _ rfl hS).mono fun e w' he=>?_
 obtain⟨rfl,hg⟩:=he
 have hbl:bs.length=0:=hS.bl
 obtain rfl:bs=[]:=vao hbl
 have hW:=hS.world (Γ':=Γ) (w':=w') (fun _=>False) (fun b m hb _=>⟨m,hb,vam _,fun o _=>bR (hg.keep b (hS.lt_of_ghost hb)) o⟩)
  (fun b m hb=>by
   obtain⟨c,t,fr,h1,h2⟩:=hS.wi b m hb
   exact⟨c,t,fr,(hg.keep b (hS.lt_of_ghost hb)).trans h1,h2⟩) hg.os hg.tape hg.output hg.size (fun b hb _=>⟨hg.keep b hb,rfl⟩) (fun _ hx=>hx.elim) (fun _ _ _ hx=>hx) (fun _ _ _ hx=>hx) hg.drawn
 refine⟨_,Γ,ow,rfl,{hW with
  sz:=rfl
  tm:=fun t p v hp hv=>by
   cases t with
   |zero=>simp at hp hv;subst hp;subst hv;exact .str s
   |succ t=>simp at hp
  ot:=fun t k e he=>by simp at he}⟩
structure Xq(P:Program)(g:FuncId)(e:TypeId)(enc:ae->Value)(f:List ae->List ae)(R:Option Addr->Nat->Nat->Value):Prop where
 call:∀vs w,(callFunc g vs).run P w=.ok (.enter g vs) w
 row:∀(w:World) (b cap:Nat) (cur:Array Value) (l:List ae),w.heap[b]? =some (.cells cur e (0,0))->cur.size=cap->l.length<=cap->cap<=maxLen->l.length<=dw->cur.toList.take l.length=l.map enc->
  Calls P g #[.slice (some ⟨b,0,none⟩) l.length cap] w fun r w'=>r=.returned (R (some ⟨b,0,none⟩) (f l).length cap)/\(f l).length<=cap/\w'.os=w.os/\w'.tape=w.tape/\w'.output=w.output/\(w.heap.size<=w'.heap.size/\w.drawn<=w'.drawn)/\
   (∀b',b'<w.heap.size->b'≠b->w'.heap[b']? =w.heap[b']?)/\∃cur',w'.heap[b]? =some (.cells cur' e (0,0))/\cur'.size=cap/\cur'.toList.take (f l).length=(f l).map enc
 none:∀w:World,f []=[]/\Calls P g #[.slice none 0 0] w fun r w'=>r=.returned (R none 0 0)/\w'=w
def sG(n t:Nat)(l:List ae)(e:TypeId):aB:=⟨(List.replicate n .undef).set t (sl cS l),[],[((t,0),e)]⟩
theorem Qy{n t:Nat}{p:PVal}{i:Nat}{l:List ae}(h:((List.replicate n .undef).set t (sl cS l))[i]? =some p):p=.undef\/(i=t/\p=sl cS l):=by
 rw[vbm]at h
 split at h
 ·rename_i hti
  split at h
  ·cases h;exact .inr ⟨hti.symm,rfl⟩
  ·cases h
 ·rw[vaW]at h
  split at h
  ·cases h;exact .inl rfl
  ·cases h
theorem If{E:rD}{Γ:aU}{bs:bD}{ow:Nat->Option lX}{w w':World}{a:Array Value}{st:aB}(h:SR P E Γ bs ow w a st)(hE:tC GE 0 E)(hbs:bs=[]){e:TypeId}(he:P.cellsOf e=1){n t ts:Nat}{a':Array Value}(hn:a'.size=n)(hts:ts<n)
  {f:List ae} {v:Value} (hv:a'[ts]? =some v) (hos:w'.os=w.os) (htp:w'.tape=w.tape) (hout:w'.output=w.output) (hsz:w.heap.size<=w'.heap.size/\w.drawn<=w'.drawn)
  (hval:(v=.slice none 0 0/\f=[]/\w'=w)\/∃b cap cur',v=.slice (some ⟨b,0,none⟩) f.length cap/\ow b=some (.tmp t 0)/\f.length<=cap/\cap<=maxLen/\(∀b',b'<w.heap.size->b'≠b->w'.heap[b']? =w.heap[b']?)/\w'.heap[b]? =some (.cells cur' e (0,0))/\cur'.size=cap/\cur'.toList.take f.length=f.map fun s=>Value.string ⟨s.toArray⟩):
  ∃Γ' ow',SR P E Γ' [] ow' w' a' (sG n ts f e):=by
 subst hbs
 rcases hval with⟨rfl,rfl,rfl⟩|⟨b,cap,cur',rfl,hob,hfc,hcm,hkeep,hcur,hcs,htake⟩
 ·refine⟨Γ,fun _=>.none,{h with
   sz:=by simp[sG,hn]
   tm:=fun i p u hp hu=>by
    rcases Qy hp with rfl|⟨rfl,rfl⟩
    ·exact .undef u
    ·rw[hv]at hu;cases hu;exact .sliceNil
   bl:=rfl
   bx:=fun i b B hi=>by simp at hi
   inj:=fun i j b hi=>by simp at hi
   bn:=fun i b hi=>by simp at hi
   on:=fun b L hL=>by cases hL
   ot:=fun t' k e' he'=>by
    simp[sG]at he'
    obtain⟨⟨rfl,rfl⟩,rfl⟩:=he'
    exact⟨_,_,hv,rfl,⟨0,[],World.ownsRow_nil _ _ _ _,fun b hb=>by simp[Value.ownBlock]at hb⟩,fun b hb=>by simp[Value.ownBlock]at hb⟩
   ob:=fun i j e' cs own b hB=>by simp[sG]at hB}⟩
 ·have hlo:=(h.on b _ hob)
  have hblt:=hlo.1
  have hbe:E.w.heap.size<=b:=hlo.2.resolve_left (hE.nt rfl b)
  have hlen:cur'.toList.length=cap:=by simpa using hcs
  have hget:∀i,i<f.length->cur'[i]? =some (.string ⟨(f[i]!).toArray⟩):=by
   intro i hi
   have h1:(cur'.toList.take f.length)[i]? =(f.map fun s=>Value.string ⟨s.toArray⟩)[i]?:=by rw[htake]
   rw[vak hi]at h1
   simp only[vaH,var]at h1
   rw[h1]
   simp[hi]
  have hle:E.Γ.Le E.w (Γ.put b f.length) w':=fun x m hx hm0=>by
   obtain⟨m',h1,h2,h3⟩:=h.step.le x m hx hm0
   have hne:x≠b:=fun hxb=>by have:=hE.low x m hx;omega
   refine⟨m',(Γ.put_other hne).trans h1,h2,fun o ho=>?_⟩
   rw[<-h3 o ho]
   exact bR (hkeep x (h.lt_of_ghost h1) hne) o
  refine⟨Γ.put b f.length,fun x=>if x=b then some (.tmp ts 0)else Option.none,{
   wi:=fun x m hx=>by
    by_cases hxb:x=b
    ·subst hxb;rw[Γ.put_same]at hx;cases hx;exact⟨cur',e,(0,0),hcur,by omega⟩
    ·rw[Γ.put_other hxb]at hx
     obtain⟨c,t',fr,h1,h2⟩:=h.wi x m hx
     exact⟨c,t',fr,(hkeep x (h.lt_of_ghost hx) hxb).trans h1,h2⟩
   sz:=by simp[sG,hn]
   tm:=fun i p u hp hu=>by
    rcases Qy hp with rfl|⟨rfl,rfl⟩
    ·exact .undef u
    ·rw [hv] at hu; cases hu
     have:=VR.slice (Γ:=Γ.put b f.length) (bs:=[]) (w:=w') (f.map cS) b 0 cap f.length 1 (fun i _=>.string ⟨(f[i]!).toArray⟩) (by decide) (by simpa using hfc) (Γ.put_same _ _) (by simp)
      (fun i x hx=>by rw[var]at hx;cases hf:f[i]? with
       |none=>rw[hf]at hx;cases hx
       |some s=>rw[hf]at hx;cases hx;rfl)
      (fun i x k q hx hq=>by
       rw[var]at hx
       cases hf:f[i]? with
       |none=>rw[hf]at hx;cases hx
       |some s=>
        rw[hf]at hx;cases hx
        have hil:=aq hf
        have hk:k=0:=by have:=aq hq;simp[cS]at this;exact this
        subst hk
        rw[show 0+i * 1+0=i by omega,cell_of_row w' b i cur' e _ hcur]
        exact hget i hil)
      (fun i x k q hx hq=>by
       rw[var]at hx
       cases hf:f[i]? with
       |none=>rw[hf]at hx;cases hx
       |some s=>
        rw[hf]at hx;cases hx
        have hk:k=0:=by have:=aq hq;simp[cS]at this;exact this
        subst hk
        simp[cS]at hq;subst hq
        have:f[i]! =s:=by rw[vbY,hf];rfl
        rw[this]
        exact .str s)
     rw[vba]at this
     exact this
   bl:=rfl
   bx:=fun i b B hi=>by simp at hi
   inj:=fun i j b hi=>by simp at hi
   bn:=fun i b hi=>by simp at hi
   on:=fun x L hL=>by
    split at hL
    ·rename_i hxb;subst hxb;exact⟨vaA hblt hsz.1,.inr hbe⟩
    ·cases hL
   ot:=fun t' k e' he'=>by
    simp[sG]at he'
    obtain⟨⟨rfl,rfl⟩,rfl⟩:=he'
    refine⟨_,_,hv,rfl,⟨f.length,f.map fun s=>Value.string ⟨s.toArray⟩,⟨by simp[he],.inr ⟨b,cap,cur',rfl,va1 _,hcur,hfc,hcm,by rw[he];omega,by rw[he,vbT];exact htake⟩⟩,fun x hx=>?_⟩,fun x hx=>?_⟩
    ·simp[Value.ownBlock]at hx;subst hx;rw[he,vbT];exact Γ.put_same _ _
    ·simp[Value.ownBlock]at hx;subst hx;simp
   ob:=fun i j e' cs own b hB=>by simp[sG]at hB
   gl:=fun g cs hg=>(hE.gl g cs (by rw[<-hE.ge];exact hg)).mono hle (.refl _)
   gc:=h.gc
   gx:=h.gx
   step:={
    os:=hos.trans h.step.os
    tape:=htp.trans h.step.tape
    output:=hout.trans h.step.output
    size:=vaB h.step.size hsz.1
    drawn:=vaB h.step.drawn hsz.2
    keep:=fun x hx hT=>by
     have hne:x≠b:=fun hxb=>by omega
     obtain⟨k1,k2⟩:=h.step.keep x hx hT
     exact⟨(hkeep x (vaA hx h.step.size) hne).trans k1,(Γ.put_other hne).trans k2⟩
    le:=hle}}⟩
theorem Cz(x:Option Addr)(n c:Nat):lG (.slice x n c) 0=some (.slice x n c):=rfl
theorem O0{g:FuncId}{e:TypeId}{f:List ae->List ae}{R:Option Addr->Nat->Nat->Value}(hI:Xq P g e (fun s=>Value.string ⟨s.toArray⟩) f R)(he:P.cellsOf e=1){ops:Array Oper}{rest:List Nat}{o1 o2:Oper}{n t d1 d2 ts:Nat}{l:List ae}{tys:Array TypeId}
  (hla:l.length<=dw) (ho1:ops[0]? =some o1) (ho2:ops[1]? =some o2)
  (h1:o1.op=.move (.tmp t)) (h1d:o1.dst=some d1) (h1g:o1.guard=none) (h2:o2.op=.call {callee:=.value (.func g),args:=#[.tmp d1],argTypes:=tys}) (h2d:o2.dst=some d2) (h2g:o2.guard=none)
  (hn:t<n/\d1<n/\d2<n/\t≠d1/\t≠d2/\d1≠d2) (hts:(ts=t/\(f l).length=l.length)\/(ts=d2/\∀x k c,R x k c=.slice x k c))
  {E:rD} {a:Act} {w:World} {Q:Exit->Act->World->Prop} (hE:tC GE 0 E) (hR:Oo P E [] (sG n t l e) a w)
  (hfin:∀a' w',a'.defers=a.defers->(∃Γ' ow',SR P E Γ' [] ow' w' a'.tmps (sG n ts (f l) e))->wpOps P ops Q rest a' w'):wpOps P ops Q (0::1::rest) a w:=by
 obtain⟨n1,n2,n3,n4,n5,n6⟩:=hn
 obtain⟨Γ,bs,ow,h,hk⟩:=hR
 have hbs:bs=[]:=vao h.bl
 have hsz:a.tmps.size=n:=by rw[h.sz];simp[sG]
 obtain⟨u,v,hu,hpv,hown,hob⟩:=h.ot t 0 e (by simp[sG])
 have hvr:=h.tm t (sl cS l) u (by simp[sG,n1]) hu
 have hu0:a.eval (.tmp t)=u:=bU hu
 rw[wpOps_cons]
 unfold wpOp
 rw[ho1]
 simp only
 rw[vax (by simp[Region.wanted,h1g])]
 refine .inl ?_
 unfold Oper.wp
 rw[show(execOp a.eval o1).run P w=.ok (.value u) w by simp[execOp,h1,hu0],Oper.upon_value]
 rw[wpOps_cons]
 unfold wpOp
 rw[ho2]
 simp only
 rw[vax (by simp[Region.wanted,h2g])]
 refine .inl ?_
 unfold Oper.wp
 have hu1:(a.put o1.dst u).eval (.tmp d1)=u:=by
  refine bU ?_
  rw[h1d]
  show(a.tmps.setIfInBounds d1 u)[d1]? =some u
  simp[hsz,n2]
 rw[show(execOp (a.put o1.dst u).eval o2).run P w=.ok (.enter g #[u]) w by
  simp only[execOp,h2]
  simp[resolve,Act.eval,Deferred.ofValue,invoke,hI.call]
  have hu2:(a.put o1.dst u).tmps.getD d1 undef=u:=hu1
  rw[vas]at hu2
  exact hu2,Oper.upon_enter]
 have hget:∀r:Value,(((a.put o1.dst u).put o2.dst r).tmps)[t]? =some u/\(((a.put o1.dst u).put o2.dst r).tmps)[d2]? =some r/\(((a.put o1.dst u).put o2.dst r).tmps).size=n:=by
  intro r
  rw[h1d,h2d]
  show((a.tmps.setIfInBounds d1 u).setIfInBounds d2 r)[t]? =some u/\((a.tmps.setIfInBounds d1 u).setIfInBounds d2 r)[d2]? =some r/\((a.tmps.setIfInBounds d1 u).setIfInBounds d2 r).size=n
  refine⟨?_,?_,by simp[hsz]⟩
  ·rw[vaQ n5.symm,vaQ n4.symm];exact hu
  ·rw[Array.getElem?_setIfInBounds_self_of_lt (by simp[hsz,n3])]
 have hdef:∀r:Value,((a.put o1.dst u).put o2.dst r).defers=a.defers:=fun r=>(bu _ _ _).trans (bu _ _ _)
 have fin:∀(r:Value) (w':World),(∃Γ' ow',SR P E Γ' [] ow' w' ((a.put o1.dst u).put o2.dst r).tmps (sG n ts (f l) e))->wpOps P ops Q rest ((a.put o1.dst u).put o2.dst r) w':=
  fun r w' hS=>hfin _ _ (hdef r) hS
 have hlt:ts<n:=by rcases hts with⟨rfl,_⟩|⟨rfl,_⟩<;>assumption
 unfold sl at hvr
 generalize hes:l.map cS=es at hvr
 cases hvr with
 | sliceNil =>
  have hl:l=[]:=by cases l with
   |nil=>rfl
   |cons x l=>simp at hes
  subst hl
  refine(hI.none w).2.mono fun r w' hr=>?_
  obtain⟨rfl,rfl⟩:=hr
  refine fin _ _ (If h hE hbs he (t:=t) (hget _).2.2 hlt (v:=.slice none 0 0) ?_ rfl rfl rfl ⟨vam _,vam _⟩ (.inl ⟨rfl,(hI.none w').1,rfl⟩))
  rcases hts with⟨rfl,_⟩|⟨rfl,hR⟩
  ·exact(hget _).1
  ·rw[(hget _).2.1,hR]
 | sliceE x cap =>
  have hl:l=[]:=by cases l with
   |nil=>rfl
   |cons x l=>simp at hes
  subst hl
  rw[Cz]at hpv
  cases hpv
  obtain⟨k,xs,⟨hx1,hx2⟩,hx3⟩:=hown
  rcases hx2 with⟨hx2,_⟩|⟨g',cap',cur,hx2,_,hheap,hkc,hcm,hcs,htake⟩
  ·cases hx2
  ·cases hx2
   rw[he,vbT]at hcs
   have hcall:=hI.row w g' cap cur [] hheap hcs (va1 _) hcm hla (by simp)
   refine hcall.mono fun r w' hr=>?_
   obtain⟨rfl,q1,q2,q3,q4,q5,q6,cur',q7,q8,q9⟩:=hr
   refine fin _ _ (If h hE hbs he (t:=t) (hget _).2.2 hlt (v:=.slice (some ⟨g',0,none⟩) (f []).length cap) ?_ q2 q3 q4 q5 (.inr ⟨g',cap,cur',rfl,hob g' rfl,q1,hcm,q6,q7,q8,q9⟩))
   rcases hts with⟨rfl,hfl⟩|⟨rfl,hR⟩
   ·rw[(hget _).1,hfl];rfl
   ·rw[(hget _).2.1,hR]
 | slice _ b off cap m sz vals hz0 hcap hg hm hszs hc hv =>
  rw[Cz]at hpv
  cases hpv
  obtain⟨k,xs,⟨hx1,hx2⟩,hx3⟩:=hown
  rcases hx2 with⟨hx2,_⟩|⟨g',cap',cur,hx2,_,hheap,hkc,hcm,hcs,htake⟩
  ·cases hx2
  ·cases hx2
   rw[he,vbT]at hcs htake
   have hlen:es.length=l.length:=by rw[<-hes];simp
   have hrow:cur.toList.take l.length=l.map fun s=>Value.string ⟨s.toArray⟩:=by
    refine va2 fun i=>?_
    by_cases hi:i<l.length
    ·rw[vak hi]
     simp only[vaH,var,vaa hi,vag]
     have hx:es[i]? =some (cS l[i]):=by rw[<-hes];simp[hi]
     have hs1:sz=1:=by have:=hszs i _ hx;simp[cS]at this;exact this.symm
     subst hs1
     have e1:=hc i _ 0 (.str l[i]) hx rfl
     have e2:=hv i _ 0 (.str l[i]) hx rfl
     rw[show 0+i * 1+0=i by omega,cell_of_row w b i cur e _ hheap]at e1
     rw[e1]
     generalize vals i 0=q at e2
     cases e2
     rfl
    ·rw[vaE (by simp;omega),vaE (by simp;omega)]
   have hcall:=hI.row w b cap cur l hheap hcs (by omega) hcm hla hrow
   rw[<-hlen]at hcall
   refine hcall.mono fun r w' hr=>?_
   obtain⟨rfl,q1,q2,q3,q4,q5,q6,cur',q7,q8,q9⟩:=hr
   refine fin _ _ (If h hE hbs he (t:=t) (hget _).2.2 hlt (v:=.slice (some ⟨b,0,none⟩) (f l).length cap) ?_ q2 q3 q4 q5 (.inr ⟨b,cap,cur',rfl,hob b rfl,q1,hcm,q6,q7,q8,q9⟩))
   rcases hts with⟨rfl,hfl⟩|⟨rfl,hR⟩
   ·rw[(hget _).1,hfl,hlen]
   ·rw[(hget _).2.1,hR]
section
variable{g:FuncId}{e:TypeId}{f:List ae->List ae}{R:Option Addr->Nat->Nat->Value}{id:Nat}{o1 o2 o3:Oper}{n t d1 d2 d3 ts:Nat}{l:List ae}{tys:Array TypeId}
theorem aW.inplace(hI:Xq P g e (fun s=>Value.string ⟨s.toArray⟩) f R)(he:P.cellsOf e=1)(hla:l.length<=dw)
  (h1:o1.op=.move (.tmp t)) (h1d:o1.dst=some d1) (h1g:o1.guard=none) (h2:o2.op=.call {callee:=.value (.func g),args:=#[.tmp d1],argTypes:=tys}) (h2d:o2.dst=some d2) (h2g:o2.guard=none)
  (hn:t<n/\d1<n/\d2<n/\t≠d1/\t≠d2/\d1≠d2) (hts:(ts=t/\(f l).length=l.length)\/(ts=d2/\∀x k c,R x k c=.slice x k c)):
  aW P GE 0 (.region id #[o1,o2] false) (EX .normal (sG n ts (f l) e)) (sG n t l e):=by
 intro ro E bs0 a w hE hb hR
 have hb0:bs0=[]:=vao hb
 subst hb0
 refine Ao (by simp[ft,h1,h2]) (by rintro⟨_,_,_,_,_,h,_⟩;cases h) ?_
 show wpOps P #[o1,o2] _ [0,1] a w
 refine O0 (ts:=ts) hI he hla rfl rfl h1 h1d h1g h2 h2d h2g hn hts hE hR fun a' w' hd hS=>?_
 obtain⟨Γ',ow',hS⟩:=hS
 exact⟨hd,_,⟨Γ',[],ow',hS,fun i hi=>absurd hi (vaK _)⟩,rfl,rfl⟩
end
end
open Go Go.RowKit Go.WideShapes Go.ChangeShapes Go.ChangeAt
def Aj(W:World):aU:=fun b=>match W.heap[b]? with
 |some (.cells c _ _)=>some c.size
 |_=>none
theorem Nn{W:World}{b:Nat}{c:Array Value}{t:TypeId}{fr:Nat×Nat}(h:W.heap[b]? =some (.cells c t fr)):Aj W b=some c.size:=by unfold Aj;rw[h]
def YE(W:World)(x:Nat×List PVal):Prop:=jl 0 x.2/\∃c t fr,W.heap[x.1]? =some (.cells c t fr)/\c.size=x.2.length/\∀(i:Nat) p v,x.2[i]? =some p->c[i]? =some v->VR (Aj W) [] W p v
section
variable{P:Program}{GE:List (Nat×List PVal)}
theorem Q3{k:FuncId}{pargs:List PVal}{args:Array Value}{W:World}{b:Bool}(hC:C P GE k pargs [] [] (.bool b) [] [])(hl:args.size=pargs.length)
  (hv:∀(i:Nat) p v,pargs[i]? =some p->args[i]? =some v->VR (Aj W) [] W p v) (hG:∀x∈GE,YE W x):Calls P k args W fun e W'=>e=.returned (.bool b)/\Below W.heap.size W W':=by
 have hS:SR P ⟨GE,Aj W,W,bj [] fun _=>none⟩ (Aj W) [] (fun _=>none) W args ⟨pargs,[],[]⟩:={
  wi:=fun b n hb=>by
   unfold Aj at hb
   split at hb
   ·rename_i c t fr hh;cases hb;exact⟨c,t,fr,hh,vam _⟩
   ·cases hb
  sz:=hl
  tm:=hv
  bl:=rfl
  bx:=fun i b B hi=>by simp at hi
  inj:=fun i j b hi=>by simp at hi
  bn:=fun i b hi=>by simp at hi
  on:=fun b L hL=>by cases hL
  ot:=fun t k e he=>by simp at he
  ob:=fun i j e cs own b hB=>by simp at hB
  gl:=fun g cs hg=>by
   obtain⟨_,c,t,fr,h1,h2,h3⟩:=hG _ hg
   refine .eptr cs g 0 c.size (fun k=>c.getD k undef) (Nn h1) (by simp only at h2;omega) (fun k p hp=>?_) (fun k p hp=>?_)
   ·have hk:k<c.size:=by have:=aq hp;simp only at h2;omega
    rw[vaI,cell_of_row W g k c t fr h1]
    simp[vas,hk]
   ·have hk:k<c.size:=by have:=aq hp;simp only at h2;omega
    exact h3 k p _ hp (by simp[vas,hk])
  gc:=fun g cs hg=>(hG _ hg).1
  gx:=fun g cs hg=>by
   obtain⟨_,c,t,fr,h1,h2,_⟩:=hG _ hg
   refine⟨(vae.1 h1).1,fun hT=>?_,c,t,fr,h1,h2⟩
   rcases hT with⟨i,hi⟩|hT
   ·simp at hi
   ·exact hT rfl
  step:=.refl _ _ _ _}
 refine(hC.2 (Aj W) [] (fun _=>none) W args hS).mono fun e W' he=>?_
 obtain⟨v,Γ',ow',rfl,hS'⟩:=he
 have hv':=hS'.tm 0 (.bool b) v rfl rfl
 cases hv'
 refine⟨rfl,hS'.step.os,hS'.step.tape,hS'.step.output,hS'.step.size,fun k hk=>(hS'.step.keep k hk fun hT=>?_).1⟩
 rcases hT with⟨i,hi⟩|hT
 ·simp at hi
 ·exact hT rfl
end
section
variable{H:Type}{enc:TypeId×Value->H}{P:Program}{w:World}{base:Nat}{spare:Nat->Bool}{held:Bool}{t:TypeId}{fuel:Nat}
theorem Nd{f:Func}{s:ChangeSpec}{apart fresh handsOn again:Bool}{W W':World}{args:Array Value}{v:Value}{ds gs:List (DataW H)}{before pa pv:List MemPlace}
    (hW:DataW.Whole enc P f.params.toList s.vars apart W args.toList ds gs before)
    (hres:∀(b:Nat) (sp:Nat->Bool) (hd:Bool),DataW.TrodAll enc P W' b sp hd f.resultTypes.toList (v.resultList f.resultTypes.size) (s.fn H (ds++gs)).results [])
    (hargs:∀sp:Nat->Bool,(∀p∈before,sp p.block=true)->DataW.TrodAll enc P W' 0 sp true f.params.toList args.toList (s.fn H (ds++gs)).args pa)
    (hvars:∀sp:Nat->Bool,(∀p∈before,sp p.block=true)->DataW.TrodVars enc P W' sp s.vars (s.fn H (ds++gs)).vars pv)
    (hps:before=pa++pv) (hb:Below W.heap.size W W')
    (hok:∀(j:Nat) (t:TypeId) (r:Value),f.resultTypes[j]? =some t->(v.resultList f.resultTypes.size)[j]? =some r->Value.okWide P W' .any 0 t r):
    s.post enc P f apart fresh handsOn again W args v W':=by
  have hlt:∀p∈before,p.block<W.heap.size:=fun p hp=>hW.lt p hp
  have hold:∀p∈before,(fun b=>decide (b<W.heap.size)) p.block=true:=fun p hp=>by simpa using hlt p hp
  refine⟨ds,gs,before,[],pa,pv,hW,hres _ _ _,hargs _ hold,hvars _ hold,World.keptBut_mono (fun p hp=>⟨hp,?_⟩) (hb.frame (·∈before)),fun _=>?_⟩
  · rw [hps,vaw] at hp
    exact Or.inr hp
  · obtain ⟨_,_,_,_,_,hz,hn⟩:=hW
    refine⟨hok,_,_,([]++pa)++pv,⟨[]++pa,pv,trodAll_append (hargs _ (fun _ _=>rfl)) (hres _ _ _),hvars _ (fun _ _=>rfl),rfl,?_,?_⟩,?_⟩
    · intro b off hp
      have hin:MemPlace.cell b off∈before:=by rw[hps];simpa using hp
      rw[hb.frozen (hlt _ hin)]
      exact hz b off hin
    · intro ha
      have:=hn ha
      rw[hps]at this
      simpa using this
    · intro p hp _
      rw[hps]
      simpa using hp
theorem No(hl:laidOutB P=true){W W':World}(hb:Below W.heap.size W W'){sp:Nat->Bool}:∀{ts:List TypeId} {vs:List Value} {ds:List (DataW H)} {ps:List MemPlace},(∀t∈ts,P.readableRec t=true/\t<P.types.size)->
  DataW.TrodAll enc P W 0 (fun _=>true) true ts vs ds ps->(∀p∈ps,p.block<W.heap.size)->(∀p∈ps,sp p.block=true)->DataW.TrodAll enc P W' 0 sp true ts vs ds ps
 |[],[],[],_,_,h,_,_=>h
 | t :: _,_ :: _,_ :: _,_,ht,⟨p,q,h1,h2,e⟩,hlt,hs =>
  ⟨p,q,WideElems.Trod_stays hl (ht t (by simp)).1 (ht t (by simp)).2 h1 (fun x hx=>hb.same (hlt x (by rw[e];exact va0 _ hx))) (fun x hx=>hs x (by rw[e];exact va0 _ hx)),
   No hl hb (fun t ht'=>ht t (by simp[ht'])) h2 (fun x hx=>hlt x (by rw[e];exact vaV _ hx)) (fun x hx=>hs x (by rw[e];exact vaV _ hx)),e⟩
theorem U0{f:Func}{s:ChangeSpec}{W W':World}{args:Array Value}{ds gs:List (DataW H)}{before:List MemPlace}(hl:laidOutB P=true)(hr:f.resultTypes=#[t])(hbt:P.underlying t=some .bool)(hsv:s.vars=[])
  (hfn:(s.fn H (ds++gs)).results=[.lit (.bool true)]/\(s.fn H (ds++gs)).args=ds/\(s.fn H (ds++gs)).vars=[]) (hts:∀t∈f.params.toList,P.readableRec t=true/\t<P.types.size)
  (hW:DataW.Whole enc P f.params.toList s.vars false W args.toList ds gs before) (hb:Below W.heap.size W W'):s.post enc P f false true false false W args (.bool true) W':=by
 have hW':=hW
 obtain⟨p,q,hA,hV,rfl,_,_⟩:=hW
 rw[hsv]at hV
 obtain⟨rfl,rfl⟩:=trodVars_none hV
 have hlt:∀x∈p,x.block<W.heap.size:=fun x hx=>hW'.lt x (by simpa using hx)
 refine Nd (pa:=p) (pv:=[]) hW' (fun b sp hd=>?_) (fun sp hs=>?_) (fun sp _=>?_) rfl hb (fun j t' r hj hv=>?_)
 ·rw[hr,hfn.1]
  exact trodAll_cons_mk (shut_bool hbt _) trodAll_mk0
 ·rw[hfn.2.1]
  exact No hl hb hts hA hlt (fun x hx=>hs x (by simpa using hx))
 ·rw[hsv,hfn.2.2];rfl
 ·exact ok_one hr rfl (okWide_bool_mk hbt _) j t' r hj hv
theorem PM(a:Addr)(i:Nat)(h:a.spot=none):a.add i=⟨a.block,a.off+i,none⟩:=by
 obtain⟨b,o,sp⟩:=a
 simp only at h
 subst h
 unfold Addr.add
 split
 ·rename_i hi;subst hi;rfl
 ·rfl
end
end Go.Proofs.YtkdahfeiedaahaaGreatDoor
