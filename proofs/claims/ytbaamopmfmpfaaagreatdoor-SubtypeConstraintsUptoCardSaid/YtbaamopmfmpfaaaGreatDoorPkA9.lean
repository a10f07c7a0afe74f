/- PROVED: parts of the proof (SatC3 SatD SatE). Conditions: none. -/
import Derived.Test.YtbaamopmfmpfaaaGreatDoorPkA8
noncomputable section
namespace Go.Proofs.YtbaamopmfmpfaaaGreatDoor
open Go
mutual

def PVal.no(i:Nat):PVal->Prop
 |.undef|.int _ _|.bool _|.str _|.val _=>True
 |.agg cs=>X8 i cs
 |.tuple cs=>X8 i cs
 |.slice es=>NT i es
 |.eptr cs=>X8 i cs
 |.bptr j _=>j≠i
 |.bsl j _ _=>j≠i
 |.mapr j=>j≠i
 |.func _ f c=>X8 i f/\X8 i c
def X8(i:Nat):List PVal->Prop
 |[]=>True
 |p::ps=>p.no i/\X8 i ps
def NT(i:Nat):List (List PVal)->Prop
 |[]=>True
 |p::ps=>X8 i p/\NT i ps
end
mutual
theorem Xl(i:Nat):∀(p:PVal),p.cl 0->p.no i
 |.undef,_=>by simp[PVal.no]
 |.int _ _,_=>by simp[PVal.no]
 |.bool _,_=>by simp[PVal.no]
 |.str _,_=>by simp[PVal.no]
 |.val _,_=>by simp[PVal.no]
 |.agg cs,h=>by simp only[PVal.cl]at h;simp only[PVal.no];exact sX i cs h
 |.tuple cs,h=>by simp only[PVal.cl]at h;simp only[PVal.no];exact sX i cs h
 |.slice es,h=>by simp only[PVal.cl]at h;simp only[PVal.no];exact Cz i es h
 |.eptr cs,h=>by simp only[PVal.cl]at h;simp only[PVal.no];exact sX i cs h
 |.bptr j _,h=>by simp only[PVal.cl]at h;omega
 |.bsl j _ _,h=>by simp only[PVal.cl]at h;omega
 |.mapr j,h=>by simp only[PVal.cl]at h;omega
 |.func _ f c,h=>by simp only[PVal.cl]at h;simp only[PVal.no];exact⟨sX i f h.1,sX i c h.2⟩
theorem sX(i:Nat):∀(l:List PVal),iy 0 l->X8 i l
 |[],_=>by simp[X8]
 |p::l,h=>by simp only[iy]at h;simp only[X8];exact⟨Xl i p h.1,sX i l h.2⟩
theorem Cz(i:Nat):∀(l:List (List PVal)),vX 0 l->NT i l
 |[],_=>by simp[NT]
 |p::l,h=>by simp only[vX]at h;simp only[NT];exact⟨sX i p h.1,Cz i l h.2⟩
end
theorem tK{n:Nat}:∀{l:List PVal} {i:Nat} {p:PVal},X8 n l->l[i]? =some p->p.no n
 |[],i,p,_,h=>by simp at h
 |q::l,0,p,h,hp=>by simp at hp;subst hp;simp only[X8]at h;exact h.1
 |q::l,i+1,p,h,hp=>by simp only[X8]at h;exact tK h.2 (by simpa using hp)
theorem Kc{n:Nat}:∀{l:List (List PVal)} {i:Nat} {p:List PVal},NT n l->l[i]? =some p->X8 n p
 |[],i,p,_,h=>by simp at h
 |q::l,0,p,h,hp=>by simp at hp;subst hp;simp only[NT]at h;exact h.1
 |q::l,i+1,p,h,hp=>by simp only[NT]at h;exact Kc h.2 (by simpa using hp)
theorem VR.noi{Γ:bw}{bs bs':bR}{w:World}{p:PVal}{v:Value}{n:Nat}(h:VR Γ bs w p v)(hc:p.no n)
  (hb:∀(i b:Nat),i≠n->bs[i]? =some (some b)->bs'[i]? =some (some b)):VR Γ bs' w p v:=by
 induction h with
 |undef v=>exact .undef v
 |int k n=>exact .int k n
 |bool b=>exact .bool b
 |str l=>exact .str l
 |val v=>exact .val v
 |agg cs vs hl _ ih=>simp only[PVal.no]at hc;exact .agg cs vs hl fun i p v hp hv=>ih i p v hp hv (tK hc hp)
 |tuple cs vs hl _ ih=>simp only[PVal.no]at hc;exact .tuple cs vs hl fun i p v hp hv=>ih i p v hp hv (tK hc hp)
 |sliceNil=>exact .sliceNil
 |sliceE a cap=>exact .sliceE a cap
 |slice es b off cap n sz vals h0 hcap hg hn hsz hcc _ ih=>
  simp only[PVal.no]at hc
  exact .slice es b off cap n sz vals h0 hcap hg hn hsz hcc fun i e k p he hp=>ih i e k p he hp (tK (Kc hc he) hp)
 |eptrE b off=>exact .eptrE b off
 |bsl i off k x cap hcap hnil h=>simp only[PVal.no]at hc;exact .bsl i off k x cap hcap hnil (h.imp_right fun⟨b,h1,h2⟩=>⟨b,h1,hb i b hc h2⟩)
 |eptr cs b off n vals hg hn hcc _ ih=>
  simp only[PVal.no]at hc
  exact .eptr cs b off n vals hg hn hcc fun k p hp=>ih k p hp (tK hc hp)
 |bptr i off b h=>simp only[PVal.no]at hc;exact .bptr i off b (hb i b hc h)
 |mapr i b h=>simp only[PVal.no]at hc;exact .mapr i b (hb i b hc h)
 |func fn first cap fs cs hl hl' _ _ ih ih'=>
  simp only[PVal.no]at hc
  exact .func fn first cap fs cs hl hl' (fun i p v hp hv=>ih i p v hp hv (tK hc.1 hp)) (fun i p v hp hv=>ih' i p v hp hv (tK hc.2 hp))
inductive Fz(i:Nat)(es:List (List PVal)):PVal->PVal->Prop where
 |u (p:PVal):Fz i es p .undef
 |k (p:PVal) (h:p.no i):Fz i es p p
 |s (n:Nat) (h:n=es.length):Fz i es (.bsl i 0 n) (.slice es)
 |b (off:Nat):Fz i es (.bptr i off) (.eptr (es.flatten.drop off))
 |f (fn:Fn) (f c f' c':List PVal) (hl:f.length=f'.length) (hl':c.length=c'.length) (h:∀(j:Nat) p q,f[j]? =some p->f'[j]? =some q->Fz i es p q) (h':∀(j:Nat) p q,c[j]? =some p->c'[j]? =some q->Fz i es p q):Fz i es (.func fn f c) (.func fn f' c')
def Zq(i:Nat)(es:List (List PVal)):List PVal->List PVal->Prop
 |[],[]=>True
 |p::ps,q::qs=>Fz i es p q/\Zq i es ps qs
 |_,_=>False
inductive qgj(i:Nat)(es:List (List PVal)):aN->aN->Prop where
 |d (B:aN):qgj i es B .dead
 |c (cs cs':List PVal) (own:List (Nat×TypeId)) (h:Zq i es cs cs'):qgj i es (.cells cs own) (.cells cs' own)
 |k (cs:List PVal) (own:List (Nat×TypeId)) (h:X8 i cs):qgj i es (.cells cs own) (.cells cs own)
 |m (l:List (PVal×PVal)) (h:∀x∈l,x.1.no i/\x.2.no i):qgj i es (.map l) (.map l)
def Ri(i:Nat)(es:List (List PVal)):List aN->List aN->Prop
 |[],[]=>True
 |p::ps,q::qs=>qgj i es p q/\Ri i es ps qs
 |_,_=>False
theorem Zq.len{i:Nat}{es:List (List PVal)}:∀{l r:List PVal},Zq i es l r->l.length=r.length
 |[],[],_=>rfl
 |[],_::_,h=>h.elim
 |_::_,[],h=>h.elim
 |_::_,_::_,h=>by simp[Zq.len h.2]
theorem Zq.get{i:Nat}{es:List (List PVal)}:∀{l r:List PVal},Zq i es l r->∀{j:Nat} {p q},l[j]? =some p->r[j]? =some q->Fz i es p q
 |[],[],_,j,p,q,hp,_=>by simp at hp
 |[],_::_,h,_,_,_,_,_=>h.elim
 |_::_,[],h,_,_,_,_,_=>h.elim
 |_::_,_::_,h,0,p,q,hp,hq=>by simp at hp hq;subst hp;subst hq;exact h.1
 |_::_,_::_,h,j+1,p,q,hp,hq=>Zq.get h.2 (j:=j) (by simpa using hp) (by simpa using hq)
theorem Ri.len{i:Nat}{es:List (List PVal)}:∀{l r:List aN},Ri i es l r->l.length=r.length
 |[],[],_=>rfl
 |[],_::_,h=>h.elim
 |_::_,[],h=>h.elim
 |_::_,_::_,h=>by simp[Ri.len h.2]
theorem Ri.get{i:Nat}{es:List (List PVal)}:∀{l r:List aN},Ri i es l r->∀{j:Nat} {p q},l[j]? =some p->r[j]? =some q->qgj i es p q
 |[],[],_,j,p,q,hp,_=>by simp at hp
 |[],_::_,h,_,_,_,_,_=>h.elim
 |_::_,[],h,_,_,_,_,_=>h.elim
 |_::_,_::_,h,0,p,q,hp,hq=>by simp at hp hq;subst hp;subst hq;exact h.1
 |_::_,_::_,h,j+1,p,q,hp,hq=>Ri.get h.2 (j:=j) (by simpa using hp) (by simpa using hq)
def FZ(m i:Nat)(es:List (List PVal))(st st':aA):Prop:=
 ((m % 1000<=i)/\∃sz,0<sz/\∀x∈es,x.length=sz)/\NT i es/\(∃own,st.boxes[i]? =some (.cells es.flatten own))/\st'.boxes[i]? =some .dead/\Zq i es st.tmps st'.tmps/\Ri i es st.boxes st'.boxes/\∀x∈st'.own,x∈st.own
theorem ZN{sz:Nat}:∀{es:List (List PVal)},(∀x∈es,x.length=sz)->∀{i k:Nat} {e:List PVal} {p:PVal},es[i]? =some e->e[k]? =some p->es.flatten[i * sz+k]? =some p
 |[],_,i,k,e,p,h,_=>by simp at h
 |x::es,hl,0,k,e,p,h,hp=>by
  simp at h;subst h
  rw[List.flatten_cons,vcz,vaK,vaf (av hp)]
  exact hp
 |x::es,hl,i+1,k,e,p,h,hp=>by
  have hx:=hl x (by simp)
  rw[List.flatten_cons,vai (by rw[hx,va7];omega),hx,show(i+1) * sz+k - sz=i * sz+k by rw[va7];omega]
  exact ZN (fun y hy=>hl y (by simp[hy])) (by simpa using h) hp
theorem FZ.weak{P:Program}{m i:Nat}{es:List (List PVal)}{st st':aA}(h:FZ m i es st st'):vU P m st st':=by
 obtain⟨⟨hm,sz,hsz0,hsz⟩,hno,hBi,hBi',htm,hbx,how⟩:=h
 obtain⟨bown,hB⟩:=hBi
 have hB':=hBi'
 intro E bs0 a w hb0 hR
 obtain⟨Γ,bs,ow,hS,hk⟩:=hR
 have hil:i<bs.length:=by rw[hS.bl];exact av hB
 obtain⟨x,hx⟩:∃x,bs[i]? =some x:=⟨_,vab hil⟩
 have hsub:∀(j b:Nat),j≠i->bs[j]? =some (some b)->(bs.set i none)[j]? =some (some b):=fun j b hj hb=>by rw[vas (fun e=>hj e.symm)];exact hb
 have hback:∀{j b:Nat},(bs.set i none)[j]? =some (some b)->j≠i/\bs[j]? =some (some b):=fun{j b} hb=>by
  by_cases hj:j=i
  ·subst hj;rw[van hil]at hb;cases hb
  ·rw[vas (fun e=>hj e.symm)]at hb;exact⟨hj,hb⟩
 obtain ⟨Γ',hle,hwi,hΓ,hslice,hkeep,hptr⟩:∃ Γ':bw,Γ.Le w Γ' w∧(∀ b n,Γ' b = some n→∃ c t fr,w.heap[b]? = some (.cells c t fr)∧n ≤ c.size)∧(∀ b,bs[i]? ≠ some (some b)→Γ' b = Γ b) ∧
   (∀n v,n=es.length->VR Γ bs w (.bsl i 0 n) v->VR Γ' (bs.set i none) w (.slice es) v)/\(∀b n,Γ b=some n->Γ' b=some n)/\(∀off v,VR Γ bs w (.bptr i off) v->VR Γ' (bs.set i none) w (.eptr (es.flatten.drop off)) v):=by
  cases x with
  | none =>
   refine⟨Γ,.refl _ _,hS.wi,fun _ _=>rfl,fun n v hn hv=>?_,fun _ _ h=>h,fun off v hv=>by cases hv with|bptr _ _ b hb=>rw[hx]at hb;cases hb⟩
   cases hv with
   | bsl _ _ _ x cap hcap hnil hxb =>
    have hes:es=[]:=by
     rcases hxb with h0|⟨b,_,hb⟩
     ·exact vau (by omega)
     ·rw[hx]at hb;cases hb
    subst hes
    have hn0:n=0:=hn
    subst hn0
    cases x with
    |none=>rw[hnil rfl];exact .sliceNil
    |some ad=>exact .sliceE ad cap
  | some b =>
   obtain⟨hg,hlt,c,t,hheap,hcs,hcv⟩:=hS.bx i b _ hx hB
   have hflen:=flat_len hsz
   have hle:Γ.Le w (Γ.put b es.flatten.length) w:=fun b' n hb' _=>⟨n,(Γ.put_other (fun e=>by subst e;rw[hg]at hb';cases hb')).trans hb',vah _,fun _ _=>rfl⟩
   refine⟨Γ.put b es.flatten.length,hle,fun b' n hb'=>?_,fun b' hb'=>Γ.put_other (fun e=>hb' (by rw[e];exact hx)),fun n v hn hv=>?_,fun b' n hb'=>(Γ.put_other (fun e=>by subst e;rw[hg]at hb';cases hb')).trans hb',fun off v hv=>?_⟩
   ·by_cases hbb:b'=b
    ·subst hbb;rw[Γ.put_same]at hb';cases hb';exact⟨c,t,_,hheap,hcs⟩
    ·rw[Γ.put_other hbb]at hb';exact hS.wi b' n hb'
   ·cases hv with
    | bsl _ _ _ x cap hcap hnil hxb =>
     rcases hxb with h0|⟨b',hxb,hb'⟩
     ·subst h0
      have hes:es=[]:=vau hn.symm
      subst hes
      cases x with
      |none=>rw[hnil rfl];exact .sliceNil
      |some ad=>exact .sliceE ad cap
     ·rw[hx]at hb';cases hb'
      subst hxb;subst hn
      refine CL hheap (Γ.put_same _ _) (by rw[hflen];exact vah _) hsz0 hcap (fun i x hx=>hsz x (vaA hx)) fun j x k q hxj hq=>?_
      have hfa:=ZN hsz hxj hq
      have hlt2:j * sz+k<c.size:=vaJ (av hfa) hcs
      exact⟨c[j * sz+k],by simp[hlt2],((hcv _ _ _ hfa (by simp[hlt2])).noi (tK (Kc hno hxj) hq) hsub).mono hle (.refl _)⟩
   ·cases hv with
    | bptr _ _ b' hb' =>
     rw[hx]at hb';cases hb'
     by_cases hoff:off<=es.flatten.length
     ·have hget:∀(k:Nat) q,(es.flatten.drop off)[k]? =some q->es.flatten[off+k]? =some q/\off+k<c.size:=fun k q hq=>by
       rw[vbg]at hq
       exact⟨hq,vaJ (av hq) hcs⟩
      refine .eptr _ b off es.flatten.length (fun k=>c.getD (off+k) undef) (Γ.put_same _ _) (by rw[vaY];omega) (fun k q hq=>?_) (fun k q hq=>?_)
      ·obtain⟨h1,h2⟩:=hget k q hq
       rw[cell_of_row w b _ c t _ hheap]
       simp[vaz,h2]
      ·obtain⟨h1,h2⟩:=hget k q hq
       have hc1:c[off+k]? =some (c.getD (off+k) undef):=by simp[vaz,h2]
       have hnq:q.no i:=by
        obtain⟨y,hy1,hy2⟩:=P6 hsz0 hsz h1
        exact tK (Kc hno hy1) hy2
       exact((hcv _ _ _ h1 hc1).noi hnq hsub).mono hle (.refl _)
     ·rw[vbP (by omega)];exact .eptrE _ _
 have fz:∀{p q:PVal} {v:Value},Fz i es p q->VR Γ bs w p v->VR Γ' (bs.set i none) w q v:=by
  intro p q v hf
  induction hf generalizing v with
  |u p=>exact fun _=>.undef _
  |k p h=>exact fun hv=>(hv.noi h hsub).mono hle (.refl _)
  |s n h=>exact fun hv=>hslice n _ h hv
  |b off=>exact fun hv=>hptr off _ hv
  | f fn f c f' c' hl hl' h h' ih ih' =>
   intro hv
   cases hv with
   | func _ _ _ fs cs k1 k2 k3 k4 =>
    refine .func fn f' c' fs cs (by omega) (by omega) (fun j q u hq hu=>?_) (fun j q u hq hu=>?_)
    ·have hj:=av hq
     have hp:=vab (l:=f) (i:=j) (by omega)
     exact ih j _ q hp hq (k3 j _ u hp hu)
    ·have hj:=av hq
     have hp:=vab (l:=c) (i:=j) (by omega)
     exact ih' j _ q hp hq (k4 j _ u hp hu)
 have hown:∀{v:Value} {e:TypeId},jt P Γ w v e->jt P Γ' w v e:=by
  intro v e ho
  obtain⟨n,xs,o1,o2⟩:=ho
  exact⟨n,xs,o1,fun b hb=>hkeep b _ (o2 b hb)⟩
 have hmem:∀y∈st'.own,y∈st.own:=how
 have hbnot:∀{j b:Nat},j≠i->bs[j]? =some (some b)->bs[i]? ≠some (some b):=fun hj hb hbi=>hj (hS.inj _ _ _ hb hbi)
 refine⟨Γ',bs.set i none,ow,?_,fun j hj=>?_⟩
 ·exact{
   wi:=hwi
   sz:=by rw[hS.sz];exact htm.len
   tm:=fun t q v hq hv=>by
    have hl:=htm.len
    have ht:=av hq
    have hp:=vab (l:=st.tmps) (i:=t) (by omega)
    exact fz (htm.get hp hq) (hS.tm t _ v hp hv)
   bl:=by rw[vbq,hS.bl];exact hbx.len
   bx:=fun j b C hb hC=>by
    obtain⟨hj,hb⟩:=hback hb
    have hl:=hbx.len
    have hjl:=av hC
    have hp:=vab (l:=st.boxes) (i:=j) (by omega)
    obtain⟨h1,h2,h3⟩:=hS.bx j b _ hb hp
    refine⟨(hΓ b (hbnot hj hb)).trans h1,h2,?_⟩
    have hf:=hbx.get hp hC
    generalize st.boxes[j]=B0 at hf h3
    cases hf with
    |d B=>trivial
    |c cs cs' own h=>
     obtain⟨c,t,e1,e2,e3⟩:=h3
     refine⟨c,t,e1,by rw[<-h.len];exact e2,fun k q v hq hv=>?_⟩
     have hk:=av hq
     have hlen:=h.len
     have hpk:=vab (l:=cs) (i:=k) (by omega)
     exact fz (h.get hpk hq) (e3 k _ v hpk hv)
    |k cs own h=>
     obtain⟨c,t,e1,e2,e3⟩:=h3
     exact⟨c,t,e1,e2,fun k q v hq hv=>((e3 k q v hq hv).noi (tK h hq) hsub).mono hle (.refl _)⟩
    |m l h=>
     obtain⟨c,t,e1,e2,e3⟩:=h3
     refine⟨c,t,e1,e2,fun k q u y hq hy=>?_⟩
     obtain⟨n1,n2⟩:=h _ (vaA hq)
     obtain⟨v1,v2⟩:=e3 k q u y hq hy
     exact⟨(v1.noi n1 hsub).mono hle (.refl _),(v2.noi n2 hsub).mono hle (.refl _)⟩
   inj:=fun j k b hj hk'=>hS.inj j k b (hback hj).2 (hback hk').2
   bn:=fun j b hb=>hS.bn j b (hback hb).2
   on:=hS.on
   ot:=fun t k e he=>by
    obtain⟨u,v,h1,h2,h3,h4⟩:=hS.ot t k e (hmem _ he)
    exact⟨u,v,h1,h2,hown h3,h4⟩
   ob:=fun j k e cs own b hC hk' hb=>by
    obtain⟨hj,hb⟩:=hback hb
    have hl:=hbx.len
    have hjl:=av hC
    have hp:=vab (l:=st.boxes) (i:=j) (by omega)
    have hf:=hbx.get hp hC
    generalize hB0:st.boxes[j]=B0 at hf hp
    cases hf with
    |c cs0 _ _ h=>
     obtain⟨v,h1,h2,h3⟩:=hS.ob j k e cs0 own b hp hk' hb
     exact⟨v,h1,hown h2,h3⟩
    |k _ _ h=>
     obtain⟨v,h1,h2,h3⟩:=hS.ob j k e cs own b hp hk' hb
     exact⟨v,h1,hown h2,h3⟩
   gl:=fun g cs hg=>((hS.gl g cs hg).mono hle (.refl _)).restrict (n:=0) (by simp only[PVal.cl];exact hS.gc g cs hg) (fun i b hi _=>absurd hi (vaS _))
   gc:=hS.gc
   gx:=hS.gx
   step:={hS.step with
    keep:=fun b hb hT=>by
     obtain⟨k1,k2⟩:=hS.step.keep b hb hT
     refine⟨k1,(hΓ b fun hbi=>?_).trans k2⟩
     rcases hS.bn i b hbi with h1|h1
     ·exact hT h1
     ·omega
    le:=hS.step.le.trans hle}}
 ·rw[vas (by omega)]
  exact hk j hj
def qiA(i:Nat)(es:List (List PVal)):PVal->(PVal->Prop)->Prop
 |.undef,k=>k .undef
 |.int a n,k=>k (.int a n)
 |.bool b,k=>k (.bool b)
 |.str s,k=>k (.str s)
 |.val v,k=>k (.val v)
 |.bptr j off,k=>match j==i with
  |true=>bP (es.flatten.drop off) fun l=>k (.eptr l)
  |false=>k (.bptr j off)
 | .bsl j off n,k => match j == i with
  |true=>match off with
   |0=>n=es.length/\k (.slice es)
   |_+1=>False
  |false=>k (.bsl j off n)
 |.mapr j,k=>match j==i with
  |true=>False
  |false=>k (.mapr j)
 |p,k=>p.no i/\k p
def U9(i:Nat)(es:List (List PVal)):List PVal->(List PVal->Prop)->Prop
 |[],k=>k []
 |p::ps,k=>match p with
  |.func fn f c=>fzF i es f fun f'=>fzF i es c fun c'=>U9 i es ps fun l=>k (.func fn f' c'::l)
  |p=>qiA i es p fun q=>U9 i es ps fun l=>k (q::l)
where
 fzF (i:Nat) (es:List (List PVal)):List PVal->(List PVal->Prop)->Prop
  |[],k=>k []
  |p::ps,k=>qiA i es p fun q=>fzF i es ps fun l=>k (q::l)
def qhw(i:Nat)(es:List (List PVal))(lv:List Nat):Nat->List PVal->(List PVal->Prop)->Prop
 |_,[],k=>k []
 | n,p :: ps,k => match lv.contains n with
  |true=>match p with
   |.func fn f c=>U9.fzF i es f fun f'=>U9.fzF i es c fun c'=>qhw i es lv (n+1) ps fun l=>k (.func fn f' c'::l)
   |p=>qiA i es p fun q=>qhw i es lv (n+1) ps fun l=>k (q::l)
  |false=>qhw i es lv (n+1) ps fun l=>k (.undef::l)
def qeR(i:Nat)(es:List (List PVal))(rk:List Nat):Nat->List aN->(List aN->Prop)->Prop
 |_,[],k=>k []
 | n,B :: Bs,k => match n == i with
  |true=>qeR i es rk (n+1) Bs fun l=>k (.dead::l)
  | false => match B with
   |.dead=>qeR i es rk (n+1) Bs fun l=>k (.dead::l)
   |.cells cs own=>match rk.contains n with
    |true=>X8 i cs/\qeR i es rk (n+1) Bs fun l=>k (.cells cs own::l)
    |false=>U9 i es cs fun cs'=>qeR i es rk (n+1) Bs fun l=>k (.cells cs' own::l)
   |.map m=>(∀x∈m,x.1.no i/\x.2.no i)/\qeR i es rk (n+1) Bs fun l=>k (.map m::l)
def qcZ(es:List (List PVal)):aN->Prop
 |.cells cs _=>cs=es.flatten
 |_=>False
theorem qc0{es:List (List PVal)}{H:List aN}{i:Nat}(h:mP H i (qcZ es)):∃own,H[i]? =some (.cells es.flatten own):=by
 obtain⟨B,hB,h⟩:=eB h
 unfold qcZ at h
 split at h
 ·subst h;exact⟨_,hB⟩
 ·exact h.elim
def qb1(m:Nat):List It->aA->(List It->aA->Prop)->Prop
 |.fz i es lv rk::sc',st,k=>((m % 1000<=i)/\∃sz,0<sz/\∀x∈es,x.length=sz)/\NT i es/\mP st.boxes i (qcZ es)/\qhw i es lv 0 st.tmps fun tm=>qeR i es rk 0 st.boxes fun H=>bP (st.own.filter fun x=>lv.contains x.1.1) fun ow=>qb1 m sc' ⟨tm,H,ow⟩ k
 |sc,st,k=>k sc st
theorem YM{i:Nat}{es:List (List PVal)}{p:PVal}{k:PVal->Prop}(h:qiA i es p k):∃q,Fz i es p q/\k q:=by
 unfold qiA at h
 split at h
 ·exact⟨_,.u _,h⟩
 ·exact⟨_,.k _ (by simp[PVal.no]),h⟩
 ·exact⟨_,.k _ (by simp[PVal.no]),h⟩
 ·exact⟨_,.k _ (by simp[PVal.no]),h⟩
 ·exact⟨_,.k _ (by simp[PVal.no]),h⟩
 ·rename_i j off
  split at h
  ·rename_i hj
   simp only[va4]at hj
   subst hj
   rw[bk]at h
   exact⟨_,.b _,h⟩
  ·rename_i hj
   exact⟨_,.k _ (by simpa[PVal.no]using hj),h⟩
 ·rename_i j off n
  split at h
  ·rename_i hj
   simp only[va4]at hj
   subst hj
   split at h
   ·exact⟨_,.s _ h.1,h.2⟩
   ·exact h.elim
  ·rename_i hj
   exact⟨_,.k _ (by simpa[PVal.no]using hj),h⟩
 ·rename_i j
  split at h
  ·exact h.elim
  ·rename_i hj
   exact⟨_,.k _ (by simpa[PVal.no]using hj),h⟩
 ·exact⟨_,.k _ h.1,h.2⟩
theorem Qb{i:Nat}{es:List (List PVal)}:∀{l:List PVal} {k:List PVal->Prop},U9.fzF i es l k->∃r,Zq i es l r/\k r
 |[],k,h=>⟨[],trivial,h⟩
 |p::ps,k,h=>by
  unfold U9.fzF at h
  obtain⟨q,h1,h2⟩:=YM h
  obtain⟨r,h3,h4⟩:=Qb h2
  exact⟨q::r,⟨h1,h3⟩,h4⟩
theorem Fz.fn{i:Nat}{es:List (List PVal)}(fn:Fn){f c f' c':List PVal}(h:Zq i es f f')(h':Zq i es c c'):Fz i es (.func fn f c) (.func fn f' c'):=
 .f fn f c f' c' h.len h'.len (fun _ _ _ hp hq=>h.get hp hq) (fun _ _ _ hp hq=>h'.get hp hq)
theorem Va{i:Nat}{es:List (List PVal)}:∀{l:List PVal} {k:List PVal->Prop},U9 i es l k->∃r,Zq i es l r/\k r
 |[],k,h=>⟨[],trivial,h⟩
 | p :: ps,k,h => by
  unfold U9 at h
  split at h
  ·obtain⟨f',h1,h2⟩:=Qb h
   obtain⟨c',h3,h4⟩:=Qb h2
   obtain⟨r,h5,h6⟩:=Va h4
   exact⟨_::r,⟨.fn _ h1 h3,h5⟩,h6⟩
  ·obtain⟨q,h1,h2⟩:=YM h
   obtain⟨r,h3,h4⟩:=Va h2
   exact⟨q::r,⟨h1,h3⟩,h4⟩
theorem U8{i:Nat}{es:List (List PVal)}{lv:List Nat}:∀{n:Nat} {l:List PVal} {k:List PVal->Prop},qhw i es lv n l k->∃r,Zq i es l r/\k r
 |_,[],k,h=>⟨[],trivial,h⟩
 | n,p :: ps,k,h => by
  unfold qhw at h
  split at h
  ·split at h
   ·obtain⟨f',h1,h2⟩:=Qb h
    obtain⟨c',h3,h4⟩:=Qb h2
    obtain⟨r,h5,h6⟩:=U8 h4
    exact⟨_::r,⟨.fn _ h1 h3,h5⟩,h6⟩
   ·obtain⟨q,h1,h2⟩:=YM h
    obtain⟨r,h3,h4⟩:=U8 h2
    exact⟨q::r,⟨h1,h3⟩,h4⟩
  ·obtain⟨r,h3,h4⟩:=U8 h
   exact⟨.undef::r,⟨.u _,h3⟩,h4⟩
theorem qcP{i:Nat}{es:List (List PVal)}{rk:List Nat}:∀{n:Nat} {l:List aN} {k:List aN->Prop},qeR i es rk n l k->∃r,Ri i es l r/\(∀j B,l[j]? =some B->n+j=i->r[j]? =some .dead)/\k r
 |_,[],k,h=>⟨[],trivial,by simp,h⟩
 | n,B :: Bs,k,h => by
  have go:∀{B':aN} {k':List aN->Prop},qgj i es B B'->(n=i->B'=.dead)->qeR i es rk (n+1) Bs k'->(∀r,k' r->k (B'::r))->∃r,Ri i es (B::Bs) r/\(∀j C,(B::Bs)[j]? =some C->n+j=i->r[j]? =some .dead)/\k r:=by
   intro B' k' h1 h2 h3 h4
   obtain⟨r,r1,r2,r3⟩:=qcP h3
   refine⟨B'::r,⟨h1,r1⟩,fun j C hC hj=>?_,h4 r r3⟩
   cases j with
   |zero=>simp[h2 (by omega)]
   |succ j=>simpa using r2 j C (by simpa using hC) (by omega)
  unfold qeR at h
  split at h
  ·exact go (.d _) (fun _=>rfl) h (fun _ x=>x)
  ·rename_i hn
   have hn':n≠i:=by simpa using hn
   split at h
   ·exact go (.d _) (fun _=>rfl) h (fun _ x=>x)
   ·split at h
    ·exact go (.k _ _ h.1) (fun e=>absurd e hn') h.2 (fun _ x=>x)
    ·obtain⟨cs',h1,h2⟩:=Va h
     exact go (.c _ _ _ h1) (fun e=>absurd e hn') h2 (fun _ x=>x)
   ·exact go (.m _ h.1) (fun e=>absurd e hn') h.2 (fun _ x=>x)
theorem U7{P:Program}{m:Nat}:∀{sc:List It} {st:aA} {k:List It->aA->Prop},qb1 m sc st k->∃sc' st',vU P m st st'/\k sc' st'
 |[],st,k,h=>⟨[],st,.refl _,by simpa[qb1]using h⟩
 | x :: sc,st,k,h => by
  unfold qb1 at h
  split at h
  ·rename_i i es lv rk sc' heq
   cases heq
   obtain⟨h1,h2,h3,h4⟩:=h
   obtain⟨own,hB⟩:=qc0 h3
   obtain⟨tm,t1,h5⟩:=U8 h4
   obtain⟨H,b1,b2,h6⟩:=qcP h5
   rw[bk]at h6
   obtain⟨sc2,st2,w1,h7⟩:=U7 h6
   exact⟨sc2,st2,vU.trans (FZ.weak (st':=⟨tm,H,_⟩) ⟨h1,h2,⟨own,hB⟩,b2 i _ hB (by omega),t1,b1,fun x hx=>(vaR.1 hx).1⟩) w1,h7⟩
  ·exact⟨_,_,.refl _,h⟩
def FG(st st0:aA):Prop:=NR st.tmps st0.tmps=st0.tmps/\U3 st.boxes st0.boxes=st0.boxes/\(st0.own.all fun x=>decide (x∈st.own))=true
theorem fr(st:aA):st.tmps=st.tmps/\st.boxes=st.boxes/\true=true:=⟨rfl,rfl,rfl⟩
theorem FG.weak{P:Program}{m:Nat}{st st0:aA}(h:FG st st0):vU P m st st0:=by
 obtain⟨h1,h2,h3⟩:=h
 have:=vU.forget (P:=P) (m:=m) (st:=st) st0.tmps st0.boxes st0.own (fun x hx=>by simpa using vax.1 h3 x hx)
 rw[h1,h2]at this
 exact this
def A5(P:Program)(GE:List (Nat×List PVal))(A:List Nat)(m:Nat):Code->List It->aA->(Exit->List It->aA->Prop)->Prop
 |.skip,sc,st,K=>K .normal sc st
 |.label _,sc,st,K=>K .normal sc st
 | .region _ ops draw,sc,st,K => match draw with
  |false=>match ops.toList.all gq with
   |true=>UI st.boxes (gM P ops.toList) fun H=>PZ P GE A ops (K .normal) ops.toList 0 st.boxes.length sc ⟨st.tmps,H,st.own⟩
   |false=>False
  |true=>match sc with
   |.dr an::sc'=>UY P GE A ops an [] [] [] (K .normal) sc' st
   |.dx an X br rw::sc'=>UY P GE A ops an X br rw (K .normal) sc' st
   |_=>False
 | .seq a b,sc,st,K =>
  let after (e:Exit) (sc:List It) (st:aA):Prop:=match e with
   |.normal=>qb1 m sc st fun sc st=>A5 P GE A m b sc st K
   |e=>K e sc st
  match sc with
  |.pa 0::.pc st0 e st1::sc'=>FG st st0/\aU P GE m a (EX e st1) st0/\after e sc' st1
  |.pa (n+1)::sc'=>A5 P GE A m a (.pa n::sc') st after
  |sc=>A5 P GE A m a sc st after
 | .cond c a b,sc,st,K => qy GE st.tmps c fun v => match v with
  | .bool t => match sc with
   |.k::sc'=>match t with
    |true=>qb1 m sc' st fun sc st=>A5 P GE A m a sc st K
    |false=>qb1 m sc' st fun sc st=>A5 P GE A m b sc st K
   |.g _ x::sc'=>t=x/\match x with
    |true=>qb1 m sc' st fun sc st=>A5 P GE A m a sc st K
    |false=>qb1 m sc' st fun sc st=>A5 P GE A m b sc st K
   |_=>False
  |_=>False
 |.block id c,sc,st,K=>A5 P GE A m c sc st fun e sc st=>match e with
  |.exit id'=>if id'=id then K .normal sc st else K (.exit id') sc st
  |e=>K e sc st
 |.exit id,sc,st,K=>K (.exit id) sc st
 |.ret,sc,st,K=>K .ret sc st
 |.loop c,sc,st,K=>match sc with
  |.pc st0 e st1::sc'=>FG st st0/\aU P GE m (.loop c) (EX e st1) st0/\K e sc' st1
  |_=>False
 |_,_,_,_=>False
section
variable{P:Program}{GE:List (Nat×List PVal)}{A:List Nat}{m:Nat}
theorem iI(hf:P.follows .mixedOrders=true):∀(c:Code) (sc:List It) (st:aA) (K:Exit->List It->aA->Prop),A5 P GE A m c sc st K->aU P GE m c (fun e st'=>∃sc',K e sc' st') st
 |.skip,sc,st,K,h=>aU.skip ⟨sc,h⟩
 |.label _,sc,st,K,h=>aU.label ⟨sc,h⟩
 | .region id ops draw,sc,st,K,h => by
  simp only[A5]at h
  cases draw with
  | false =>
   simp only at h
   split at h
   ·rename_i hd
    simp only[UI,bk]at h
    exact aU.text hd (Cl _ _ _ _ _ h)
   ·exact h.elim
  | true =>
   simp only at h
   split at h
   ·exact JJ hf (fun st hx=>hx) h
   ·exact JJ hf (fun st hx=>hx) h
   ·exact h.elim
 | .seq a b,sc,st,K,h => by
  have aft:∀(e:Exit) (sc':List It) (st':aA),(match e with|.normal=>qb1 m sc' st' (fun sc st=>A5 P GE A m b sc st K)|e=>K e sc' st')->(match e with|.normal=>aU P GE m b (fun e st'=>∃sc',K e sc' st') st'|e=>∃sc',K e sc' st'):=by
   intro e sc' st' hx
   cases e with
   |normal=>
    obtain⟨sc2,st2,hw,hx⟩:=U7 (P:=P) hx
    exact aU.weak hw (iI hf b sc2 st2 K hx)
   |exit id=>exact⟨_,hx⟩
   |goto l=>exact⟨_,hx⟩
   |ret=>exact⟨_,hx⟩
   |panic c=>exact⟨_,hx⟩
   |outgrown=>exact⟨_,hx⟩
  simp only[A5]at h
  refine aU.seq ?_
  split at h
  ·rename_i st0 e st1 sc'
   obtain⟨h1,h2,h3⟩:=h
   refine aU.weak h1.weak (EX.of h2 ?_)
   have:=aft e sc' st1 h3
   cases e<;>exact this
  ·exact(iI hf a _ st _ h).imp fun e st' hx=>by
    obtain⟨sc',hx⟩:=hx
    have:=aft e sc' st' hx
    cases e<;>exact this
  ·exact(iI hf a _ st _ h).imp fun e st' hx=>by
    obtain⟨sc',hx⟩:=hx
    have:=aft e sc' st' hx
    cases e<;>exact this
 | .cond c a b,sc,st,K,h => by
  simp only[A5,cC]at h
  have go:∀{x:Code} (hx:∀(sc:List It) (st:aA),A5 P GE A m x sc st K->aU P GE m x (fun e st'=>∃sc',K e sc' st') st) {sc:List It},qb1 m sc st (fun sc st=>A5 P GE A m x sc st K)->aU P GE m x (fun e st'=>∃sc',K e sc' st') st:=by
   intro x hx sc h
   obtain⟨sc2,st2,hw,h⟩:=U7 (P:=P) h
   exact aU.weak hw (hx sc2 st2 h)
  split at h
  ·rename_i t ht
   split at h
   ·rename_i sc'
    refine aU.cond ht (fun h1=>?_) (fun h1=>?_)
    ·subst h1;exact go (fun sc st=>iI hf a sc st K) h
    ·subst h1;exact go (fun sc st=>iI hf b sc st K) h
   ·rename_i j x sc'
    obtain⟨rfl,h⟩:=h
    refine aU.cond ht (fun h1=>?_) (fun h1=>?_)
    ·subst h1;exact go (fun sc st=>iI hf a sc st K) h
    ·subst h1;exact go (fun sc st=>iI hf b sc st K) h
   ·exact h.elim
  ·exact h.elim
 | .block id c,sc,st,K,h => by
  simp only[A5]at h
  refine aU.block ((iI hf c _ st _ h).imp fun e st' hx=>?_)
  obtain⟨sc',hx⟩:=hx
  cases e with
  | exit id' =>
   simp only[Yn]
   simp only at hx
   split at hx
   ·rename_i hid;rw[vad hid];exact⟨sc',hx⟩
   ·rename_i hid;rw[vae hid];exact⟨sc',hx⟩
  |normal=>exact⟨sc',hx⟩
  |goto l=>exact⟨sc',hx⟩
  |ret=>exact⟨sc',hx⟩
  |panic c=>exact⟨sc',hx⟩
  |outgrown=>exact⟨sc',hx⟩
 |.exit id,sc,st,K,h=>aU.exit ⟨sc,h⟩
 |.ret,sc,st,K,h=>aU.ret ⟨sc,h⟩
 | .loop c,sc,st,K,h => by
  simp only[A5]at h
  split at h
  ·rename_i st0 e st1 sc'
   obtain⟨h1,h2,h3⟩:=h
   exact aU.weak h1.weak (EX.of h2 ⟨sc',h3⟩)
  ·exact h.elim
 |.rangeFunc ..,_,_,_,h=>by simp[A5]at h
 |.scope _,_,_,_,h=>by simp[A5]at h
 |.goto _,_,_,_,h=>by simp[A5]at h
 |.refuse _,_,_,_,h=>by simp[A5]at h
def FN(e0:Exit)(st0:aA):Exit->List It->aA->Prop:=fun e _ st=>e0=e/\FG st st0
theorem piece(hf:P.follows .mixedOrders=true){c:Code}{e0:Exit}{st0 st:aA}(sc:List It)(h:A5 P GE A m c sc st (FN e0 st0)):aU P GE m c (EX e0 st0) st:=
 (iI hf c sc st _ h).mono fun _ _ hx=>by
  obtain⟨_,hx⟩:=hx
  exact⟨st0,hx.2.weak,hx.1.symm,rfl⟩
theorem pj(hf:P.follows .mixedOrders=true){σ X:Type}{S:σ->aA}{ex:X->Exit}{so:X->aA}{c:Code}{s:σ}{st:aA}(sc:List It)(h:A5 P GE A m c sc st (FN .normal (S s))):aU P GE m c (LQ S ex so (.inl s)) st:=
 (piece hf sc h).imp fun _ _ hx=>⟨hx.1,hx.2⟩
theorem qkj(hf:P.follows .mixedOrders=true){σ X:Type}{S:σ->aA}{ex:X->Exit}{so:X->aA}{c:Code}{x:X}{st:aA}(sc:List It)(hn:ex x≠.normal)(h:A5 P GE A m c sc st (FN (ex x) (so x))):aU P GE m c (LQ S ex so (.inr x)) st:=
 (piece hf sc h).imp fun _ _ hx=>⟨by rw[hx.1];exact hn,hx.1,hx.2⟩
def Gi(rs:List ResultVar)(ro:List (Nat×TypeId))(st:aA):Bool:=
 ro.all (fun x=>decide ((eI rs x.1,x.2)∈st.own)&&(match rs with
  |[.tmp _]=>true
  |[_]=>false
  |rs=>match rs[x.1]? with
   |some (.tmp t)=>(st.tmps.getD t .undef).isSlice
   |_=>false))&&ro.all (fun x=>ro.all fun y=>!decide (eI rs x.1=eI rs y.1)||decide (x.1=y.1))
def PVal.isAgg:PVal->Bool
 |.agg _=>true
 |_=>false
def VG(P:Program)(rs:List ResultVar)(r:PVal)(ro:List (Nat×TypeId))(st:aA):Prop:=
 ∃(t:Tmp) (ty:TypeId) (i off:Nat) (cs:List PVal) (own:List (Nat×TypeId)) (l:List PVal),rs=[.cell t ty]/\(∃fs,P.underlying ty=some (.struct fs))/\st.tmps.getD t .undef=.bptr i off/\st.boxes[i]? =some (.cells cs own)/\
  r=.agg l/\bm P ty (cs.drop off)=some (.agg l)/\r.cl 0/\(∀x∈ro,(off+x.1,x.2)∈own/\x.1<l.length)/\(ro.map (·.1)).Nodup
def qdS(P:Program)(rs:List ResultVar)(r:PVal)(ro:List (Nat×TypeId))(e:Exit)(st:aA):Prop:=
 qiK P rs r ro [] e st\/((e=.normal\/e=.ret)/\VG P rs r ro st)
def qag(P:Program)(rs:List ResultVar)(ro:List (Nat×TypeId))(st:aA):Bool:=match rs with
 | [.cell t ty] => match P.underlying ty with
  | some (.struct _) => match st.tmps.getD t .undef with
   |.bptr i off=>match st.boxes[i]? with
    |some (.cells _ own)=>ro.all (fun x=>decide ((off+x.1,x.2)∈own)&&decide (x.1<P.cellsOf ty))&&xN (ro.map (·.1))
    |_=>false
   |_=>false
  |_=>false
 |_=>false
section
variable{P:Program}{E:uy}{Γ:bw}{bs:bR}{ow:Nat->Option nM}{w:World}{a:Array Value}{st:aA}
theorem SR.pushed(h:SR P E Γ bs ow w a st){v:Value}{p:PVal}(hv:VR Γ bs w p v):SR P E Γ bs ow w (a.push v) {st with tmps:=st.tmps++[p]}:=
 { h with
  sz:=by simp[h.sz]
  tm:=fun t q u hq hu=>by
   by_cases ht:t<a.size
   ·rw[vcv ht]at hu
    simp only at hq
    rw[vaf (by rw[<-h.sz];exact ht)]at hq
    exact h.tm t q u hq (by rw[<-hu];simp[ht])
   ·have hlt:t<(a.push v).size:=(var.1 hu).1
    have ht2:t=a.size:=by simp at hlt;omega
    subst ht2
    simp only at hq
    rw[vai (by rw[h.sz];exact vah _),h.sz]at hq
    simp at hq hu
    subst hq;subst hu;exact hv
  ot:=fun t k e he=>by
   obtain⟨u,v',h1,h2,h3,h4⟩:=h.ot t k e he
   have hlt:t<a.size:=(var.1 h1).1
   exact⟨u,v',by rw[vcv hlt,<-h1];simp[hlt],h2,h3,h4⟩}
theorem SR.finishCell(h:SR P E Γ bs ow w a st){fn:Func}{r:PVal}{ro:List (Nat×TypeId)}(hr:VG P fn.results.toList r ro st):
  ∃v ow',(results fn a).run P w=.ok v w/\SR P E Γ [] ow' w #[v] ⟨[r],[],ro.map fun x=>((0,x.1),x.2)⟩:=by
 obtain⟨t,ty,i,off,cs,own,l,hrs,⟨fs,hfs⟩,ht,hB,rfl,hp,hcl,hro,hnd⟩:=hr
 have hrv:Kw P st fn.results.toList=some (.agg l):=by
  rw[hrs]
  show nH P ty (st.tmps.getD t .undef) st.boxes=_
  rw[ht]
  simp only[nH,hB,hp]
 obtain⟨v,e1,e2,_⟩:=xX h hrv
 have hvt:=h.getD t
 rw[ht]at hvt
 generalize hva:a.getD t undef=vt at hvt
 cases hvt with
 |bptr _ _ b hb=>
 obtain⟨v2,q1,q2,q3⟩:=Ik h hb hB hp
 have hvv:v2=v:=by
  have hres:fn.results=#[.cell t ty]:=by
   have:fn.results=fn.results.toList.toArray:=by simp
   rw[this,hrs]
  have hrun:(results fn a).run P w=.ok v2 w:=by
   simp[results,hres,asAddr]
   have hva':a[t]?.getD undef=.pointer (some ⟨b,off,none⟩):=by rw[<-vaz];exact hva
   rw[hva']
   simp[q1]
  rw[e1]at hrun
  cases hrun
  rfl
 subst hvv
 have g1:=h.pushed e2
 obtain⟨ow',g2⟩:=SR.takeOwns (off:=off) (d:=a.size) (u:=v2) hb (by simp) ro g1 hB (fun x hx=>(hro x hx).1) hnd fun x hx=>by
  have:=q3 ⟨_,hfs,trivial⟩ x.1 (hro x hx).2
  obtain⟨v',z1,_⟩:=h.ob i (off+x.1) x.2 cs own b hB (hro x hx).1 hb
  exact⟨v',this.trans z1,z1⟩
 refine⟨v2,Hf (fun k=>(a.size,k)) ro ow',e1,?_⟩
 have hf:=g2.finish (H':=[]) (src:=fun k=>(a.size,k)) (ro:=ro) e2 hcl (by unfold dO;trivial) (fun x hx=>⟨?_,fun u v' hu hv'=>?_⟩) (fun x _ y _ e=>by simpa using e)
 ·simpa using hf
 ·exact vbf _ (vb0.2 (vaq.2 ⟨x,hx,rfl⟩))
 ·simp at hu;subst hu;exact hv'
end
def qhT(P:Program)(rs:List ResultVar)(r:PVal)(ro:List (Nat×TypeId))(st:aA):Prop:=match Gi rs ro st with
 |true=>match Kw P st rs with
  |some p=>p=r/\r.cl 0
  |none=>False
 | false => match qag P rs ro st with
  |true=>match Kw P st rs with
   |some p=>p=r/\r.cl 0/\r.isAgg=true
   |none=>False
  |false=>False
def FR(P:Program)(rs:List ResultVar)(r:PVal)(ro:List (Nat×TypeId)):Exit->List It->aA->Prop:=fun e _ st=>match e with
 |.normal=>qhT P rs r ro st
 |.ret=>qhT P rs r ro st
 |_=>False
theorem C.ofSat{f:FuncId}{fn:Func}{c:Code}{args:List PVal}{r:PVal}{ro:List (Nat×TypeId)}
  (hcall:∀vs w,(callFunc f vs).run P w=.ok (.enter f vs) w) (hfn:P.funcs[f]? =some fn) (hb:fn.body=some c)
  (hp:aU P GE 0 c (qdS P fn.results.toList r ro) ⟨args++List.replicate (fn.ntmps - args.length) .undef,[],[]⟩):C P GE f args [] [] r ro []:=by
 refine⟨hcall,fun Γ bs ow w vs h=>calls_of_wp hfn hb ?_⟩
 have hbl:bs.length=0:=h.bl
 obtain rfl:bs=[]:=vau hbl
 have h0:SR P ⟨GE,Γ,w,fun _=>False⟩ Γ [] (fun _=>none) w (vs++Array.replicate (fn.ntmps - vs.size) undef) ⟨args++List.replicate (fn.ntmps - args.length) .undef,[],[]⟩:=by
  have hsz:vs.size=args.length:=h.sz
  exact{
   wi:=h.wi
   sz:=by simp[hsz]
   tm:=fun t p v hp hv=>by
    simp only at hp
    by_cases ht:t<args.length
    ·rw[vaf ht]at hp
     rw[vaQ (by omega)]at hv
     exact h.tm t p v hp hv
    ·rw[vai (by omega),vaU]at hp
     split at hp<;>cases hp
     exact .undef v
   bl:=rfl
   bx:=fun i b B hi=>by simp at hi
   inj:=fun i j b hi=>by simp at hi
   bn:=fun i b hi=>by simp at hi
   on:=fun b L hL=>by cases hL
   ot:=fun t k e he=>by simp at he
   ob:=fun i j e cs own b hB=>by simp at hB
   gl:=h.gl
   gc:=h.gc
   gx:=fun g cs hg=>⟨(h.gx g cs hg).1,fun hx=>hx,(h.gx g cs hg).2.2⟩
   step:=.refl _ _ _ _}
 have hE:IP GE 0 ⟨GE,Γ,w,fun _=>False⟩:={
  ge:=rfl
  low:=fun b n hb=>h.lt_of_ghost hb
  nt:=fun _ _ hx=>hx
  gl:=h.gl}
 have hwp:=hp none ⟨GE,Γ,w,fun _=>False⟩ [] ⟨vs++Array.replicate (fn.ntmps - vs.size) undef,[]⟩ w hE rfl ⟨Γ,[],_,h0,fun i _=>rfl⟩
 refine wp_mono hwp fun e a w' hq=>?_
 obtain⟨hd,st,⟨Γ1,bs1,ow1,hS0,hk⟩,hQ⟩:=hq
 have hS:SR P ⟨GE,Γ,w,cr [] ow⟩ Γ1 bs1 ow1 w' a.tmps st:={hS0 with
  bn:=fun i b hb=>(hS0.bn i b hb).elim False.elim .inr
  on:=fun b L hL=>⟨(hS0.on b L hL).1,(hS0.on b L hL).2.elim False.elim .inr⟩
  gx:=h.gx
  step:={hS0.step with keep:=fun b hb _=>hS0.step.keep b hb (fun hx=>hx)}}
 have key:(Kw P st fn.results.toList=some r/\r.cl 0/\dO 0 st.boxes []/\(∀x∈ro,(eI fn.results.toList x.1,x.2)∈st.own/\tO st fn.results.toList x.1)/\
   (∀x∈ro,∀y∈ro,eI fn.results.toList x.1=eI fn.results.toList y.1->x.1=y.1))->
   a.defers=[]/\∃v,(results fn a.tmps).run P w'=.ok v w'/\∃v' Γ' ow',Ending.returned v=.returned v'/\SR P ⟨GE,Γ,w,cr [] ow⟩ Γ' [] ow' w' #[v'] ⟨[r],[],ro.map fun x=>((0,x.1),x.2)⟩:=by
  rintro⟨k1,k2,k3,k4,k5⟩
  obtain⟨v,e1,e2,e3⟩:=xX hS k1
  refine⟨hd,v,e1,v,Γ1,Hf (eI fn.results.toList) ro ow1,rfl,?_⟩
  have hf:=hS.finish (H':=[]) (src:=eI fn.results.toList) (ro:=ro) e2 k2 k3 (fun x hx=>⟨(k4 x hx).1,fun u v'=>e3 x.1 u v' (k4 x hx).2⟩) k5
  simpa using hf
 have key2:VG P fn.results.toList r ro st->
   a.defers=[]/\∃v,(results fn a.tmps).run P w'=.ok v w'/\∃v' Γ' ow',Ending.returned v=.returned v'/\SR P ⟨GE,Γ,w,cr [] ow⟩ Γ' [] ow' w' #[v'] ⟨[r],[],ro.map fun x=>((0,x.1),x.2)⟩:=by
  intro hc
  obtain⟨v,ow',e1,e2⟩:=hS.finishCell hc
  exact⟨hd,v,e1,v,Γ1,ow',rfl,e2⟩
 rcases hQ with hQ|⟨he,hQ⟩
 ·cases e with
  |normal=>exact key hQ
  |ret=>exact key hQ
  |exit id=>exact hQ.elim
  |goto l=>exact hQ.elim
  |panic c=>exact hQ.elim
  |outgrown=>exact hQ.elim
 ·rcases he with rfl|rfl
  ·exact key2 hQ
  ·exact key2 hQ
theorem Q5{rs:List ResultVar}{r:PVal}{ro:List (Nat×TypeId)}{st:aA}(hc:Gi rs ro st=true)(hp:Kw P st rs=some r)(hcl:r.cl 0):Kw P st rs=some r/\r.cl 0/\dO 0 st.boxes []/\(∀x∈ro,(eI rs x.1,x.2)∈st.own/\tO st rs x.1)/\
      (∀x∈ro,∀y∈ro,eI rs x.1=eI rs y.1->x.1=y.1):=by
  unfold Gi at hc
  rw[vaj]at hc
  obtain⟨c1,c2⟩:=hc
  refine⟨hp,hcl,by unfold dO;cases st.boxes<;>trivial,fun x hx=>?_,fun x hx y hy hxy=>?_⟩
  · have:=vax.1 c1 x hx
    rw[vaj]at this
    refine⟨by simpa using this.1,?_⟩
    have h2:=this.2
    clear hp this c1 c2
    rcases rs with _|⟨y,_|⟨z,rs⟩⟩
    ·simp at h2
    · cases y with
      |tmp t=>trivial
      |cell t ty=>cases h2
    · have key:∀ o:Option ResultVar,(match o with
        |some (.tmp t)=>(st.tmps.getD t .undef).isSlice
        |_=>false)=true->(match o with
        |some (.tmp t)=>(st.tmps.getD t .undef).isSlice=true
        |_=>False):=by
        intro o
        cases o with
        |none=>intro h;cases h
        |some q=>cases q<;>intro h<;>first|exact h|cases h
      cases y with
      |tmp t=>exact key _ h2
      |cell t ty=>exact key _ h2
  · have:=vax.1 (vax.1 c2 x hx) y hy
    simpa[hxy]using this
theorem qhT.to{rs:List ResultVar}{r:PVal}{ro:List (Nat×TypeId)}{st:aA}{e:Exit}(he:e=.normal\/e=.ret)(h:qhT P rs r ro st):qdS P rs r ro e st:=by
 unfold qhT at h
 split at h
 ·rename_i hc
  split at h
  ·rename_i p hp
   obtain⟨rfl,hcl⟩:=h
   have:=Q5 hc hp hcl
   rcases he with rfl|rfl<;>exact .inl this
  ·exact h.elim
 ·split at h
  ·rename_i hc
   split at h
   ·rename_i p hp
    obtain⟨rfl,hcl,hagg⟩:=h
    refine .inr ⟨he,?_⟩
    unfold qag at hc
    split at hc
    ·rename_i t ty _
     split at hc
     ·rename_i fs hfs
      split at hc
      ·rename_i i off ht
       split at hc
       ·rename_i cs own hB
        rw[vaj]at hc
        obtain⟨c1,c2⟩:=hc
        have hpl:bm P ty (cs.drop off)=some p:=by
         have hp':nH P ty (st.tmps.getD t .undef) st.boxes=some p:=hp
         rw[ht]at hp'
         simpa only[nH,hB]using hp'
        cases p<;>simp only[PVal.isAgg]at hagg<;>first|(cases hagg;done)|skip
        rename_i l
        have hlen:l.length=P.cellsOf ty:=by
         have hq:=hpl
         unfold bm at hq
         rw[hfs]at hq
         simp only at hq
         split at hq
         ·rename_i hh;cases hq;rw[vaO];omega
         ·cases hq
        refine⟨t,ty,i,off,cs,own,l,rfl,⟨fs,hfs⟩,ht,hB,rfl,hpl,hcl,fun x hx=>?_,qn c2⟩
        have:=vax.1 c1 x hx
        simp only[vaj,vao]at this
        exact⟨this.1,by rw[hlen];exact this.2⟩
       ·cases hc
      ·cases hc
     ·cases hc
    ·cases hc
   ·exact h.elim
  ·exact h.elim
theorem FR.to{rs:List ResultVar}{r:PVal}{ro:List (Nat×TypeId)}{e:Exit}{sc:List It}{st:aA}(h:FR P rs r ro e sc st):qdS P rs r ro e st:=by
 unfold FR at h
 split at h
 ·exact h.to (.inl rfl)
 ·exact h.to (.inr rfl)
 ·exact h.elim
theorem C.ev(hf:P.follows .mixedOrders=true){f:FuncId}{fn:Func}{c:Code}{args:List PVal}{r:PVal}{ro:List (Nat×TypeId)}
  (hcall:∀vs w,(callFunc f vs).run P w=.ok (.enter f vs) w) (hfn:P.funcs[f]? =some fn) (hb:fn.body=some c) (hcl:iy 0 args) (sc:List It)
  (h:A5 P GE A 0 c sc ⟨args++List.replicate (fn.ntmps - args.length) .undef,[],[]⟩ (FR P fn.results.toList r ro)):CC P GE f args r ro:=
 ⟨hcl,C.ofSat hcall hfn hb ((iI hf c sc _ _ h).imp fun e st hx=>by obtain⟨sc',hx⟩:=hx;exact hx.to)⟩
end
abbrev ag:=List UInt8
abbrev aR(n:Int):Int:=IntKind.i64.wrap n
def cS(s:ag):List PVal:=[.str s]
def cI(k:IntKind)(n:Int):List PVal:=[.int k n]
def cB(b:Bool):List PVal:=[.bool b]
def sl{α:Type}(c:α->List PVal)(l:List α):PVal:=.slice (l.map c)
def cL{α:Type}(c:α->List PVal)(l:List α):List PVal:=[sl c l]
def vZ(s:ag)(i:Int):Option Int:=(cz s i).map fun c=>(c.toNat:Int)
def bd:Option Int->Nat->Option Nat
 |none,d=>some d
 |some i,_=>if 0<=i then some i.toNat else none
def N2{α:Type}(l:List α)(lo hi:Option Int):Option (List α):=
 match bd lo 0,bd hi l.length with
 |some a,some b=>if a<=b/\b<=l.length then some ((l.take b).drop a)else none
 |_,_=>none
def app{α:Type}(l r:List α):Option (List α):=if l.length+r.length<=eY then some (l++r)else none
def qgH(a b:ag):Option ag:=if a.length+b.length<=YS then some (a++b)else none
def qu(k:IntKind)(a b:Int):Option Int:=if b=0 then none else some (k.wrap (a.tdiv b))
def re(a b:Int):Option Int:=if b=0 then none else some (a.tmod b)
def Do{α:Type}(m:List (ag×α))(k:ag):Option α:=(m.find? fun e=>k==e.1).map (·.2)
def J7{α:Type}(m:List (ag×α))(k:ag)(v:α):List (ag×α):=
 match m with
 |[]=>[(k,v)]
 |e::r=>if k==e.1 then(k,v)::r else e::J7 r k v
def Ic{α:Type}(f:α->PVal)(m:List (ag×α)):List (PVal×PVal):=m.map fun e=>(.str e.1,f e.2)
def qf1:TypeDesc->Bool
 |.struct _=>false
 |.array _ _=>false
 |_=>true
theorem dH{P:Program}{t:TypeId}(h:(P.underlying t).any qf1=true)(p:PVal)(r:List PVal):bm P t (p::r)=some p:=by
 unfold bm
 split
 ·rename_i hu;rw[hu]at h;cases h
 ·rename_i hu;rw[hu]at h;cases h
 ·rfl
 ·rename_i hu;rw[hu]at h;cases h
structure qg{α:Type}(P:Program)(T e:TypeId)(c:α->List PVal):Prop where
 hu:P.underlying T=some (.slice e)
 hc:∀x,(c x).length=P.cellsOf e
 hi:(P.info? e).isSome=true
 hp:0<P.cellsOf e
 hz:(kb P e).map (·.length)=some (P.cellsOf e)
 hb:P.bytesOf e<=65536
 ho:∀x,∀q∈c x,q.one=true
 cl:∀x,iy 0 (c x)
theorem aj{α:Type}{c:α->List PVal}(h:∀x,iy 0 (c x))(l:List α):(sl c l).cl 0:=by
 unfold sl
 simp only[PVal.cl]
 exact UR fun p hp=>by obtain⟨x,_,rfl⟩:=vaq.1 hp;exact h x
theorem dQ(s:ag):iy 0 (cS s):=⟨trivial,trivial⟩
theorem qlE(k:IntKind)(n:Int):iy 0 (cI k n):=⟨trivial,trivial⟩
theorem Qf{α:Type}{l:List α}{i:Int}{x:α}(h:cz l i=some x):0<=i/\l[i.toNat]? =some x:=by
 unfold cz at h
 split at h
 ·exact⟨‹_›,h⟩
 ·cases h
theorem aI{a b:Prop}(h:a)(h':b):a/\b:=⟨h,h'⟩
theorem rP(p:PVal):p=p:=rfl
theorem lf{β:Type}{a r:β}(h:some a=some r):a=r:=vbC h
abbrev u:PVal:=.undef
theorem E8(x:ag):bK (.str x)=some (cS x):=rfl
theorem qlR(k:IntKind)(x:Int):bK (.int k x)=some (cI k x):=rfl
theorem qlQ(l:List PVal):bK (.agg l)=some l:=rfl
theorem qki(x:ag):∀q∈cS x,q.one=true:=by intro q hq;simp[cS]at hq;subst hq;rfl
theorem qkh(k:IntKind)(x:Int):∀q∈cI k x,q.one=true:=by intro q hq;simp[cI]at hq;subst hq;rfl
def gz:Code->List Bool->Code
 |c,[]=>c
 |.seq a b,x::l=>match x with|false=>gz a l|true=>gz b l
 |.cond _ a b,x::l=>match x with|false=>gz a l|true=>gz b l
 |.block _ c,_::l=>gz c l
 |.loop c,_::l=>gz c l
 |c,_=>c
section
variable{P:Program}{T e:TypeId}{α:Type}{c:α->List PVal}
theorem qg.ia(s:qg P T e c){l:List α}{i:Int}{k:IntKind}{x:α}(h:cz l i=some x):jn P T (sl c l) (.int k i)=some (.eptr (c x)):=by
 obtain⟨h0,h1⟩:=Qf h
 unfold sl jn
 simp only[s.hu,vad h0,vaB,h1,vam]
 rw[vad ⟨s.hc x,s.hi⟩]
theorem qg.ln(s:qg P T e c)(l:List α):∀H,Fd P T (sl c l) H=some (.int .i64 (l.length:Int)):=fun H=>by
 unfold sl Fd;simp only[s.hu,vaF]
theorem Ob{o:Option Int}{d n:Nat}{k:IntKind}(h:bd o d=some n):LV (o.map (PVal.int k)) d=some n:=by
 cases o with
 |none=>exact h
 |some i=>exact h
theorem qg.sc(s:qg P T e c){l r:List α}{lo hi:Option Int}(h:N2 l lo hi=some r):Ac P T (sl c l) (lo.map (PVal.int .i64)) (hi.map (PVal.int .i64)) none=some (sl c r):=by
 unfold N2 at h
 split at h
 ·rename_i a b h1 h2
  split at h
  ·rename_i hb
   cases h
   unfold sl Ac
   simp only[s.hu,Ob h1]
   rw[show(l.map c).length=l.length by simp,Ob h2]
   simp only
   have hx:∀x∈(l.map c).take 1,x.length=P.cellsOf e:=fun x hx=>by
    obtain⟨y,_,rfl⟩:=vaq.1 (List.mem_of_mem_take hx)
    exact s.hc y
   rw[vad ⟨hb.1,hb.2,s.hi,hx⟩,List.map_drop,List.map_take]
  ·cases h
 ·cases h
theorem qg.ap(s:qg P T e c){l r z:List α}(h:app l r=some z):lW P T (l.map c) (r.map c)=some (sl c z):=by
 unfold app at h
 split at h
 ·cases h
  unfold lW sl
  simp only[s.hu,vaF]
  have h1:∀x∈l.map c,x.length=P.cellsOf e:=fun x hx=>by obtain⟨y,_,rfl⟩:=vaq.1 hx;exact s.hc y
  have h2:∀x∈r.map c,x.length=P.cellsOf e/\∀q∈x,q.one=true:=fun x hx=>by obtain⟨y,_,rfl⟩:=vaq.1 hx;exact⟨s.hc y,s.ho y⟩
  rw[vad ⟨‹_›,s.hb,s.hp,s.hz,h1,h2⟩,vbH]
 ·cases h
theorem Tv{v:α->PVal}{sz:Nat}(hv:∀x,bK (v x)=some (c x))(hc:∀x,(c x).length=sz):∀(l:List α) (i:Nat),Fa sz i ((l.map v).zipIdx i|>.map fun x=>(x.2,x.1))=some (l.map c)
 |[],i=>by simp[Fa]
 |x::l,i=>by
  have ih:=Tv hv hc l (i+1)
  simp only[vay,List.zipIdx_cons,Fa,hv x]
  simp[ih,hc x]
theorem qg.mk'(s:qg P T e c){v:α->PVal}(hv:∀x,bK (v x)=some (c x))(l:List α)(n:Nat)(hn:(decide (l.length=n)&&decide (n * P.cellsOf e<=16777216))=true):
  gd P T n ((l.map v).zipIdx 0|>.map fun x=>(x.2,x.1))=some (sl c l):=by
 simp only[vaj,vao]at hn
 unfold gd sl
 simp only[s.hu,Tv hv s.hc]
 have hz:(kb P e).isSome=true:=by
  cases h:kb P e with
  |none=>have:=s.hz;rw[h]at this;cases this
  |some z=>rfl
 rw[vad ⟨by simpa using hn.1,hz,s.hp,hn.2,s.hz⟩]
theorem sk{t:TypeId}(h:P.underlying t=some .string){s:ag}{i:Int}{k:IntKind}{x:Int}(hx:vZ s i=some x):LS P t (.str s) (.int k i)=some (.int .u8 x):=by
 unfold vZ at hx
 cases hi:cz s i with
 |none=>rw[hi]at hx;cases hx
 |some b=>
  rw[hi]at hx;cases hx
  obtain⟨h0,h1⟩:=Qf hi
  unfold LS
  simp only[h,vad h0,h1,vam]
theorem iz{t:TypeId}(h:P.underlying t=some .string)(s:ag):∀H,Fd P t (.str s) H=some (.int .i64 (s.length:Int)):=fun H=>by unfold Fd;simp only[h]
theorem qf3{t:TypeId}(ht:P.underlying t=some .string){l r:ag}{lo hi:Option Int}(h:N2 l lo hi=some r):Ac P t (.str l) (lo.map (PVal.int .i64)) (hi.map (PVal.int .i64)) none=some (.str r):=by
 unfold N2 at h
 split at h
 ·rename_i a b h1 h2
  split at h
  ·rename_i hb
   cases h
   unfold Ac
   simp only[ht,Ob h1,Ob h2]
   rw[vad hb]
  ·cases h
 ·cases h
theorem VS{t:TypeId}{a b z:ag}(h:qgH a b=some z):QH P .add t (.str a) (.str b)=some (.str z):=by
 unfold qgH at h
 unfold QH qfc
 split at h
 ·cases h;simp only;rw[vad ‹_›]
 ·cases h
theorem Ax{t:TypeId}{k:IntKind}{a b z:Int}(h:qu k a b=some z):QH P .quo t (.int k a) (.int k b)=some (.int k z):=by
 unfold qu at h
 split at h
 ·cases h
 ·rename_i hb;cases h;simp only[QH,qdB,if_true,vae hb]
theorem qig{t:TypeId}{k:IntKind}{a b z:Int}(h:re a b=some z):QH P .rem t (.int k a) (.int k b)=some (.int k z):=by
 unfold re at h
 split at h
 ·cases h
 ·rename_i hb;cases h;simp only[QH,qdB,if_true,vae hb]
theorem qlG{s d:TypeId}{k k':IntKind}(h1:P.underlying s=some (.int k))(h2:P.underlying d=some (.int k'))(n:Int):Mv P s d (.int k n)=some (.int k' (k'.wrap n)):=by simp only[Mv,h1,h2]
def xB:List Int->Option ag
 |[]=>some []
 |n::r=>if 0<=n/\n<256 then(xB r).map (UInt8.ofNat n.toNat::·)else none
theorem QJ:∀(l:List Int),CB (l.map (cI .u8))=xB l
 |[]=>rfl
 |n::r=>by simp only[vay,cI,CB,xB];rw[<-QJ r]
theorem qlF{s d e:TypeId}(h1:P.underlying s=some (.slice e))(h2:P.underlying d=some .string)(h3:P.underlying e=some (.int .u8)){l:List Int}{r:ag}(h:xB l=some r):Mv P s d (sl (cI .u8) l)=some (.str r):=by
 unfold sl Mv
 simp only[h1,h2,h3,QJ,h,vam]
theorem Is{f:α->PVal}(k:ag):∀(m:List (ag×α)) (i:Nat),Fb (.str k) (Ic f m) i=some (match Do m k with
  |none=>none
  |some v=>some (i+(m.findIdx fun e=>k==e.1),f v))
 |[],i=>by simp[Ic,Fb,Do]
 | e :: m,i => by
  have ih:=Is (f:=f) k m (i+1)
  unfold Ic at ih ⊢
  simp only[vay,Fb,VA]
  unfold Do at ih ⊢
  by_cases h:(k==e.1)=true
  ·simp[h,vbR]
  ·have h':(k==e.1)=false:=by simpa using h
   simp only[h',List.find?_cons,ih,vbR]
   cases hm:(List.find? (fun e=>k==e.1) m)with
   |none=>simp
   |some v=>simp;omega
theorem qda{t kt et:TypeId}{f:α->PVal}(h1:P.underlying t=some (.map kt et))(h2:P.underlying kt=some .string){z:α}(hz:LY P et=some (f z))(m:List (ag×α))(k:ag):
  QQ P t (Ic f m) (.str k) false=some (f ((Do m k).getD z)):=by
 unfold QQ
 simp only[h1,h2,pG,if_true,Is]
 cases Do m k with
 |none=>simp[hz]
 |some v=>simp
theorem Z1(f:α->PVal)(k:ag)(v:α):∀(m:List (ag×α)),Ic f (J7 m k v)=match Do m k with
  |none=>Ic f m++[(.str k,f v)]
  |some _=>(Ic f m).set (m.findIdx fun e=>k==e.1) (.str k,f v)
 |[]=>by simp[J7,Do,Ic]
 | e :: m => by
  have ih:=Z1 f k v m
  unfold Do at ih ⊢
  unfold Ic at ih ⊢
  by_cases h:(k==e.1)=true
  ·simp[J7,h,vbR]
  ·have h':(k==e.1)=false:=by simpa using h
   simp only[J7,h',List.find?_cons,vbR,vay]
   simp only[va6,if_false,vay,ih]
   cases(List.find? (fun e=>k==e.1) m)with
   |none=>simp
   |some v=>simp
theorem qgQ{t kt et:TypeId}{f:α->PVal}(h1:P.underlying t=some (.map kt et))(h2:P.underlying kt=some .string)(m:List (ag×α))(k:ag)(v:α):
  TB P t (Ic f m) (.str k) (f v)=some (Ic f (J7 m k v)):=by
 unfold TB
 simp only[h1,h2,pG,if_true,Is,Z1]
 cases Do m k with
 |none=>simp
 |some w=>simp
end
end Go.Proofs.YtbaamopmfmpfaaaGreatDoor
