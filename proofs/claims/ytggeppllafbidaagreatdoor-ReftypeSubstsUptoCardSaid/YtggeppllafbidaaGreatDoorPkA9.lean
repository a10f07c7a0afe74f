/- PROVED: parts of the proof (SatC3 SatD SatE). Conditions: none. -/
import Derived.Test.YtggeppllafbidaaGreatDoorPkA8
noncomputable section
namespace Go.Proofs.YtggeppllafbidaaGreatDoor
open Go
mutual

def PVal.no(i:Nat):PVal->Prop
 |.undef|.int _ _|.bool _|.str _|.val _=>True
 |.agg cs=>Kg i cs
 |.tuple cs=>Kg i cs
 |.slice es=>Dm i es
 |.eptr cs=>Kg i cs
 |.bptr j _=>j≠i
 |.bsl j _ _=>j≠i
 |.mapr j=>j≠i
 |.func _ f c=>Kg i f/\Kg i c
def Kg(i:Nat):List PVal->Prop
 |[]=>True
 |p::ps=>p.no i/\Kg i ps
def Dm(i:Nat):List (List PVal)->Prop
 |[]=>True
 |p::ps=>Kg i p/\Dm i ps
end
mutual
theorem JH(i:Nat):∀(p:PVal),p.cl 0->p.no i
 |.undef,_=>by simp[PVal.no]
 |.int _ _,_=>by simp[PVal.no]
 |.bool _,_=>by simp[PVal.no]
 |.str _,_=>by simp[PVal.no]
 |.val _,_=>by simp[PVal.no]
 |.agg cs,h=>by simp only[PVal.cl]at h;simp only[PVal.no];exact ms i cs h
 |.tuple cs,h=>by simp only[PVal.cl]at h;simp only[PVal.no];exact ms i cs h
 |.slice es,h=>by simp only[PVal.cl]at h;simp only[PVal.no];exact tD i es h
 |.eptr cs,h=>by simp only[PVal.cl]at h;simp only[PVal.no];exact ms i cs h
 |.bptr j _,h=>by simp only[PVal.cl]at h;omega
 |.bsl j _ _,h=>by simp only[PVal.cl]at h;omega
 |.mapr j,h=>by simp only[PVal.cl]at h;omega
 |.func _ f c,h=>by simp only[PVal.cl]at h;simp only[PVal.no];exact⟨ms i f h.1,ms i c h.2⟩
theorem ms(i:Nat):∀(l:List PVal),iB 0 l->Kg i l
 |[],_=>by simp[Kg]
 |p::l,h=>by simp only[iB]at h;simp only[Kg];exact⟨JH i p h.1,ms i l h.2⟩
theorem tD(i:Nat):∀(l:List (List PVal)),uy 0 l->Dm i l
 |[],_=>by simp[Dm]
 |p::l,h=>by simp only[uy]at h;simp only[Dm];exact⟨ms i p h.1,tD i l h.2⟩
end
theorem mO{n:Nat}:∀{l:List PVal} {i:Nat} {p:PVal},Kg n l->l[i]? =some p->p.no n
 |[],i,p,_,h=>by simp at h
 |q::l,0,p,h,hp=>by simp at hp;subst hp;simp only[Kg]at h;exact h.1
 |q::l,i+1,p,h,hp=>by simp only[Kg]at h;exact mO h.2 (by simpa using hp)
theorem Ah{n:Nat}:∀{l:List (List PVal)} {i:Nat} {p:List PVal},Dm n l->l[i]? =some p->Kg n p
 |[],i,p,_,h=>by simp at h
 |q::l,0,p,h,hp=>by simp at hp;subst hp;simp only[Dm]at h;exact h.1
 |q::l,i+1,p,h,hp=>by simp only[Dm]at h;exact Ah h.2 (by simpa using hp)
theorem VR.noi{Γ:aO}{bs bs':bg}{w:World}{p:PVal}{v:Value}{n:Nat}(h:VR Γ bs w p v)(hc:p.no n)
  (hb:∀(i b:Nat),i≠n->bs[i]? =some (some b)->bs'[i]? =some (some b)):VR Γ bs' w p v:=by
 induction h with
 |undef v=>exact .undef v
 |int k n=>exact .int k n
 |bool b=>exact .bool b
 |str l=>exact .str l
 |val v=>exact .val v
 |agg cs vs hl _ ih=>simp only[PVal.no]at hc;exact .agg cs vs hl fun i p v hp hv=>ih i p v hp hv (mO hc hp)
 |tuple cs vs hl _ ih=>simp only[PVal.no]at hc;exact .tuple cs vs hl fun i p v hp hv=>ih i p v hp hv (mO hc hp)
 |sliceNil=>exact .sliceNil
 |sliceE a cap=>exact .sliceE a cap
 |slice es b off cap n sz vals h0 hcap hg hn hsz hcc _ ih=>
  simp only[PVal.no]at hc
  exact .slice es b off cap n sz vals h0 hcap hg hn hsz hcc fun i e k p he hp=>ih i e k p he hp (mO (Ah hc he) hp)
 |eptrE b off=>exact .eptrE b off
 |bsl i off k x cap hcap hnil h=>simp only[PVal.no]at hc;exact .bsl i off k x cap hcap hnil (h.imp_right fun⟨b,h1,h2⟩=>⟨b,h1,hb i b hc h2⟩)
 |eptr cs b off n vals hg hn hcc _ ih=>
  simp only[PVal.no]at hc
  exact .eptr cs b off n vals hg hn hcc fun k p hp=>ih k p hp (mO hc hp)
 |bptr i off b h=>simp only[PVal.no]at hc;exact .bptr i off b (hb i b hc h)
 |mapr i b h=>simp only[PVal.no]at hc;exact .mapr i b (hb i b hc h)
 |func fn first cap fs cs hl hl' _ _ ih ih'=>
  simp only[PVal.no]at hc
  exact .func fn first cap fs cs hl hl' (fun i p v hp hv=>ih i p v hp hv (mO hc.1 hp)) (fun i p v hp hv=>ih' i p v hp hv (mO hc.2 hp))
inductive Fz(i:Nat)(es:List (List PVal)):PVal->PVal->Prop where
 |u (p:PVal):Fz i es p .undef
 |k (p:PVal) (h:p.no i):Fz i es p p
 |s (n:Nat) (h:n=es.length):Fz i es (.bsl i 0 n) (.slice es)
 |b (off:Nat):Fz i es (.bptr i off) (.eptr (es.flatten.drop off))
 |f (fn:Fn) (f c f' c':List PVal) (hl:f.length=f'.length) (hl':c.length=c'.length) (h:∀(j:Nat) p q,f[j]? =some p->f'[j]? =some q->Fz i es p q) (h':∀(j:Nat) p q,c[j]? =some p->c'[j]? =some q->Fz i es p q):Fz i es (.func fn f c) (.func fn f' c')
def Lb(i:Nat)(es:List (List PVal)):List PVal->List PVal->Prop
 |[],[]=>True
 |p::ps,q::qs=>Fz i es p q/\Lb i es ps qs
 |_,_=>False
inductive Qv(i:Nat)(es:List (List PVal)):ax->ax->Prop where
 |d (B:ax):Qv i es B .dead
 |c (cs cs':List PVal) (own:List (Nat×TypeId)) (h:Lb i es cs cs'):Qv i es (.cells cs own) (.cells cs' own)
 |k (cs:List PVal) (own:List (Nat×TypeId)) (h:Kg i cs):Qv i es (.cells cs own) (.cells cs own)
 |m (l:List (PVal×PVal)) (h:∀x∈l,x.1.no i/\x.2.no i):Qv i es (.map l) (.map l)
def Ga(i:Nat)(es:List (List PVal)):List ax->List ax->Prop
 |[],[]=>True
 |p::ps,q::qs=>Qv i es p q/\Ga i es ps qs
 |_,_=>False
theorem Lb.len{i:Nat}{es:List (List PVal)}:∀{l r:List PVal},Lb i es l r->l.length=r.length
 |[],[],_=>rfl
 |[],_::_,h=>h.elim
 |_::_,[],h=>h.elim
 |_::_,_::_,h=>by simp[Lb.len h.2]
theorem Lb.get{i:Nat}{es:List (List PVal)}:∀{l r:List PVal},Lb i es l r->∀{j:Nat} {p q},l[j]? =some p->r[j]? =some q->Fz i es p q
 |[],[],_,j,p,q,hp,_=>by simp at hp
 |[],_::_,h,_,_,_,_,_=>h.elim
 |_::_,[],h,_,_,_,_,_=>h.elim
 |_::_,_::_,h,0,p,q,hp,hq=>by simp at hp hq;subst hp;subst hq;exact h.1
 |_::_,_::_,h,j+1,p,q,hp,hq=>Lb.get h.2 (j:=j) (by simpa using hp) (by simpa using hq)
theorem Ga.len{i:Nat}{es:List (List PVal)}:∀{l r:List ax},Ga i es l r->l.length=r.length
 |[],[],_=>rfl
 |[],_::_,h=>h.elim
 |_::_,[],h=>h.elim
 |_::_,_::_,h=>by simp[Ga.len h.2]
theorem Ga.get{i:Nat}{es:List (List PVal)}:∀{l r:List ax},Ga i es l r->∀{j:Nat} {p q},l[j]? =some p->r[j]? =some q->Qv i es p q
 |[],[],_,j,p,q,hp,_=>by simp at hp
 |[],_::_,h,_,_,_,_,_=>h.elim
 |_::_,[],h,_,_,_,_,_=>h.elim
 |_::_,_::_,h,0,p,q,hp,hq=>by simp at hp hq;subst hp;subst hq;exact h.1
 |_::_,_::_,h,j+1,p,q,hp,hq=>Ga.get h.2 (j:=j) (by simpa using hp) (by simpa using hq)
def FZ(m i:Nat)(es:List (List PVal))(st st':av):Prop:=
 ((m % 1000<=i)/\∃sz,0<sz/\∀x∈es,x.length=sz)/\Dm i es/\(∃own,st.boxes[i]? =some (.cells es.flatten own))/\st'.boxes[i]? =some .dead/\Lb i es st.tmps st'.tmps/\Ga i es st.boxes st'.boxes/\∀x∈st'.own,x∈st.own
theorem Lx{sz:Nat}:∀{es:List (List PVal)},(∀x∈es,x.length=sz)->∀{i k:Nat} {e:List PVal} {p:PVal},es[i]? =some e->e[k]? =some p->es.flatten[i * sz+k]? =some p
 |[],_,i,k,e,p,h,_=>by simp at h
 |x::es,hl,0,k,e,p,h,hp=>by
  simp at h;subst h
  rw[List.flatten_cons,vcx,vaD,vac (ak hp)]
  exact hp
 |x::es,hl,i+1,k,e,p,h,hp=>by
  have hx:=hl x (by simp)
  rw[List.flatten_cons,vad (by rw[hx,va0];omega),hx,show(i+1) * sz+k - sz=i * sz+k by rw[va0];omega]
  exact Lx (fun y hy=>hl y (by simp[hy])) (by simpa using h) hp
theorem FZ.weak{P:Program}{m i:Nat}{es:List (List PVal)}{st st':av}(h:FZ m i es st st'):n7 P m st st':=by
 obtain⟨⟨hm,sz,hsz0,hsz⟩,hno,hBi,hBi',htm,hbx,how⟩:=h
 obtain⟨bown,hB⟩:=hBi
 have hB':=hBi'
 intro E bs0 a w hb0 hR
 obtain⟨Γ,bs,ow,hS,hk⟩:=hR
 have hil:i<bs.length:=by rw[hS.bl];exact ak hB
 obtain⟨x,hx⟩:∃x,bs[i]? =some x:=⟨_,vab hil⟩
 have hsub:∀(j b:Nat),j≠i->bs[j]? =some (some b)->(bs.set i none)[j]? =some (some b):=fun j b hj hb=>by rw[vap (fun e=>hj e.symm)];exact hb
 have hback:∀{j b:Nat},(bs.set i none)[j]? =some (some b)->j≠i/\bs[j]? =some (some b):=fun{j b} hb=>by
  by_cases hj:j=i
  ·subst hj;rw[vag hil]at hb;cases hb
  ·rw[vap (fun e=>hj e.symm)]at hb;exact⟨hj,hb⟩
 obtain ⟨Γ',hle,hwi,hΓ,hslice,hkeep,hptr⟩:∃ Γ':aO,Γ.Le w Γ' w∧(∀ b n,Γ' b = some n→∃ c t fr,w.heap[b]? = some (.cells c t fr)∧n ≤ c.size)∧(∀ b,bs[i]? ≠ some (some b)→Γ' b = Γ b) ∧
   (∀n v,n=es.length->VR Γ bs w (.bsl i 0 n) v->VR Γ' (bs.set i none) w (.slice es) v)/\(∀b n,Γ b=some n->Γ' b=some n)/\(∀off v,VR Γ bs w (.bptr i off) v->VR Γ' (bs.set i none) w (.eptr (es.flatten.drop off)) v):=by
  cases x with
  | none =>
   refine⟨Γ,.refl _ _,hS.wi,fun _ _=>rfl,fun n v hn hv=>?_,fun _ _ h=>h,fun off v hv=>by cases hv with|bptr _ _ b hb=>rw[hx]at hb;cases hb⟩
   cases hv with
   | bsl _ _ _ x cap hcap hnil hxb =>
    have hes:es=[]:=by
     rcases hxb with h0|⟨b,_,hb⟩
     ·exact vam (by omega)
     ·rw[hx]at hb;cases hb
    subst hes
    have hn0:n=0:=hn
    subst hn0
    cases x with
    |none=>rw[hnil rfl];exact .sliceNil
    |some ad=>exact .sliceE ad cap
  | some b =>
   obtain⟨hg,hlt,c,t,hheap,hcs,hcv⟩:=hS.bx i b _ hx hB
   have hflen:=flat_len hsz
   have hle:Γ.Le w (Γ.put b es.flatten.length) w:=fun b' n hb' _=>⟨n,(Γ.put_other (fun e=>by subst e;rw[hg]at hb';cases hb')).trans hb',var _,fun _ _=>rfl⟩
   refine⟨Γ.put b es.flatten.length,hle,fun b' n hb'=>?_,fun b' hb'=>Γ.put_other (fun e=>hb' (by rw[e];exact hx)),fun n v hn hv=>?_,fun b' n hb'=>(Γ.put_other (fun e=>by subst e;rw[hg]at hb';cases hb')).trans hb',fun off v hv=>?_⟩
   ·by_cases hbb:b'=b
    ·subst hbb;rw[Γ.put_same]at hb';cases hb';exact⟨c,t,_,hheap,hcs⟩
    ·rw[Γ.put_other hbb]at hb';exact hS.wi b' n hb'
   ·cases hv with
    | bsl _ _ _ x cap hcap hnil hxb =>
     rcases hxb with h0|⟨b',hxb,hb'⟩
     ·subst h0
      have hes:es=[]:=vam hn.symm
      subst hes
      cases x with
      |none=>rw[hnil rfl];exact .sliceNil
      |some ad=>exact .sliceE ad cap
     ·rw[hx]at hb';cases hb'
      subst hxb;subst hn
      refine tP hheap (Γ.put_same _ _) (by rw[hflen];exact var _) hsz0 hcap (fun i x hx=>hsz x (vay hx)) fun j x k q hxj hq=>?_
      have hfa:=Lx hsz hxj hq
      have hlt2:j * sz+k<c.size:=vaF (ak hfa) hcs
      exact⟨c[j * sz+k],by simp[hlt2],((hcv _ _ _ hfa (by simp[hlt2])).noi (mO (Ah hno hxj) hq) hsub).mono hle (.refl _)⟩
   ·cases hv with
    | bptr _ _ b' hb' =>
     rw[hx]at hb';cases hb'
     by_cases hoff:off<=es.flatten.length
     ·have hget:∀(k:Nat) q,(es.flatten.drop off)[k]? =some q->es.flatten[off+k]? =some q/\off+k<c.size:=fun k q hq=>by
       rw[va8]at hq
       exact⟨hq,vaF (ak hq) hcs⟩
      refine .eptr _ b off es.flatten.length (fun k=>c.getD (off+k) undef) (Γ.put_same _ _) (by rw[vbL];omega) (fun k q hq=>?_) (fun k q hq=>?_)
      ·obtain⟨h1,h2⟩:=hget k q hq
       rw[cell_of_row w b _ c t _ hheap]
       simp[vav,h2]
      ·obtain⟨h1,h2⟩:=hget k q hq
       have hc1:c[off+k]? =some (c.getD (off+k) undef):=by simp[vav,h2]
       have hnq:q.no i:=by
        obtain⟨y,hy1,hy2⟩:=EE hsz0 hsz h1
        exact mO (Ah hno hy1) hy2
       exact((hcv _ _ _ h1 hc1).noi hnq hsub).mono hle (.refl _)
     ·rw[vbR (by omega)];exact .eptrE _ _
 have fz:∀{p q:PVal} {v:Value},Fz i es p q->VR Γ bs w p v->VR Γ' (bs.set i none) w q v:=by
  intro p q v hf
  induction hf generalizing v with
  |u p=>exact fun _=>.undef _
  |k p h=>exact fun hv=>(hv.noi h hsub).mono hle (.refl _)
  |s n h=>exact fun hv=>hslice n _ h hv
  |b off=>exact fun hv=>hptr off _ hv
  | f fn f c f' c' hl hl' h h' ih ih' =>
   intro hv
   cases hv with
   | func _ _ _ fs cs k1 k2 k3 k4 =>
    refine .func fn f' c' fs cs (by omega) (by omega) (fun j q u hq hu=>?_) (fun j q u hq hu=>?_)
    ·have hj:=ak hq
     have hp:=vab (l:=f) (i:=j) (by omega)
     exact ih j _ q hp hq (k3 j _ u hp hu)
    ·have hj:=ak hq
     have hp:=vab (l:=c) (i:=j) (by omega)
     exact ih' j _ q hp hq (k4 j _ u hp hu)
 have hown:∀{v:Value} {e:TypeId},fQ P Γ w v e->fQ P Γ' w v e:=by
  intro v e ho
  obtain⟨n,xs,o1,o2⟩:=ho
  exact⟨n,xs,o1,fun b hb=>hkeep b _ (o2 b hb)⟩
 have hmem:∀y∈st'.own,y∈st.own:=how
 have hbnot:∀{j b:Nat},j≠i->bs[j]? =some (some b)->bs[i]? ≠some (some b):=fun hj hb hbi=>hj (hS.inj _ _ _ hb hbi)
 refine⟨Γ',bs.set i none,ow,?_,fun j hj=>?_⟩
 ·exact{
   wi:=hwi
   sz:=by rw[hS.sz];exact htm.len
   tm:=fun t q v hq hv=>by
    have hl:=htm.len
    have ht:=ak hq
    have hp:=vab (l:=st.tmps) (i:=t) (by omega)
    exact fz (htm.get hp hq) (hS.tm t _ v hp hv)
   bl:=by rw[vbu,hS.bl];exact hbx.len
   bx:=fun j b C hb hC=>by
    obtain⟨hj,hb⟩:=hback hb
    have hl:=hbx.len
    have hjl:=ak hC
    have hp:=vab (l:=st.boxes) (i:=j) (by omega)
    obtain⟨h1,h2,h3⟩:=hS.bx j b _ hb hp
    refine⟨(hΓ b (hbnot hj hb)).trans h1,h2,?_⟩
    have hf:=hbx.get hp hC
    generalize st.boxes[j]=B0 at hf h3
    cases hf with
    |d B=>trivial
    |c cs cs' own h=>
     obtain⟨c,t,e1,e2,e3⟩:=h3
     refine⟨c,t,e1,by rw[<-h.len];exact e2,fun k q v hq hv=>?_⟩
     have hk:=ak hq
     have hlen:=h.len
     have hpk:=vab (l:=cs) (i:=k) (by omega)
     exact fz (h.get hpk hq) (e3 k _ v hpk hv)
    |k cs own h=>
     obtain⟨c,t,e1,e2,e3⟩:=h3
     exact⟨c,t,e1,e2,fun k q v hq hv=>((e3 k q v hq hv).noi (mO h hq) hsub).mono hle (.refl _)⟩
    |m l h=>
     obtain⟨c,t,e1,e2,e3⟩:=h3
     refine⟨c,t,e1,e2,fun k q u y hq hy=>?_⟩
     obtain⟨n1,n2⟩:=h _ (vay hq)
     obtain⟨v1,v2⟩:=e3 k q u y hq hy
     exact⟨(v1.noi n1 hsub).mono hle (.refl _),(v2.noi n2 hsub).mono hle (.refl _)⟩
   inj:=fun j k b hj hk'=>hS.inj j k b (hback hj).2 (hback hk').2
   bn:=fun j b hb=>hS.bn j b (hback hb).2
   on:=hS.on
   ot:=fun t k e he=>by
    obtain⟨u,v,h1,h2,h3,h4⟩:=hS.ot t k e (hmem _ he)
    exact⟨u,v,h1,h2,hown h3,h4⟩
   ob:=fun j k e cs own b hC hk' hb=>by
    obtain⟨hj,hb⟩:=hback hb
    have hl:=hbx.len
    have hjl:=ak hC
    have hp:=vab (l:=st.boxes) (i:=j) (by omega)
    have hf:=hbx.get hp hC
    generalize hB0:st.boxes[j]=B0 at hf hp
    cases hf with
    |c cs0 _ _ h=>
     obtain⟨v,h1,h2,h3⟩:=hS.ob j k e cs0 own b hp hk' hb
     exact⟨v,h1,hown h2,h3⟩
    |k _ _ h=>
     obtain⟨v,h1,h2,h3⟩:=hS.ob j k e cs own b hp hk' hb
     exact⟨v,h1,hown h2,h3⟩
   gl:=fun g cs hg=>((hS.gl g cs hg).mono hle (.refl _)).restrict (n:=0) (by simp only[PVal.cl];exact hS.gc g cs hg) (fun i b hi _=>absurd hi (vaO _))
   gc:=hS.gc
   gx:=hS.gx
   step:={hS.step with
    keep:=fun b hb hT=>by
     obtain⟨k1,k2⟩:=hS.step.keep b hb hT
     refine⟨k1,(hΓ b fun hbi=>?_).trans k2⟩
     rcases hS.bn i b hbi with h1|h1
     ·exact hT h1
     ·omega
    le:=hS.step.le.trans hle}}
 ·rw[vap (by omega)]
  exact hk j hj
def Se(i:Nat)(es:List (List PVal)):PVal->(PVal->Prop)->Prop
 |.undef,k=>k .undef
 |.int a n,k=>k (.int a n)
 |.bool b,k=>k (.bool b)
 |.str s,k=>k (.str s)
 |.val v,k=>k (.val v)
 |.bptr j off,k=>match j==i with
  |true=>bk (es.flatten.drop off) fun l=>k (.eptr l)
  |false=>k (.bptr j off)
 | .bsl j off n,k => match j == i with
  |true=>match off with
   |0=>n=es.length/\k (.slice es)
   |_+1=>False
  |false=>k (.bsl j off n)
 |.mapr j,k=>match j==i with
  |true=>False
  |false=>k (.mapr j)
 |p,k=>p.no i/\k p
def Ii(i:Nat)(es:List (List PVal)):List PVal->(List PVal->Prop)->Prop
 |[],k=>k []
 |p::ps,k=>match p with
  |.func fn f c=>fzF i es f fun f'=>fzF i es c fun c'=>Ii i es ps fun l=>k (.func fn f' c'::l)
  |p=>Se i es p fun q=>Ii i es ps fun l=>k (q::l)
where
 fzF (i:Nat) (es:List (List PVal)):List PVal->(List PVal->Prop)->Prop
  |[],k=>k []
  |p::ps,k=>Se i es p fun q=>fzF i es ps fun l=>k (q::l)
def Rk(i:Nat)(es:List (List PVal))(lv:List Nat):Nat->List PVal->(List PVal->Prop)->Prop
 |_,[],k=>k []
 | n,p :: ps,k => match lv.contains n with
  |true=>match p with
   |.func fn f c=>Ii.fzF i es f fun f'=>Ii.fzF i es c fun c'=>Rk i es lv (n+1) ps fun l=>k (.func fn f' c'::l)
   |p=>Se i es p fun q=>Rk i es lv (n+1) ps fun l=>k (q::l)
  |false=>Rk i es lv (n+1) ps fun l=>k (.undef::l)
def Pv(i:Nat)(es:List (List PVal))(rk:List Nat):Nat->List ax->(List ax->Prop)->Prop
 |_,[],k=>k []
 | n,B :: Bs,k => match n == i with
  |true=>Pv i es rk (n+1) Bs fun l=>k (.dead::l)
  | false => match B with
   |.dead=>Pv i es rk (n+1) Bs fun l=>k (.dead::l)
   |.cells cs own=>match rk.contains n with
    |true=>Kg i cs/\Pv i es rk (n+1) Bs fun l=>k (.cells cs own::l)
    |false=>Ii i es cs fun cs'=>Pv i es rk (n+1) Bs fun l=>k (.cells cs' own::l)
   |.map m=>(∀x∈m,x.1.no i/\x.2.no i)/\Pv i es rk (n+1) Bs fun l=>k (.map m::l)
def NT(es:List (List PVal)):ax->Prop
 |.cells cs _=>cs=es.flatten
 |_=>False
theorem NU{es:List (List PVal)}{H:List ax}{i:Nat}(h:iP H i (NT es)):∃own,H[i]? =some (.cells es.flatten own):=by
 obtain⟨B,hB,h⟩:=de h
 unfold NT at h
 split at h
 ·subst h;exact⟨_,hB⟩
 ·exact h.elim
def Na(m:Nat):List It->av->(List It->av->Prop)->Prop
 |.fz i es lv rk::sc',st,k=>((m % 1000<=i)/\∃sz,0<sz/\∀x∈es,x.length=sz)/\Dm i es/\iP st.boxes i (NT es)/\Rk i es lv 0 st.tmps fun tm=>Pv i es rk 0 st.boxes fun H=>bk (st.own.filter fun x=>lv.contains x.1.1) fun ow=>Na m sc' ⟨tm,H,ow⟩ k
 |sc,st,k=>k sc st
theorem KL{i:Nat}{es:List (List PVal)}{p:PVal}{k:PVal->Prop}(h:Se i es p k):∃q,Fz i es p q/\k q:=by
 unfold Se at h
 split at h
 ·exact⟨_,.u _,h⟩
 ·exact⟨_,.k _ (by simp[PVal.no]),h⟩
 ·exact⟨_,.k _ (by simp[PVal.no]),h⟩
 ·exact⟨_,.k _ (by simp[PVal.no]),h⟩
 ·exact⟨_,.k _ (by simp[PVal.no]),h⟩
 ·rename_i j off
  split at h
  ·rename_i hj
   simp only[vaZ]at hj
   subst hj
   rw[aA]at h
   exact⟨_,.b _,h⟩
  ·rename_i hj
   exact⟨_,.k _ (by simpa[PVal.no]using hj),h⟩
 ·rename_i j off n
  split at h
  ·rename_i hj
   simp only[vaZ]at hj
   subst hj
   split at h
   ·exact⟨_,.s _ h.1,h.2⟩
   ·exact h.elim
  ·rename_i hj
   exact⟨_,.k _ (by simpa[PVal.no]using hj),h⟩
 ·rename_i j
  split at h
  ·exact h.elim
  ·rename_i hj
   exact⟨_,.k _ (by simpa[PVal.no]using hj),h⟩
 ·exact⟨_,.k _ h.1,h.2⟩
theorem EH{i:Nat}{es:List (List PVal)}:∀{l:List PVal} {k:List PVal->Prop},Ii.fzF i es l k->∃r,Lb i es l r/\k r
 |[],k,h=>⟨[],trivial,h⟩
 |p::ps,k,h=>by
  unfold Ii.fzF at h
  obtain⟨q,h1,h2⟩:=KL h
  obtain⟨r,h3,h4⟩:=EH h2
  exact⟨q::r,⟨h1,h3⟩,h4⟩
theorem Fz.fn{i:Nat}{es:List (List PVal)}(fn:Fn){f c f' c':List PVal}(h:Lb i es f f')(h':Lb i es c c'):Fz i es (.func fn f c) (.func fn f' c'):=
 .f fn f c f' c' h.len h'.len (fun _ _ _ hp hq=>h.get hp hq) (fun _ _ _ hp hq=>h'.get hp hq)
theorem Ij{i:Nat}{es:List (List PVal)}:∀{l:List PVal} {k:List PVal->Prop},Ii i es l k->∃r,Lb i es l r/\k r
 |[],k,h=>⟨[],trivial,h⟩
 | p :: ps,k,h => by
  unfold Ii at h
  split at h
  ·obtain⟨f',h1,h2⟩:=EH h
   obtain⟨c',h3,h4⟩:=EH h2
   obtain⟨r,h5,h6⟩:=Ij h4
   exact⟨_::r,⟨.fn _ h1 h3,h5⟩,h6⟩
  ·obtain⟨q,h1,h2⟩:=KL h
   obtain⟨r,h3,h4⟩:=Ij h2
   exact⟨q::r,⟨h1,h3⟩,h4⟩
theorem Ih{i:Nat}{es:List (List PVal)}{lv:List Nat}:∀{n:Nat} {l:List PVal} {k:List PVal->Prop},Rk i es lv n l k->∃r,Lb i es l r/\k r
 |_,[],k,h=>⟨[],trivial,h⟩
 | n,p :: ps,k,h => by
  unfold Rk at h
  split at h
  ·split at h
   ·obtain⟨f',h1,h2⟩:=EH h
    obtain⟨c',h3,h4⟩:=EH h2
    obtain⟨r,h5,h6⟩:=Ih h4
    exact⟨_::r,⟨.fn _ h1 h3,h5⟩,h6⟩
   ·obtain⟨q,h1,h2⟩:=KL h
    obtain⟨r,h3,h4⟩:=Ih h2
    exact⟨q::r,⟨h1,h3⟩,h4⟩
  ·obtain⟨r,h3,h4⟩:=Ih h
   exact⟨.undef::r,⟨.u _,h3⟩,h4⟩
theorem NM{i:Nat}{es:List (List PVal)}{rk:List Nat}:∀{n:Nat} {l:List ax} {k:List ax->Prop},Pv i es rk n l k->∃r,Ga i es l r/\(∀j B,l[j]? =some B->n+j=i->r[j]? =some .dead)/\k r
 |_,[],k,h=>⟨[],trivial,by simp,h⟩
 | n,B :: Bs,k,h => by
  have go:∀{B':ax} {k':List ax->Prop},Qv i es B B'->(n=i->B'=.dead)->Pv i es rk (n+1) Bs k'->(∀r,k' r->k (B'::r))->∃r,Ga i es (B::Bs) r/\(∀j C,(B::Bs)[j]? =some C->n+j=i->r[j]? =some .dead)/\k r:=by
   intro B' k' h1 h2 h3 h4
   obtain⟨r,r1,r2,r3⟩:=NM h3
   refine⟨B'::r,⟨h1,r1⟩,fun j C hC hj=>?_,h4 r r3⟩
   cases j with
   |zero=>simp[h2 (by omega)]
   |succ j=>simpa using r2 j C (by simpa using hC) (by omega)
  unfold Pv at h
  split at h
  ·exact go (.d _) (fun _=>rfl) h (fun _ x=>x)
  ·rename_i hn
   have hn':n≠i:=by simpa using hn
   split at h
   ·exact go (.d _) (fun _=>rfl) h (fun _ x=>x)
   ·split at h
    ·exact go (.k _ _ h.1) (fun e=>absurd e hn') h.2 (fun _ x=>x)
    ·obtain⟨cs',h1,h2⟩:=Ij h
     exact go (.c _ _ _ h1) (fun e=>absurd e hn') h2 (fun _ x=>x)
   ·exact go (.m _ h.1) (fun e=>absurd e hn') h.2 (fun _ x=>x)
theorem Ig{P:Program}{m:Nat}:∀{sc:List It} {st:av} {k:List It->av->Prop},Na m sc st k->∃sc' st',n7 P m st st'/\k sc' st'
 |[],st,k,h=>⟨[],st,.refl _,by simpa[Na]using h⟩
 | x :: sc,st,k,h => by
  unfold Na at h
  split at h
  ·rename_i i es lv rk sc' heq
   cases heq
   obtain⟨h1,h2,h3,h4⟩:=h
   obtain⟨own,hB⟩:=NU h3
   obtain⟨tm,t1,h5⟩:=Ih h4
   obtain⟨H,b1,b2,h6⟩:=NM h5
   rw[aA]at h6
   obtain⟨sc2,st2,w1,h7⟩:=Ig h6
   exact⟨sc2,st2,n7.trans (FZ.weak (st':=⟨tm,H,_⟩) ⟨h1,h2,⟨own,hB⟩,b2 i _ hB (by omega),t1,b1,fun x hx=>(vaK.1 hx).1⟩) w1,h7⟩
  ·exact⟨_,_,.refl _,h⟩
def FG(st st0:av):Prop:=Dg st.tmps st0.tmps=st0.tmps/\Ib st.boxes st0.boxes=st0.boxes/\(st0.own.all fun x=>decide (x∈st.own))=true
theorem fr(st:av):st.tmps=st.tmps/\st.boxes=st.boxes/\true=true:=⟨rfl,rfl,rfl⟩
theorem FG.weak{P:Program}{m:Nat}{st st0:av}(h:FG st st0):n7 P m st st0:=by
 obtain⟨h1,h2,h3⟩:=h
 have:=n7.forget (P:=P) (m:=m) (st:=st) st0.tmps st0.boxes st0.own (fun x hx=>by simpa using vau.1 h3 x hx)
 rw[h1,h2]at this
 exact this
def sH(P:Program)(GE:List (Nat×List PVal))(A:List Nat)(m:Nat):Code->List It->av->(Exit->List It->av->Prop)->Prop
 |.skip,sc,st,K=>K .normal sc st
 |.label _,sc,st,K=>K .normal sc st
 | .region _ ops draw,sc,st,K => match draw with
  |false=>match ops.toList.all ed with
   |true=>HY st.boxes (eC P ops.toList) fun H=>EA P GE A ops (K .normal) ops.toList 0 st.boxes.length sc ⟨st.tmps,H,st.own⟩
   |false=>False
  |true=>match sc with
   |.dr an::sc'=>Ia P GE A ops an [] [] [] (K .normal) sc' st
   |.dx an X br rw::sc'=>Ia P GE A ops an X br rw (K .normal) sc' st
   |_=>False
 | .seq a b,sc,st,K =>
  let after (e:Exit) (sc:List It) (st:av):Prop:=match e with
   |.normal=>Na m sc st fun sc st=>sH P GE A m b sc st K
   |e=>K e sc st
  match sc with
  |.pa 0::.pc st0 e st1::sc'=>FG st st0/\aB P GE m a (EX e st1) st0/\after e sc' st1
  |.pa (n+1)::sc'=>sH P GE A m a (.pa n::sc') st after
  |sc=>sH P GE A m a sc st after
 | .cond c a b,sc,st,K => kO GE st.tmps c fun v => match v with
  | .bool t => match sc with
   |.k::sc'=>match t with
    |true=>Na m sc' st fun sc st=>sH P GE A m a sc st K
    |false=>Na m sc' st fun sc st=>sH P GE A m b sc st K
   |.g _ x::sc'=>t=x/\match x with
    |true=>Na m sc' st fun sc st=>sH P GE A m a sc st K
    |false=>Na m sc' st fun sc st=>sH P GE A m b sc st K
   |_=>False
  |_=>False
 |.block id c,sc,st,K=>sH P GE A m c sc st fun e sc st=>match e with
  |.exit id'=>if id'=id then K .normal sc st else K (.exit id') sc st
  |e=>K e sc st
 |.exit id,sc,st,K=>K (.exit id) sc st
 |.ret,sc,st,K=>K .ret sc st
 |.loop c,sc,st,K=>match sc with
  |.pc st0 e st1::sc'=>FG st st0/\aB P GE m (.loop c) (EX e st1) st0/\K e sc' st1
  |_=>False
 |_,_,_,_=>False
section
variable{P:Program}{GE:List (Nat×List PVal)}{A:List Nat}{m:Nat}
theorem fh(hf:P.follows .mixedOrders=true):∀(c:Code) (sc:List It) (st:av) (K:Exit->List It->av->Prop),sH P GE A m c sc st K->aB P GE m c (fun e st'=>∃sc',K e sc' st') st
 |.skip,sc,st,K,h=>aB.skip ⟨sc,h⟩
 |.label _,sc,st,K,h=>aB.label ⟨sc,h⟩
 | .region id ops draw,sc,st,K,h => by
  simp only[sH]at h
  cases draw with
  | false =>
   simp only at h
   split at h
   ·rename_i hd
    simp only[HY,aA]at h
    exact aB.text hd (tq _ _ _ _ _ h)
   ·exact h.elim
  | true =>
   simp only at h
   split at h
   ·exact zO hf (fun st hx=>hx) h
   ·exact zO hf (fun st hx=>hx) h
   ·exact h.elim
 | .seq a b,sc,st,K,h => by
  have aft:∀(e:Exit) (sc':List It) (st':av),(match e with|.normal=>Na m sc' st' (fun sc st=>sH P GE A m b sc st K)|e=>K e sc' st')->(match e with|.normal=>aB P GE m b (fun e st'=>∃sc',K e sc' st') st'|e=>∃sc',K e sc' st'):=by
   intro e sc' st' hx
   cases e with
   |normal=>
    obtain⟨sc2,st2,hw,hx⟩:=Ig (P:=P) hx
    exact aB.weak hw (fh hf b sc2 st2 K hx)
   |exit id=>exact⟨_,hx⟩
   |goto l=>exact⟨_,hx⟩
   |ret=>exact⟨_,hx⟩
   |panic c=>exact⟨_,hx⟩
   |outgrown=>exact⟨_,hx⟩
  simp only[sH]at h
  refine aB.seq ?_
  split at h
  ·rename_i st0 e st1 sc'
   obtain⟨h1,h2,h3⟩:=h
   refine aB.weak h1.weak (EX.of h2 ?_)
   have:=aft e sc' st1 h3
   cases e<;>exact this
  ·exact(fh hf a _ st _ h).imp fun e st' hx=>by
    obtain⟨sc',hx⟩:=hx
    have:=aft e sc' st' hx
    cases e<;>exact this
  ·exact(fh hf a _ st _ h).imp fun e st' hx=>by
    obtain⟨sc',hx⟩:=hx
    have:=aft e sc' st' hx
    cases e<;>exact this
 | .cond c a b,sc,st,K,h => by
  simp only[sH,bI]at h
  have go:∀{x:Code} (hx:∀(sc:List It) (st:av),sH P GE A m x sc st K->aB P GE m x (fun e st'=>∃sc',K e sc' st') st) {sc:List It},Na m sc st (fun sc st=>sH P GE A m x sc st K)->aB P GE m x (fun e st'=>∃sc',K e sc' st') st:=by
   intro x hx sc h
   obtain⟨sc2,st2,hw,h⟩:=Ig (P:=P) h
   exact aB.weak hw (hx sc2 st2 h)
  split at h
  ·rename_i t ht
   split at h
   ·rename_i sc'
    refine aB.cond ht (fun h1=>?_) (fun h1=>?_)
    ·subst h1;exact go (fun sc st=>fh hf a sc st K) h
    ·subst h1;exact go (fun sc st=>fh hf b sc st K) h
   ·rename_i j x sc'
    obtain⟨rfl,h⟩:=h
    refine aB.cond ht (fun h1=>?_) (fun h1=>?_)
    ·subst h1;exact go (fun sc st=>fh hf a sc st K) h
    ·subst h1;exact go (fun sc st=>fh hf b sc st K) h
   ·exact h.elim
  ·exact h.elim
 | .block id c,sc,st,K,h => by
  simp only[sH]at h
  refine aB.block ((fh hf c _ st _ h).imp fun e st' hx=>?_)
  obtain⟨sc',hx⟩:=hx
  cases e with
  | exit id' =>
   simp only[Kp]
   simp only at hx
   split at hx
   ·rename_i hid;rw[vaj hid];exact⟨sc',hx⟩
   ·rename_i hid;rw[van hid];exact⟨sc',hx⟩
  |normal=>exact⟨sc',hx⟩
  |goto l=>exact⟨sc',hx⟩
  |ret=>exact⟨sc',hx⟩
  |panic c=>exact⟨sc',hx⟩
  |outgrown=>exact⟨sc',hx⟩
 |.exit id,sc,st,K,h=>aB.exit ⟨sc,h⟩
 |.ret,sc,st,K,h=>aB.ret ⟨sc,h⟩
 | .loop c,sc,st,K,h => by
  simp only[sH]at h
  split at h
  ·rename_i st0 e st1 sc'
   obtain⟨h1,h2,h3⟩:=h
   exact aB.weak h1.weak (EX.of h2 ⟨sc',h3⟩)
  ·exact h.elim
 |.rangeFunc ..,_,_,_,h=>by simp[sH]at h
 |.scope _,_,_,_,h=>by simp[sH]at h
 |.goto _,_,_,_,h=>by simp[sH]at h
 |.refuse _,_,_,_,h=>by simp[sH]at h
def FN(e0:Exit)(st0:av):Exit->List It->av->Prop:=fun e _ st=>e0=e/\FG st st0
theorem piece(hf:P.follows .mixedOrders=true){c:Code}{e0:Exit}{st0 st:av}(sc:List It)(h:sH P GE A m c sc st (FN e0 st0)):aB P GE m c (EX e0 st0) st:=
 (fh hf c sc st _ h).mono fun _ _ hx=>by
  obtain⟨_,hx⟩:=hx
  exact⟨st0,hx.2.weak,hx.1.symm,rfl⟩
theorem jR(hf:P.follows .mixedOrders=true){σ X:Type}{S:σ->av}{ex:X->Exit}{so:X->av}{c:Code}{s:σ}{st:av}(sc:List It)(h:sH P GE A m c sc st (FN .normal (S s))):aB P GE m c (LQ S ex so (.inl s)) st:=
 (piece hf sc h).imp fun _ _ hx=>⟨hx.1,hx.2⟩
theorem Tv(hf:P.follows .mixedOrders=true){σ X:Type}{S:σ->av}{ex:X->Exit}{so:X->av}{c:Code}{x:X}{st:av}(sc:List It)(hn:ex x≠.normal)(h:sH P GE A m c sc st (FN (ex x) (so x))):aB P GE m c (LQ S ex so (.inr x)) st:=
 (piece hf sc h).imp fun _ _ hx=>⟨by rw[hx.1];exact hn,hx.1,hx.2⟩
def wK(rs:List ResultVar)(ro:List (Nat×TypeId))(st:av):Bool:=
 ro.all (fun x=>decide ((cZ rs x.1,x.2)∈st.own)&&(match rs with
  |[.tmp _]=>true
  |[_]=>false
  |rs=>match rs[x.1]? with
   |some (.tmp t)=>(st.tmps.getD t .undef).isSlice
   |_=>false))&&ro.all (fun x=>ro.all fun y=>!decide (cZ rs x.1=cZ rs y.1)||decide (x.1=y.1))
def PVal.isAgg:PVal->Bool
 |.agg _=>true
 |_=>false
def IG(P:Program)(rs:List ResultVar)(r:PVal)(ro:List (Nat×TypeId))(st:av):Prop:=
 ∃(t:Tmp) (ty:TypeId) (i off:Nat) (cs:List PVal) (own:List (Nat×TypeId)) (l:List PVal),rs=[.cell t ty]/\(∃fs,P.underlying ty=some (.struct fs))/\st.tmps.getD t .undef=.bptr i off/\st.boxes[i]? =some (.cells cs own)/\
  r=.agg l/\ch P ty (cs.drop off)=some (.agg l)/\r.cl 0/\(∀x∈ro,(off+x.1,x.2)∈own/\x.1<l.length)/\(ro.map (·.1)).Nodup
def Ou(P:Program)(rs:List ResultVar)(r:PVal)(ro:List (Nat×TypeId))(e:Exit)(st:av):Prop:=
 So P rs r ro [] e st\/((e=.normal\/e=.ret)/\IG P rs r ro st)
def LS(P:Program)(rs:List ResultVar)(ro:List (Nat×TypeId))(st:av):Bool:=match rs with
 | [.cell t ty] => match P.underlying ty with
  | some (.struct _) => match st.tmps.getD t .undef with
   |.bptr i off=>match st.boxes[i]? with
    |some (.cells _ own)=>ro.all (fun x=>decide ((off+x.1,x.2)∈own)&&decide (x.1<P.cellsOf ty))&&pn (ro.map (·.1))
    |_=>false
   |_=>false
  |_=>false
 |_=>false
section
variable{P:Program}{E:nm}{Γ:aO}{bs:bg}{ow:Nat->Option jk}{w:World}{a:Array Value}{st:av}
theorem SR.pushed(h:SR P E Γ bs ow w a st){v:Value}{p:PVal}(hv:VR Γ bs w p v):SR P E Γ bs ow w (a.push v) {st with tmps:=st.tmps++[p]}:=
 { h with
  sz:=by simp[h.sz]
  tm:=fun t q u hq hu=>by
   by_cases ht:t<a.size
   ·rw[vct ht]at hu
    simp only at hq
    rw[vac (by rw[<-h.sz];exact ht)]at hq
    exact h.tm t q u hq (by rw[<-hu];simp[ht])
   ·have hlt:t<(a.push v).size:=(vao.1 hu).1
    have ht2:t=a.size:=by simp at hlt;omega
    subst ht2
    simp only at hq
    rw[vad (by rw[h.sz];exact var _),h.sz]at hq
    simp at hq hu
    subst hq;subst hu;exact hv
  ot:=fun t k e he=>by
   obtain⟨u,v',h1,h2,h3,h4⟩:=h.ot t k e he
   have hlt:t<a.size:=(vao.1 h1).1
   exact⟨u,v',by rw[vct hlt,<-h1];simp[hlt],h2,h3,h4⟩}
theorem SR.finishCell(h:SR P E Γ bs ow w a st){fn:Func}{r:PVal}{ro:List (Nat×TypeId)}(hr:IG P fn.results.toList r ro st):
  ∃v ow',(results fn a).run P w=.ok v w/\SR P E Γ [] ow' w #[v] ⟨[r],[],ro.map fun x=>((0,x.1),x.2)⟩:=by
 obtain⟨t,ty,i,off,cs,own,l,hrs,⟨fs,hfs⟩,ht,hB,rfl,hp,hcl,hro,hnd⟩:=hr
 have hrv:AT P st fn.results.toList=some (.agg l):=by
  rw[hrs]
  show jm P ty (st.tmps.getD t .undef) st.boxes=_
  rw[ht]
  simp only[jm,hB,hp]
 obtain⟨v,e1,e2,_⟩:=nl h hrv
 have hvt:=h.getD t
 rw[ht]at hvt
 generalize hva:a.getD t undef=vt at hvt
 cases hvt with
 |bptr _ _ b hb=>
 obtain⟨v2,q1,q2,q3⟩:=yQ h hb hB hp
 have hvv:v2=v:=by
  have hres:fn.results=#[.cell t ty]:=by
   have:fn.results=fn.results.toList.toArray:=by simp
   rw[this,hrs]
  have hrun:(results fn a).run P w=.ok v2 w:=by
   simp[results,hres,asAddr]
   have hva':a[t]?.getD undef=.pointer (some ⟨b,off,none⟩):=by rw[<-vav];exact hva
   rw[hva']
   simp[q1]
  rw[e1]at hrun
  cases hrun
  rfl
 subst hvv
 have g1:=h.pushed e2
 obtain⟨ow',g2⟩:=SR.takeOwns (off:=off) (d:=a.size) (u:=v2) hb (by simp) ro g1 hB (fun x hx=>(hro x hx).1) hnd fun x hx=>by
  have:=q3 ⟨_,hfs,trivial⟩ x.1 (hro x hx).2
  obtain⟨v',z1,_⟩:=h.ob i (off+x.1) x.2 cs own b hB (hro x hx).1 hb
  exact⟨v',this.trans z1,z1⟩
 refine⟨v2,vp (fun k=>(a.size,k)) ro ow',e1,?_⟩
 have hf:=g2.finish (H':=[]) (src:=fun k=>(a.size,k)) (ro:=ro) e2 hcl (by unfold cE;trivial) (fun x hx=>⟨?_,fun u v' hu hv'=>?_⟩) (fun x _ y _ e=>by simpa using e)
 ·simpa using hf
 ·exact va7 _ (vb2.2 (vaq.2 ⟨x,hx,rfl⟩))
 ·simp at hu;subst hu;exact hv'
end
def RB(P:Program)(rs:List ResultVar)(r:PVal)(ro:List (Nat×TypeId))(st:av):Prop:=match wK rs ro st with
 |true=>match AT P st rs with
  |some p=>p=r/\r.cl 0
  |none=>False
 | false => match LS P rs ro st with
  |true=>match AT P st rs with
   |some p=>p=r/\r.cl 0/\r.isAgg=true
   |none=>False
  |false=>False
def FR(P:Program)(rs:List ResultVar)(r:PVal)(ro:List (Nat×TypeId)):Exit->List It->av->Prop:=fun e _ st=>match e with
 |.normal=>RB P rs r ro st
 |.ret=>RB P rs r ro st
 |_=>False
theorem C.ofSat{f:FuncId}{fn:Func}{c:Code}{args:List PVal}{r:PVal}{ro:List (Nat×TypeId)}
  (hcall:∀vs w,(callFunc f vs).run P w=.ok (.enter f vs) w) (hfn:P.funcs[f]? =some fn) (hb:fn.body=some c)
  (hp:aB P GE 0 c (Ou P fn.results.toList r ro) ⟨args++List.replicate (fn.ntmps - args.length) .undef,[],[]⟩):C P GE f args [] [] r ro []:=by
 refine⟨hcall,fun Γ bs ow w vs h=>calls_of_wp hfn hb ?_⟩
 have hbl:bs.length=0:=h.bl
 obtain rfl:bs=[]:=vam hbl
 have h0:SR P ⟨GE,Γ,w,fun _=>False⟩ Γ [] (fun _=>none) w (vs++Array.replicate (fn.ntmps - vs.size) undef) ⟨args++List.replicate (fn.ntmps - args.length) .undef,[],[]⟩:=by
  have hsz:vs.size=args.length:=h.sz
  exact{
   wi:=h.wi
   sz:=by simp[hsz]
   tm:=fun t p v hp hv=>by
    simp only at hp
    by_cases ht:t<args.length
    ·rw[vac ht]at hp
     rw[vaH (by omega)]at hv
     exact h.tm t p v hp hv
    ·rw[vad (by omega),vaL]at hp
     split at hp<;>cases hp
     exact .undef v
   bl:=rfl
   bx:=fun i b B hi=>by simp at hi
   inj:=fun i j b hi=>by simp at hi
   bn:=fun i b hi=>by simp at hi
   on:=fun b L hL=>by cases hL
   ot:=fun t k e he=>by simp at he
   ob:=fun i j e cs own b hB=>by simp at hB
   gl:=h.gl
   gc:=h.gc
   gx:=fun g cs hg=>⟨(h.gx g cs hg).1,fun hx=>hx,(h.gx g cs hg).2.2⟩
   step:=.refl _ _ _ _}
 have hE:xg GE 0 ⟨GE,Γ,w,fun _=>False⟩:={
  ge:=rfl
  low:=fun b n hb=>h.lt_of_ghost hb
  nt:=fun _ _ hx=>hx
  gl:=h.gl}
 have hwp:=hp none ⟨GE,Γ,w,fun _=>False⟩ [] ⟨vs++Array.replicate (fn.ntmps - vs.size) undef,[]⟩ w hE rfl ⟨Γ,[],_,h0,fun i _=>rfl⟩
 refine wp_mono hwp fun e a w' hq=>?_
 obtain⟨hd,st,⟨Γ1,bs1,ow1,hS0,hk⟩,hQ⟩:=hq
 have hS:SR P ⟨GE,Γ,w,bu [] ow⟩ Γ1 bs1 ow1 w' a.tmps st:={hS0 with
  bn:=fun i b hb=>(hS0.bn i b hb).elim False.elim .inr
  on:=fun b L hL=>⟨(hS0.on b L hL).1,(hS0.on b L hL).2.elim False.elim .inr⟩
  gx:=h.gx
  step:={hS0.step with keep:=fun b hb _=>hS0.step.keep b hb (fun hx=>hx)}}
 have key:(AT P st fn.results.toList=some r/\r.cl 0/\cE 0 st.boxes []/\(∀x∈ro,(cZ fn.results.toList x.1,x.2)∈st.own/\mS st fn.results.toList x.1)/\
   (∀x∈ro,∀y∈ro,cZ fn.results.toList x.1=cZ fn.results.toList y.1->x.1=y.1))->
   a.defers=[]/\∃v,(results fn a.tmps).run P w'=.ok v w'/\∃v' Γ' ow',Ending.returned v=.returned v'/\SR P ⟨GE,Γ,w,bu [] ow⟩ Γ' [] ow' w' #[v'] ⟨[r],[],ro.map fun x=>((0,x.1),x.2)⟩:=by
  rintro⟨k1,k2,k3,k4,k5⟩
  obtain⟨v,e1,e2,e3⟩:=nl hS k1
  refine⟨hd,v,e1,v,Γ1,vp (cZ fn.results.toList) ro ow1,rfl,?_⟩
  have hf:=hS.finish (H':=[]) (src:=cZ fn.results.toList) (ro:=ro) e2 k2 k3 (fun x hx=>⟨(k4 x hx).1,fun u v'=>e3 x.1 u v' (k4 x hx).2⟩) k5
  simpa using hf
 have key2:IG P fn.results.toList r ro st->
   a.defers=[]/\∃v,(results fn a.tmps).run P w'=.ok v w'/\∃v' Γ' ow',Ending.returned v=.returned v'/\SR P ⟨GE,Γ,w,bu [] ow⟩ Γ' [] ow' w' #[v'] ⟨[r],[],ro.map fun x=>((0,x.1),x.2)⟩:=by
  intro hc
  obtain⟨v,ow',e1,e2⟩:=hS.finishCell hc
  exact⟨hd,v,e1,v,Γ1,ow',rfl,e2⟩
 rcases hQ with hQ|⟨he,hQ⟩
 ·cases e with
  |normal=>exact key hQ
  |ret=>exact key hQ
  |exit id=>exact hQ.elim
  |goto l=>exact hQ.elim
  |panic c=>exact hQ.elim
  |outgrown=>exact hQ.elim
 ·rcases he with rfl|rfl
  ·exact key2 hQ
  ·exact key2 hQ
theorem FL{rs:List ResultVar}{r:PVal}{ro:List (Nat×TypeId)}{st:av}(hc:wK rs ro st=true)(hp:AT P st rs=some r)(hcl:r.cl 0):AT P st rs=some r/\r.cl 0/\cE 0 st.boxes []/\(∀x∈ro,(cZ rs x.1,x.2)∈st.own/\mS st rs x.1)/\
      (∀x∈ro,∀y∈ro,cZ rs x.1=cZ rs y.1->x.1=y.1):=by
  unfold wK at hc
  rw[vae]at hc
  obtain⟨c1,c2⟩:=hc
  refine⟨hp,hcl,by unfold cE;cases st.boxes<;>trivial,fun x hx=>?_,fun x hx y hy hxy=>?_⟩
  · have:=vau.1 c1 x hx
    rw[vae]at this
    refine⟨by simpa using this.1,?_⟩
    have h2:=this.2
    clear hp this c1 c2
    rcases rs with _|⟨y,_|⟨z,rs⟩⟩
    ·simp at h2
    · cases y with
      |tmp t=>trivial
      |cell t ty=>cases h2
    · have key:∀ o:Option ResultVar,(match o with
        |some (.tmp t)=>(st.tmps.getD t .undef).isSlice
        |_=>false)=true->(match o with
        |some (.tmp t)=>(st.tmps.getD t .undef).isSlice=true
        |_=>False):=by
        intro o
        cases o with
        |none=>intro h;cases h
        |some q=>cases q<;>intro h<;>first|exact h|cases h
      cases y with
      |tmp t=>exact key _ h2
      |cell t ty=>exact key _ h2
  · have:=vau.1 (vau.1 c2 x hx) y hy
    simpa[hxy]using this
theorem RB.to{rs:List ResultVar}{r:PVal}{ro:List (Nat×TypeId)}{st:av}{e:Exit}(he:e=.normal\/e=.ret)(h:RB P rs r ro st):Ou P rs r ro e st:=by
 unfold RB at h
 split at h
 ·rename_i hc
  split at h
  ·rename_i p hp
   obtain⟨rfl,hcl⟩:=h
   have:=FL hc hp hcl
   rcases he with rfl|rfl<;>exact .inl this
  ·exact h.elim
 ·split at h
  ·rename_i hc
   split at h
   ·rename_i p hp
    obtain⟨rfl,hcl,hagg⟩:=h
    refine .inr ⟨he,?_⟩
    unfold LS at hc
    split at hc
    ·rename_i t ty _
     split at hc
     ·rename_i fs hfs
      split at hc
      ·rename_i i off ht
       split at hc
       ·rename_i cs own hB
        rw[vae]at hc
        obtain⟨c1,c2⟩:=hc
        have hpl:ch P ty (cs.drop off)=some p:=by
         have hp':jm P ty (st.tmps.getD t .undef) st.boxes=some p:=hp
         rw[ht]at hp'
         simpa only[jm,hB]using hp'
        cases p<;>simp only[PVal.isAgg]at hagg<;>first|(cases hagg;done)|skip
        rename_i l
        have hlen:l.length=P.cellsOf ty:=by
         have hq:=hpl
         unfold ch at hq
         rw[hfs]at hq
         simp only at hq
         split at hq
         ·rename_i hh;cases hq;rw[vaR];omega
         ·cases hq
        refine⟨t,ty,i,off,cs,own,l,rfl,⟨fs,hfs⟩,ht,hB,rfl,hpl,hcl,fun x hx=>?_,kH c2⟩
        have:=vau.1 c1 x hx
        simp only[vae,vai]at this
        exact⟨this.1,by rw[hlen];exact this.2⟩
       ·cases hc
      ·cases hc
     ·cases hc
    ·cases hc
   ·exact h.elim
  ·exact h.elim
theorem FR.to{rs:List ResultVar}{r:PVal}{ro:List (Nat×TypeId)}{e:Exit}{sc:List It}{st:av}(h:FR P rs r ro e sc st):Ou P rs r ro e st:=by
 unfold FR at h
 split at h
 ·exact h.to (.inl rfl)
 ·exact h.to (.inr rfl)
 ·exact h.elim
theorem C.ev(hf:P.follows .mixedOrders=true){f:FuncId}{fn:Func}{c:Code}{args:List PVal}{r:PVal}{ro:List (Nat×TypeId)}
  (hcall:∀vs w,(callFunc f vs).run P w=.ok (.enter f vs) w) (hfn:P.funcs[f]? =some fn) (hb:fn.body=some c) (hcl:iB 0 args) (sc:List It)
  (h:sH P GE A 0 c sc ⟨args++List.replicate (fn.ntmps - args.length) .undef,[],[]⟩ (FR P fn.results.toList r ro)):CC P GE f args r ro:=
 ⟨hcl,C.ofSat hcall hfn hb ((fh hf c sc _ _ h).imp fun e st hx=>by obtain⟨sc',hx⟩:=hx;exact hx.to)⟩
end
abbrev ag:=List UInt8
abbrev bA(n:Int):Int:=IntKind.i64.wrap n
def cS(s:ag):List PVal:=[.str s]
def cI(k:IntKind)(n:Int):List PVal:=[.int k n]
def sl{α:Type}(c:α->List PVal)(l:List α):PVal:=.slice (l.map c)
def cL{α:Type}(c:α->List PVal)(l:List α):List PVal:=[sl c l]
def wP(s:ag)(i:Int):Option Int:=(dv s i).map fun c=>(c.toNat:Int)
def bd:Option Int->Nat->Option Nat
 |none,d=>some d
 |some i,_=>if 0<=i then some i.toNat else none
def IK{α:Type}(l:List α)(lo hi:Option Int):Option (List α):=
 match bd lo 0,bd hi l.length with
 |some a,some b=>if a<=b/\b<=l.length then some ((l.take b).drop a)else none
 |_,_=>none
def app{α:Type}(l r:List α):Option (List α):=if l.length+r.length<=dB then some (l++r)else none
def QL(a b:ag):Option ag:=if a.length+b.length<=KP then some (a++b)else none
def qu(k:IntKind)(a b:Int):Option Int:=if b=0 then none else some (k.wrap (a.tdiv b))
def re(a b:Int):Option Int:=if b=0 then none else some (a.tmod b)
def tz{α:Type}(m:List (ag×α))(k:ag):Option α:=(m.find? fun e=>k==e.1).map (·.2)
def wQ{α:Type}(m:List (ag×α))(k:ag)(v:α):List (ag×α):=
 match m with
 |[]=>[(k,v)]
 |e::r=>if k==e.1 then(k,v)::r else e::wQ r k v
def uz{α:Type}(f:α->PVal)(m:List (ag×α)):List (PVal×PVal):=m.map fun e=>(.str e.1,f e.2)
def Oy:TypeDesc->Bool
 |.struct _=>false
 |.array _ _=>false
 |_=>true
theorem cP{P:Program}{t:TypeId}(h:(P.underlying t).any Oy=true)(p:PVal)(r:List PVal):ch P t (p::r)=some p:=by
 unfold ch
 split
 ·rename_i hu;rw[hu]at h;cases h
 ·rename_i hu;rw[hu]at h;cases h
 ·rfl
 ·rename_i hu;rw[hu]at h;cases h
structure pY{α:Type}(P:Program)(T e:TypeId)(c:α->List PVal):Prop where
 hu:P.underlying T=some (.slice e)
 hc:∀x,(c x).length=P.cellsOf e
 hi:(P.info? e).isSome=true
 hp:0<P.cellsOf e
 hz:(iV P e).map (·.length)=some (P.cellsOf e)
 hb:P.bytesOf e<=65536
 ho:∀x,∀q∈c x,q.one=true
 cl:∀x,iB 0 (c x)
theorem am{α:Type}{c:α->List PVal}(h:∀x,iB 0 (c x))(l:List α):(sl c l).cl 0:=by
 unfold sl
 simp only[PVal.cl]
 exact H4 fun p hp=>by obtain⟨x,_,rfl⟩:=vaq.1 hp;exact h x
theorem dS(s:ag):iB 0 (cS s):=⟨trivial,trivial⟩
theorem UV(k:IntKind)(n:Int):iB 0 (cI k n):=⟨trivial,trivial⟩
theorem zT{α:Type}{l:List α}{i:Int}{x:α}(h:dv l i=some x):0<=i/\l[i.toNat]? =some x:=by
 unfold dv at h
 split at h
 ·exact⟨‹_›,h⟩
 ·cases h
theorem aI{a b:Prop}(h:a)(h':b):a/\b:=⟨h,h'⟩
theorem rP(p:PVal):p=p:=rfl
theorem lf{β:Type}{a r:β}(h:some a=some r):a=r:=vbo h
abbrev u:PVal:=.undef
theorem CE(x:ag):bR (.str x)=some (cS x):=rfl
theorem Vc(k:IntKind)(x:Int):bR (.int k x)=some (cI k x):=rfl
theorem Vb(l:List PVal):bR (.agg l)=some l:=rfl
theorem Tu(x:ag):∀q∈cS x,q.one=true:=by intro q hq;simp[cS]at hq;subst hq;rfl
theorem Tt(k:IntKind)(x:Int):∀q∈cI k x,q.one=true:=by intro q hq;simp[cI]at hq;subst hq;rfl
def dj:Code->List Bool->Code
 |c,[]=>c
 |.seq a b,x::l=>match x with|false=>dj a l|true=>dj b l
 |.cond _ a b,x::l=>match x with|false=>dj a l|true=>dj b l
 |.block _ c,_::l=>dj c l
 |.loop c,_::l=>dj c l
 |c,_=>c
section
variable{P:Program}{T e:TypeId}{α:Type}{c:α->List PVal}
theorem pY.ia(s:pY P T e c){l:List α}{i:Int}{k:IntKind}{x:α}(h:dv l i=some x):fL P T (sl c l) (.int k i)=some (.eptr (c x)):=by
 obtain⟨h0,h1⟩:=zT h
 unfold sl fL
 simp only[s.hu,vaj h0,vax,h1,vaf]
 rw[vaj ⟨s.hc x,s.hi⟩]
theorem pY.ln(s:pY P T e c)(l:List α):∀H,vI P T (sl c l) H=some (.int .i64 (l.length:Int)):=fun H=>by
 unfold sl vI;simp only[s.hu,vaC]
theorem DO{o:Option Int}{d n:Nat}{k:IntKind}(h:bd o d=some n):BX (o.map (PVal.int k)) d=some n:=by
 cases o with
 |none=>exact h
 |some i=>exact h
theorem pY.sc(s:pY P T e c){l r:List α}{lo hi:Option Int}(h:IK l lo hi=some r):rl P T (sl c l) (lo.map (PVal.int .i64)) (hi.map (PVal.int .i64)) none=some (sl c r):=by
 unfold IK at h
 split at h
 ·rename_i a b h1 h2
  split at h
  ·rename_i hb
   cases h
   unfold sl rl
   simp only[s.hu,DO h1]
   rw[show(l.map c).length=l.length by simp,DO h2]
   simp only
   have hx:∀x∈(l.map c).take 1,x.length=P.cellsOf e:=fun x hx=>by
    obtain⟨y,_,rfl⟩:=vaq.1 (List.mem_of_mem_take hx)
    exact s.hc y
   rw[vaj ⟨hb.1,hb.2,s.hi,hx⟩,List.map_drop,List.map_take]
  ·cases h
 ·cases h
theorem pY.ap(s:pY P T e c){l r z:List α}(h:app l r=some z):iv P T (l.map c) (r.map c)=some (sl c z):=by
 unfold app at h
 split at h
 ·cases h
  unfold iv sl
  simp only[s.hu,vaC]
  have h1:∀x∈l.map c,x.length=P.cellsOf e:=fun x hx=>by obtain⟨y,_,rfl⟩:=vaq.1 hx;exact s.hc y
  have h2:∀x∈r.map c,x.length=P.cellsOf e/\∀q∈x,q.one=true:=fun x hx=>by obtain⟨y,_,rfl⟩:=vaq.1 hx;exact⟨s.hc y,s.ho y⟩
  rw[vaj ⟨‹_›,s.hb,s.hp,s.hz,h1,h2⟩,vbG]
 ·cases h
theorem Hj{v:α->PVal}{sz:Nat}(hv:∀x,bR (v x)=some (c x))(hc:∀x,(c x).length=sz):∀(l:List α) (i:Nat),vG sz i ((l.map v).zipIdx i|>.map fun x=>(x.2,x.1))=some (l.map c)
 |[],i=>by simp[vG]
 |x::l,i=>by
  have ih:=Hj hv hc l (i+1)
  simp only[vaz,List.zipIdx_cons,vG,hv x]
  simp[ih,hc x]
theorem pY.mk'(s:pY P T e c){v:α->PVal}(hv:∀x,bR (v x)=some (c x))(l:List α)(n:Nat)(hn:(decide (l.length=n)&&decide (n * P.cellsOf e<=16777216))=true):
  d6 P T n ((l.map v).zipIdx 0|>.map fun x=>(x.2,x.1))=some (sl c l):=by
 simp only[vae,vai]at hn
 unfold d6 sl
 simp only[s.hu,Hj hv s.hc]
 have hz:(iV P e).isSome=true:=by
  cases h:iV P e with
  |none=>have:=s.hz;rw[h]at this;cases this
  |some z=>rfl
 rw[vaj ⟨by simpa using hn.1,hz,s.hp,hn.2,s.hz⟩]
theorem qB{t:TypeId}(h:P.underlying t=some .string){s:ag}{i:Int}{k:IntKind}{x:Int}(hx:wP s i=some x):tH P t (.str s) (.int k i)=some (.int .u8 x):=by
 unfold wP at hx
 cases hi:dv s i with
 |none=>rw[hi]at hx;cases hx
 |some b=>
  rw[hi]at hx;cases hx
  obtain⟨h0,h1⟩:=zT hi
  unfold tH
  simp only[h,vaj h0,h1,vaf]
theorem RJ{β:Type}{t e:TypeId}{n:Nat}{v:β->PVal}{l:List β}(h:P.underlying t=some (.array n e))(h1:P.cellsOf e=1)(h2:(P.info? e).isSome=true)(h3:(P.underlying e).any Oy=true)(h4:decide (l.length=n)=true)
  {k:IntKind} {i:Int} {x:β} (hx:dv l i=some x):tH P t (.agg (l.map v)) (.int k i)=some (v x):=by
 obtain⟨h0,hx⟩:=zT hx
 have hlt:i.toNat<l.length:=(vcd.1 hx).1
 have hl:l.length=n:=by simpa using h4
 unfold tH
 simp only[h]
 rw[vaj ⟨h0,by omega,h2⟩,h1,vb7,vbm (by simpa using hlt)]
 rw[cP h3]
 simp only[List.getElem_map]
 rw[vab hlt]at hx
 cases hx;rfl
theorem sA{t:TypeId}(h:P.underlying t=some .string)(s:ag):∀H,vI P t (.str s) H=some (.int .i64 (s.length:Int)):=fun H=>by unfold vI;simp only[h]
theorem Qh{t:TypeId}(ht:P.underlying t=some .string){l r:ag}{lo hi:Option Int}(h:IK l lo hi=some r):rl P t (.str l) (lo.map (PVal.int .i64)) (hi.map (PVal.int .i64)) none=some (.str r):=by
 unfold IK at h
 split at h
 ·rename_i a b h1 h2
  split at h
  ·rename_i hb
   cases h
   unfold rl
   simp only[ht,DO h1,DO h2]
   rw[vaj hb]
  ·cases h
 ·cases h
theorem IM{t:TypeId}{a b z:ag}(h:QL a b=some z):E8 P .add t (.str a) (.str b)=some (.str z):=by
 unfold QL at h
 unfold E8 PJ
 split at h
 ·cases h;simp only;rw[vaj ‹_›]
 ·cases h
theorem RZ{t:TypeId}{k:IntKind}{a b z:Int}(h:qu k a b=some z):E8 P .quo t (.int k a) (.int k b)=some (.int k z):=by
 unfold qu at h
 split at h
 ·cases h
 ·rename_i hb;cases h;simp only[E8,Oh,if_true,van hb]
theorem R0{t:TypeId}{k:IntKind}{a b z:Int}(h:re a b=some z):E8 P .rem t (.int k a) (.int k b)=some (.int k z):=by
 unfold re at h
 split at h
 ·cases h
 ·rename_i hb;cases h;simp only[E8,Oh,if_true,van hb]
theorem UX{s d:TypeId}{k k':IntKind}(h1:P.underlying s=some (.int k))(h2:P.underlying d=some (.int k'))(n:Int):CF P s d (.int k n)=some (.int k' (k'.wrap n)):=by simp only[CF,h1,h2]
def pe:List Int->Option ag
 |[]=>some []
 |n::r=>if 0<=n/\n<256 then(pe r).map (UInt8.ofNat n.toNat::·)else none
theorem Fa:∀(l:List Int),tG (l.map (cI .u8))=pe l
 |[]=>rfl
 |n::r=>by simp only[vaz,cI,tG,pe];rw[<-Fa r]
theorem UW{s d e:TypeId}(h1:P.underlying s=some (.slice e))(h2:P.underlying d=some .string)(h3:P.underlying e=some (.int .u8)){l:List Int}{r:ag}(h:pe l=some r):CF P s d (sl (cI .u8) l)=some (.str r):=by
 unfold sl CF
 simp only[h1,h2,h3,Fa,h,vaf]
theorem yZ{f:α->PVal}(k:ag):∀(m:List (ag×α)) (i:Nat),vH (.str k) (uz f m) i=some (match tz m k with
  |none=>none
  |some v=>some (i+(m.findIdx fun e=>k==e.1),f v))
 |[],i=>by simp[uz,vH,tz]
 | e :: m,i => by
  have ih:=yZ (f:=f) k m (i+1)
  unfold uz at ih ⊢
  simp only[vaz,vH,IB]
  unfold tz at ih ⊢
  by_cases h:(k==e.1)=true
  ·simp[h,vbT]
  ·have h':(k==e.1)=false:=by simpa using h
   simp only[h',List.find?_cons,ih,vbT]
   cases hm:(List.find? (fun e=>k==e.1) m)with
   |none=>simp
   |some v=>simp;omega
theorem KQ{t kt et:TypeId}{f:α->PVal}(h1:P.underlying t=some (.map kt et))(h2:P.underlying kt=some .string){z:α}(hz:B4 P et=some (f z))(m:List (ag×α))(k:ag):
  Fg P t (uz f m) (.str k) false=some (f ((tz m k).getD z)):=by
 unfold Fg
 simp only[h1,h2,j6,if_true,yZ]
 cases tz m k with
 |none=>simp[hz]
 |some v=>simp
theorem LG(f:α->PVal)(k:ag)(v:α):∀(m:List (ag×α)),uz f (wQ m k v)=match tz m k with
  |none=>uz f m++[(.str k,f v)]
  |some _=>(uz f m).set (m.findIdx fun e=>k==e.1) (.str k,f v)
 |[]=>by simp[wQ,tz,uz]
 | e :: m => by
  have ih:=LG f k v m
  unfold tz at ih ⊢
  unfold uz at ih ⊢
  by_cases h:(k==e.1)=true
  ·simp[wQ,h,vbT]
  ·have h':(k==e.1)=false:=by simpa using h
   simp only[wQ,h',List.find?_cons,vbT,vaz]
   simp only[vaP,if_false,vaz,ih]
   cases(List.find? (fun e=>k==e.1) m)with
   |none=>simp
   |some v=>simp
theorem N0{t kt et:TypeId}{f:α->PVal}(h1:P.underlying t=some (.map kt et))(h2:P.underlying kt=some .string)(m:List (ag×α))(k:ag)(v:α):
  Hk P t (uz f m) (.str k) (f v)=some (uz f (wQ m k v)):=by
 unfold Hk
 simp only[h1,h2,j6,if_true,yZ,LG]
 cases tz m k with
 |none=>simp
 |some w=>simp
end
end Go.Proofs.YtggeppllafbidaaGreatDoor
