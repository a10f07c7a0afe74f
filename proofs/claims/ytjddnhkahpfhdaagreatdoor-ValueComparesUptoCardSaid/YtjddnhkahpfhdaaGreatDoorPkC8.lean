/- PROVED: a part of the proof. Conditions: none. -/
import Derived.Test.YtjddnhkahpfhdaaGreatDoorPkC7
import Derived.Deep.Draws
import Derived.Sort.Grow
import Derived.Lib.LaidTab
import Derived.WalkKit
import Derived.ProofKit
import Derived.OpenShut
import Derived.Below
import Derived.ChangeSame
import Derived.SliceStrings
import Derived.ChangeMaps5
import Derived.WideKeyArgs
import Derived.LaidLaws
set_option linter.unusedSimpArgs false
set_option linter.unusedVariables false
noncomputable section
namespace Go.Proofs.YtjddnhkahpfhdaaGreatDoor
open Go
mutual

def PVal.no(i:Nat):PVal->Prop
 |.undef|.int _ _|.bool _|.str _|.val _=>True
 |.agg cs=>J2 i cs
 |.tuple cs=>J2 i cs
 |.slice es=>DV i es
 |.eptr cs=>J2 i cs
 |.bptr j _=>j≠i
 |.bsl j _ _=>j≠i
 |.mapr j=>j≠i
 |.nptr j _=>j≠i
 |.func _ f c=>J2 i f/\J2 i c
def J2(i:Nat):List PVal->Prop
 |[]=>True
 |p::ps=>p.no i/\J2 i ps
def DV(i:Nat):List (List PVal)->Prop
 |[]=>True
 |p::ps=>J2 i p/\DV i ps
end
mutual
theorem DW(i:Nat):∀(p:PVal),p.cl 0->p.no i
 |.undef,_=>by simp[PVal.no]
 |.int _ _,_=>by simp[PVal.no]
 |.bool _,_=>by simp[PVal.no]
 |.str _,_=>by simp[PVal.no]
 |.val _,_=>by simp[PVal.no]
 |.agg cs,h=>by simp only[PVal.cl]at h;simp only[PVal.no];exact li i cs h
 |.tuple cs,h=>by simp only[PVal.cl]at h;simp only[PVal.no];exact li i cs h
 |.slice es,h=>by simp only[PVal.cl]at h;simp only[PVal.no];exact xE i es h
 |.eptr cs,h=>by simp only[PVal.cl]at h;simp only[PVal.no];exact li i cs h
 |.bptr j _,h=>by simp only[PVal.cl]at h;omega
 |.bsl j _ _,h=>by simp only[PVal.cl]at h;omega
 |.mapr j,h=>by simp only[PVal.cl]at h;omega
 |.nptr j _,h=>by simp only[PVal.cl]at h;omega
 |.func _ f c,h=>by simp only[PVal.cl]at h;simp only[PVal.no];exact⟨li i f h.1,li i c h.2⟩
theorem li(i:Nat):∀(l:List PVal),dU 0 l->J2 i l
 |[],_=>by simp[J2]
 |p::l,h=>by simp only[dU]at h;simp only[J2];exact⟨DW i p h.1,li i l h.2⟩
theorem xE(i:Nat):∀(l:List (List PVal)),lV 0 l->DV i l
 |[],_=>by simp[DV]
 |p::l,h=>by simp only[lV]at h;simp only[DV];exact⟨li i p h.1,xE i l h.2⟩
end
theorem lM{n:Nat}:∀{l:List PVal} {i:Nat} {p:PVal},J2 n l->l[i]? =some p->p.no n
 |[],i,p,_,h=>by simp at h
 |q::l,0,p,h,hp=>by simp at hp;subst hp;simp only[J2]at h;exact h.1
 |q::l,i+1,p,h,hp=>by simp only[J2]at h;exact lM h.2 (by simpa using hp)
theorem yV{n:Nat}:∀{l:List (List PVal)} {i:Nat} {p:List PVal},DV n l->l[i]? =some p->J2 n p
 |[],i,p,_,h=>by simp at h
 |q::l,0,p,h,hp=>by simp at hp;subst hp;simp only[DV]at h;exact h.1
 |q::l,i+1,p,h,hp=>by simp only[DV]at h;exact yV h.2 (by simpa using hp)
theorem VR.noi{Γ:ax}{bs bs':bp}{w:World}{p:PVal}{v:Value}{n:Nat}(h:VR Γ bs w p v)(hc:p.no n)
  (hb:∀(i b:Nat),i≠n->bs[i]? =some (some b)->bs'[i]? =some (some b)):VR Γ bs' w p v:=by
 induction h with
 |undef v=>exact .undef v
 |int k n=>exact .int k n
 |bool b=>exact .bool b
 |str l=>exact .str l
 |val v=>exact .val v
 |agg cs vs hl _ ih=>simp only[PVal.no]at hc;exact .agg cs vs hl λi p v hp hv=>ih i p v hp hv (lM hc hp)
 |tuple cs vs hl _ ih=>simp only[PVal.no]at hc;exact .tuple cs vs hl λi p v hp hv=>ih i p v hp hv (lM hc hp)
 |sliceNil=>exact .sliceNil
 |sliceE a cap=>exact .sliceE a cap
 |slice es b off cap n sz vals h0 hcap hg hn hsz hcc _ ih=>
  simp only[PVal.no]at hc
  exact .slice es b off cap n sz vals h0 hcap hg hn hsz hcc λi e k p he hp=>ih i e k p he hp (lM (yV hc he) hp)
 |eptrE b off=>exact .eptrE b off
 |bsl i off k x cap hcap hnil h=>simp only[PVal.no]at hc;exact .bsl i off k x cap hcap hnil (h.imp_right λ⟨b,h1,h2⟩=>⟨b,h1,hb i b hc h2⟩)
 |eptr cs b off n vals hg hn hcc _ ih=>
  simp only[PVal.no]at hc
  exact .eptr cs b off n vals hg hn hcc λk p hp=>ih k p hp (lM hc hp)
 |bptr i off b h=>simp only[PVal.no]at hc;exact .bptr i off b (hb i b hc h)
 |mapr i b h=>simp only[PVal.no]at hc;exact .mapr i b (hb i b hc h)
 |nptrN i T=>exact .nptrN i T
 |nptr i b T h=>simp only[PVal.no]at hc;exact .nptr i b T (hb i b hc h)
 |func fn first cap fs cs hl hl' _ _ ih ih'=>
  simp only[PVal.no]at hc
  exact .func fn first cap fs cs hl hl' (λi p v hp hv=>ih i p v hp hv (lM hc.1 hp)) (λi p v hp hv=>ih' i p v hp hv (lM hc.2 hp))
inductive Fz(i:Nat)(es:List (List PVal)):PVal->PVal->Prop where
 |u (p:PVal):Fz i es p .undef
 |k (p:PVal) (h:p.no i):Fz i es p p
 |s (n:Nat) (h:n=es.length):Fz i es (.bsl i 0 n) (.slice es)
 |b (off:Nat):Fz i es (.bptr i off) (.eptr (es.flatten.drop off))
 |f (fn:Fn) (f c f' c':List PVal) (hl:f.length=f'.length) (hl':c.length=c'.length) (h:∀(j:Nat) p q,f[j]? =some p->f'[j]? =some q->Fz i es p q) (h':∀(j:Nat) p q,c[j]? =some p->c'[j]? =some q->Fz i es p q):Fz i es (.func fn f c) (.func fn f' c')
def Lu(i:Nat)(es:List (List PVal)):List PVal->List PVal->Prop
 |[],[]=>True
 |p::ps,q::qs=>Fz i es p q/\Lu i es ps qs
 |_,_=>False
inductive Sa(i:Nat)(es:List (List PVal)):av->av->Prop where
 |d (B:av):Sa i es B .dead
 |c (cs cs':List PVal) (own:List (Nat×TypeId)) (h:Lu i es cs cs'):Sa i es (.cells cs own) (.cells cs' own)
 |k (cs:List PVal) (own:List (Nat×TypeId)) (h:J2 i cs):Sa i es (.cells cs own) (.cells cs own)
 |m (l:List (PVal×PVal)) (h:∀x∈l,x.1.no i/\x.2.no i):Sa i es (.map l) (.map l)
def EP(i:Nat)(es:List (List PVal)):List av->List av->Prop
 |[],[]=>True
 |p::ps,q::qs=>Sa i es p q/\EP i es ps qs
 |_,_=>False
theorem Lu.len{i:Nat}{es:List (List PVal)}:∀{l r:List PVal},Lu i es l r->l.length=r.length
 |[],[],_=>rfl
 |[],_::_,h=>h.elim
 |_::_,[],h=>h.elim
 |_::_,_::_,h=>by simp[Lu.len h.2]
theorem Lu.get{i:Nat}{es:List (List PVal)}:∀{l r:List PVal},Lu i es l r->∀{j:Nat} {p q},l[j]? =some p->r[j]? =some q->Fz i es p q
 |[],[],_,j,p,q,hp,_=>by simp at hp
 |[],_::_,h,_,_,_,_,_=>h.elim
 |_::_,[],h,_,_,_,_,_=>h.elim
 |_::_,_::_,h,0,p,q,hp,hq=>by simp at hp hq;subst hp;subst hq;exact h.1
 |_::_,_::_,h,j+1,p,q,hp,hq=>Lu.get h.2 (j:=j) (by simpa using hp) (by simpa using hq)
theorem EP.len{i:Nat}{es:List (List PVal)}:∀{l r:List av},EP i es l r->l.length=r.length
 |[],[],_=>rfl
 |[],_::_,h=>h.elim
 |_::_,[],h=>h.elim
 |_::_,_::_,h=>by simp[EP.len h.2]
theorem EP.get{i:Nat}{es:List (List PVal)}:∀{l r:List av},EP i es l r->∀{j:Nat} {p q},l[j]? =some p->r[j]? =some q->Sa i es p q
 |[],[],_,j,p,q,hp,_=>by simp at hp
 |[],_::_,h,_,_,_,_,_=>h.elim
 |_::_,[],h,_,_,_,_,_=>h.elim
 |_::_,_::_,h,0,p,q,hp,hq=>by simp at hp hq;subst hp;subst hq;exact h.1
 |_::_,_::_,h,j+1,p,q,hp,hq=>EP.get h.2 (j:=j) (by simpa using hp) (by simpa using hq)
def FZ(m i:Nat)(es:List (List PVal))(st st':az):Prop:=
 ((m % 1000<=i)/\∃sz,0<sz/\∀x∈es,x.length=sz)/\DV i es/\(∃own,st.boxes[i]? =some (.cells es.flatten own))/\st'.boxes[i]? =some .dead/\Lu i es st.tmps st'.tmps/\EP i es st.boxes st'.boxes/\∀x∈st'.own,x∈st.own
theorem rQ{sz:Nat}:∀{es:List (List PVal)},(∀x∈es,x.length=sz)->∀{i k:Nat} {e:List PVal} {p:PVal},es[i]? =some e->e[k]? =some p->es.flatten[i * sz+k]? =some p
 |[],_,i,k,e,p,h,_=>by simp at h
 |x::es,hl,0,k,e,p,h,hp=>by
  simp at h;subst h
  rw[List.flatten_cons,vcz,vaG,vac (ag hp)]
  exact hp
 |x::es,hl,i+1,k,e,p,h,hp=>by
  have hx:=hl x (by simp)
  rw[List.flatten_cons,vad (by rw[hx,vaN];omega),hx,show(i+1) * sz+k - sz=i * sz+k by rw[vaN];omega]
  exact rQ (λy hy=>hl y (by simp[hy])) (by simpa using h) hp
theorem FZ.weak{P:Program}{m i:Nat}{es:List (List PVal)}{st st':az}(h:FZ m i es st st'):oQ P m st st':=by
 obtain⟨⟨hm,sz,hsz0,hsz⟩,hno,hBi,hBi',htm,hbx,how⟩:=h
 obtain⟨bown,hB⟩:=hBi
 have hB':=hBi'
 intro E bs0 a w hb0 hR
 obtain⟨Γ,bs,ow,hS,hk⟩:=hR
 have hil:i<bs.length:=by rw[hS.bl];exact ag hB
 obtain⟨x,hx⟩:∃x,bs[i]? =some x:=⟨_,vaa hil⟩
 have hsub:∀(j b:Nat),j≠i->bs[j]? =some (some b)->(bs.set i none)[j]? =some (some b):=λj b hj hb=>by rw[vap (λe=>hj e.symm)];exact hb
 have hback:∀{j b:Nat},(bs.set i none)[j]? =some (some b)->j≠i/\bs[j]? =some (some b):=λ{j b} hb=>by
  by_cases hj:j=i
  ·subst hj;rw[vag hil]at hb;cases hb
  ·rw[vap (λe=>hj e.symm)]at hb;exact⟨hj,hb⟩
 obtain ⟨Γ',hle,hwi,hΓ,hslice,hkeep,hptr⟩:∃ Γ':ax,Γ.Le w Γ' w∧(∀ b n,Γ' b = some n→∃ c t fr,w.heap[b]? = some (.cells c t fr)∧n ≤ c.size)∧(∀ b,bs[i]? ≠ some (some b)→Γ' b = Γ b) ∧
   (∀n v,n=es.length->VR Γ bs w (.bsl i 0 n) v->VR Γ' (bs.set i none) w (.slice es) v)/\(∀b n,Γ b=some n->Γ' b=some n)/\(∀off v,VR Γ bs w (.bptr i off) v->VR Γ' (bs.set i none) w (.eptr (es.flatten.drop off)) v):=by
  cases x with
  | none =>
   refine⟨Γ,.refl _ _,hS.wi,λ_ _=>rfl,λn v hn hv=>?_,λ_ _ h=>h,λoff v hv=>by cases hv with|bptr _ _ b hb=>rw[hx]at hb;cases hb⟩
   cases hv with
   | bsl _ _ _ x cap hcap hnil hxb =>
    have hes:es=[]:=by
     rcases hxb with h0|⟨b,_,hb⟩
     ·exact vai (by omega)
     ·rw[hx]at hb;cases hb
    subst hes
    have hn0:n=0:=hn
    subst hn0
    cases x with
    |none=>rw[hnil rfl];exact .sliceNil
    |some ad=>exact .sliceE ad cap
  | some b =>
   obtain⟨hg,hlt,c,t,hheap,hcs,hcv,_⟩:=hS.bx i b _ hx hB
   have hflen:=flat_len hsz
   have hle:Γ.Le w (Γ.put b es.flatten.length) w:=λb' n hb' _=>⟨n,(Γ.put_other (λe=>by subst e;rw[hg]at hb';cases hb')).trans hb',vaj _,λ_ _=>rfl⟩
   refine⟨Γ.put b es.flatten.length,hle,λb' n hb'=>?_,λb' hb'=>Γ.put_other (λe=>hb' (by rw[e];exact hx)),λn v hn hv=>?_,λb' n hb'=>(Γ.put_other (λe=>by subst e;rw[hg]at hb';cases hb')).trans hb',λoff v hv=>?_⟩
   ·by_cases hbb:b'=b
    ·subst hbb;rw[Γ.put_same]at hb';cases hb';exact⟨c,t,_,hheap,hcs⟩
    ·rw[Γ.put_other hbb]at hb';exact hS.wi b' n hb'
   ·cases hv with
    | bsl _ _ _ x cap hcap hnil hxb =>
     rcases hxb with h0|⟨b',hxb,hb'⟩
     ·subst h0
      have hes:es=[]:=vai hn.symm
      subst hes
      cases x with
      |none=>rw[hnil rfl];exact .sliceNil
      |some ad=>exact .sliceE ad cap
     ·rw[hx]at hb';cases hb'
      subst hxb;subst hn
      refine kO hheap (Γ.put_same _ _) (by rw[hflen];exact vaj _) hsz0 hcap (λi x hx=>hsz x (vaq hx)) λj x k q hxj hq=>?_
      have hfa:=rQ hsz hxj hq
      have hlt2:j * sz+k<c.size:=vaF (ag hfa) hcs
      exact⟨c[j * sz+k],by simp[hlt2],((hcv _ _ _ hfa (by simp[hlt2])).noi (lM (yV hno hxj) hq) hsub).mono hle (.refl _)⟩
   ·cases hv with
    | bptr _ _ b' hb' =>
     rw[hx]at hb';cases hb'
     by_cases hoff:off<=es.flatten.length
     ·have hget:∀(k:Nat) q,(es.flatten.drop off)[k]? =some q->es.flatten[off+k]? =some q/\off+k<c.size:=λk q hq=>by
       rw[va6]at hq
       exact⟨hq,vaF (ag hq) hcs⟩
      refine .eptr _ b off es.flatten.length (λk=>c.getD (off+k) undef) (Γ.put_same _ _) (by rw[vbf];omega) (λk q hq=>?_) (λk q hq=>?_)
      ·obtain⟨h1,h2⟩:=hget k q hq
       rw[cell_of_row w b _ c t _ hheap]
       simp[vaB,h2]
      ·obtain⟨h1,h2⟩:=hget k q hq
       have hc1:c[off+k]? =some (c.getD (off+k) undef):=by simp[vaB,h2]
       have hnq:q.no i:=by
        obtain⟨y,hy1,hy2⟩:=DC hsz0 hsz h1
        exact lM (yV hno hy1) hy2
       exact((hcv _ _ _ h1 hc1).noi hnq hsub).mono hle (.refl _)
     ·rw[List.drop_of_length_le (by omega)];exact .eptrE _ _
 have fz:∀{p q:PVal} {v:Value},Fz i es p q->VR Γ bs w p v->VR Γ' (bs.set i none) w q v:=by
  intro p q v hf
  induction hf generalizing v with
  |u p=>exact λ_=>.undef _
  |k p h=>exact λhv=>(hv.noi h hsub).mono hle (.refl _)
  |s n h=>exact λhv=>hslice n _ h hv
  |b off=>exact λhv=>hptr off _ hv
  | f fn f c f' c' hl hl' h h' ih ih' =>
   intro hv
   cases hv with
   | func _ _ _ fs cs k1 k2 k3 k4 =>
    refine .func fn f' c' fs cs (by omega) (by omega) (λj q u hq hu=>?_) (λj q u hq hu=>?_)
    ·have hj:=ag hq
     have hp:=vaa (l:=f) (i:=j) (by omega)
     exact ih j _ q hp hq (k3 j _ u hp hu)
    ·have hj:=ag hq
     have hp:=vaa (l:=c) (i:=j) (by omega)
     exact ih' j _ q hp hq (k4 j _ u hp hu)
 have hown:∀{v:Value} {e:TypeId},cR P Γ w v e->cR P Γ' w v e:=by
  intro v e ho
  obtain⟨n,xs,o1,o2⟩:=ho
  exact⟨n,xs,o1,λb hb=>hkeep b _ (o2 b hb)⟩
 have hmem:∀y∈st'.own,y∈st.own:=how
 have hbnot:∀{j b:Nat},j≠i->bs[j]? =some (some b)->bs[i]? ≠some (some b):=λhj hb hbi=>hj (hS.inj _ _ _ hb hbi)
 refine⟨Γ',bs.set i none,ow,?_,λj hj=>?_⟩
 ·exact{
   wi:=hwi
   sz:=by rw[hS.sz];exact htm.len
   tm:=λt q v hq hv=>by
    have hl:=htm.len
    have ht:=ag hq
    have hp:=vaa (l:=st.tmps) (i:=t) (by omega)
    exact fz (htm.get hp hq) (hS.tm t _ v hp hv)
   bl:=by rw[vcA,hS.bl];exact hbx.len
   bx:=λj b C hb hC=>by
    obtain⟨hj,hb⟩:=hback hb
    have hl:=hbx.len
    have hjl:=ag hC
    have hp:=vaa (l:=st.boxes) (i:=j) (by omega)
    obtain⟨h1,h2,h3⟩:=hS.bx j b _ hb hp
    refine⟨(hΓ b (hbnot hj hb)).trans h1,h2,?_⟩
    have hf:=hbx.get hp hC
    generalize st.boxes[j]=B0 at hf h3
    cases hf with
    |d B=>trivial
    | c cs cs' own h =>
     obtain⟨c,t,e1,e2,e3,e4⟩:=h3
     have hlen:=h.len
     refine⟨c,t,e1,by rw[<-h.len];exact e2,λk q v hq hv=>?_,λk i2 T2 hq=>?_⟩
     ·have hk:=ag hq
      have hpk:=vaa (l:=cs) (i:=k) (by omega)
      exact fz (h.get hpk hq) (e3 k _ v hpk hv)
     ·have hk:=ag hq
      have hpk:=vaa (l:=cs) (i:=k) (by omega)
      have hz:=h.get hpk hq
      generalize cs[k]=p0 at hpk hz
      cases hz
      have:=e4 k i2 T2 hpk
      exact⟨this.1,by omega⟩
    |k cs own h=>
     obtain⟨c,t,e1,e2,e3,e4⟩:=h3
     exact⟨c,t,e1,e2,λk q v hq hv=>((e3 k q v hq hv).noi (lM h hq) hsub).mono hle (.refl _),e4⟩
    |m l h=>
     obtain⟨c,t,e1,e2,e3,e4⟩:=h3
     refine⟨c,t,e1,e2,λk q u y hq hy=>?_,e4⟩
     obtain⟨n1,n2⟩:=h _ (vaq hq)
     obtain⟨v1,v2⟩:=e3 k q u y hq hy
     exact⟨(v1.noi n1 hsub).mono hle (.refl _),(v2.noi n2 hsub).mono hle (.refl _)⟩
   inj:=λj k b hj hk'=>hS.inj j k b (hback hj).2 (hback hk').2
   bn:=λj b hb=>hS.bn j b (hback hb).2
   on:=hS.on
   ot:=λt k e he=>by
    obtain⟨u,v,h1,h2,h3,h4⟩:=hS.ot t k e (hmem _ he)
    exact⟨u,v,h1,h2,hown h3,h4⟩
   ob:=λj k e cs own b hC hk' hb=>by
    obtain⟨hj,hb⟩:=hback hb
    have hl:=hbx.len
    have hjl:=ag hC
    have hp:=vaa (l:=st.boxes) (i:=j) (by omega)
    have hf:=hbx.get hp hC
    generalize hB0:st.boxes[j]=B0 at hf hp
    cases hf with
    |c cs0 _ _ h=>
     obtain⟨v,h1,h2,h3⟩:=hS.ob j k e cs0 own b hp hk' hb
     exact⟨v,h1,hown h2,h3⟩
    |k _ _ h=>
     obtain⟨v,h1,h2,h3⟩:=hS.ob j k e cs own b hp hk' hb
     exact⟨v,h1,hown h2,h3⟩
   gl:=λg cs hg=>((hS.gl g cs hg).mono hle (.refl _)).restrict (n:=0) (by simp only[PVal.cl];exact hS.gc g cs hg) (λi b hi _=>absurd hi (va8 _))
   gc:=hS.gc
   gx:=hS.gx
   step:={hS.step with
    keep:=λb hb hT=>by
     obtain⟨k1,k2⟩:=hS.step.keep b hb hT
     refine⟨k1,(hΓ b λhbi=>?_).trans k2⟩
     rcases hS.bn i b hbi with h1|h1
     ·exact hT h1
     ·omega
    le:=hS.step.le.trans hle}}
 ·rw[vap (by omega)]
  exact hk j hj
def Ua(i:Nat)(es:List (List PVal)):PVal->(PVal->Prop)->Prop
 |.undef,k=>k .undef
 |.int a n,k=>k (.int a n)
 |.bool b,k=>k (.bool b)
 |.str s,k=>k (.str s)
 |.val v,k=>k (.val v)
 |.bptr j off,k=>match j==i with
  |true=>aR (es.flatten.drop off) λl=>k (.eptr l)
  |false=>k (.bptr j off)
 | .bsl j off n,k => match j == i with
  |true=>match off with
   |0=>n=es.length/\k (.slice es)
   |_+1=>False
  |false=>k (.bsl j off n)
 |.mapr j,k=>match j==i with
  |true=>False
  |false=>k (.mapr j)
 |.nptr j T,k=>match j==i with
  |true=>False
  |false=>k (.nptr j T)
 |p,k=>p.no i/\k p
def HC(i:Nat)(es:List (List PVal)):List PVal->(List PVal->Prop)->Prop
 |[],k=>k []
 |p::ps,k=>match p with
  |.func fn f c=>fzF i es f λf'=>fzF i es c λc'=>HC i es ps λl=>k (.func fn f' c'::l)
  |p=>Ua i es p λq=>HC i es ps λl=>k (q::l)
where
 fzF (i:Nat) (es:List (List PVal)):List PVal->(List PVal->Prop)->Prop
  |[],k=>k []
  |p::ps,k=>Ua i es p λq=>fzF i es ps λl=>k (q::l)
def Tu(i:Nat)(es:List (List PVal))(lv:List Nat):Nat->List PVal->(List PVal->Prop)->Prop
 |_,[],k=>k []
 | n,p :: ps,k => match lv.contains n with
  |true=>match p with
   |.func fn f c=>HC.fzF i es f λf'=>HC.fzF i es c λc'=>Tu i es lv (n+1) ps λl=>k (.func fn f' c'::l)
   |p=>Ua i es p λq=>Tu i es lv (n+1) ps λl=>k (q::l)
  |false=>Tu i es lv (n+1) ps λl=>k (.undef::l)
def QS(i:Nat)(es:List (List PVal))(rk:List Nat):Nat->List av->(List av->Prop)->Prop
 |_,[],k=>k []
 | n,B :: Bs,k => match n == i with
  |true=>QS i es rk (n+1) Bs λl=>k (.dead::l)
  | false => match B with
   |.dead=>QS i es rk (n+1) Bs λl=>k (.dead::l)
   |.cells cs own=>match rk.contains n with
    |true=>J2 i cs/\QS i es rk (n+1) Bs λl=>k (.cells cs own::l)
    |false=>HC i es cs λcs'=>QS i es rk (n+1) Bs λl=>k (.cells cs' own::l)
   |.map m=>(∀x∈m,x.1.no i/\x.2.no i)/\QS i es rk (n+1) Bs λl=>k (.map m::l)
def OR(es:List (List PVal)):av->Prop
 |.cells cs _=>cs=es.flatten
 |_=>False
theorem OS{es:List (List PVal)}{H:List av}{i:Nat}(h:iT H i (OR es)):∃own,H[i]? =some (.cells es.flatten own):=by
 obtain⟨B,hB,h⟩:=cJ h
 unfold OR at h
 split at h
 ·subst h;exact⟨_,hB⟩
 ·exact h.elim
def Ku(m:Nat):List It->az->(List It->az->Prop)->Prop
 |.fz i es lv rk::sc',st,k=>((m % 1000<=i)/\∃sz,0<sz/\∀x∈es,x.length=sz)/\DV i es/\iT st.boxes i (OR es)/\Tu i es lv 0 st.tmps λtm=>QS i es rk 0 st.boxes λH=>aR (st.own.filter λx=>lv.contains x.1.1) λow=>Ku m sc' ⟨tm,H,ow⟩ k
 |.sh t kk e::sc',st,k=>mr st.tmps t λp=>match p,decide (0<kk)&&decide (((t,0),e)∈st.own)with
  |.slice _,true=>aR (((t,kk),e)::st.own.filter λx=>x.1 !=(t,0)) λow=>Ku m sc' ⟨st.tmps,st.boxes,ow⟩ k
  |_,_=>False
 |sc,st,k=>k sc st
theorem Kv{i:Nat}{es:List (List PVal)}{p:PVal}{k:PVal->Prop}(h:Ua i es p k):∃q,Fz i es p q/\k q:=by
 unfold Ua at h
 split at h
 ·exact⟨_,.u _,h⟩
 ·exact⟨_,.k _ (by simp[PVal.no]),h⟩
 ·exact⟨_,.k _ (by simp[PVal.no]),h⟩
 ·exact⟨_,.k _ (by simp[PVal.no]),h⟩
 ·exact⟨_,.k _ (by simp[PVal.no]),h⟩
 ·rename_i j off
  split at h
  ·rename_i hj
   simp only[vaY]at hj
   subst hj
   rw[aA]at h
   exact⟨_,.b _,h⟩
  ·rename_i hj
   exact⟨_,.k _ (by simpa[PVal.no]using hj),h⟩
 ·rename_i j off n
  split at h
  ·rename_i hj
   simp only[vaY]at hj
   subst hj
   split at h
   ·exact⟨_,.s _ h.1,h.2⟩
   ·exact h.elim
  ·rename_i hj
   exact⟨_,.k _ (by simpa[PVal.no]using hj),h⟩
 ·rename_i j
  split at h
  ·exact h.elim
  ·rename_i hj
   exact⟨_,.k _ (by simpa[PVal.no]using hj),h⟩
 ·rename_i j T
  split at h
  ·exact h.elim
  ·rename_i hj
   exact⟨_,.k _ (by simpa[PVal.no]using hj),h⟩
 ·exact⟨_,.k _ h.1,h.2⟩
theorem DE{i:Nat}{es:List (List PVal)}:∀{l:List PVal} {k:List PVal->Prop},HC.fzF i es l k->∃r,Lu i es l r/\k r
 |[],k,h=>⟨[],vzz,h⟩
 |p::ps,k,h=>by
  unfold HC.fzF at h
  obtain⟨q,h1,h2⟩:=Kv h
  obtain⟨r,h3,h4⟩:=DE h2
  exact⟨q::r,⟨h1,h3⟩,h4⟩
theorem Fz.fn{i:Nat}{es:List (List PVal)}(fn:Fn){f c f' c':List PVal}(h:Lu i es f f')(h':Lu i es c c'):Fz i es (.func fn f c) (.func fn f' c'):=
 .f fn f c f' c' h.len h'.len (λ_ _ _ hp hq=>h.get hp hq) (λ_ _ _ hp hq=>h'.get hp hq)
theorem HD{i:Nat}{es:List (List PVal)}:∀{l:List PVal} {k:List PVal->Prop},HC i es l k->∃r,Lu i es l r/\k r
 |[],k,h=>⟨[],vzz,h⟩
 | p :: ps,k,h => by
  unfold HC at h
  split at h
  ·obtain⟨f',h1,h2⟩:=DE h
   obtain⟨c',h3,h4⟩:=DE h2
   obtain⟨r,h5,h6⟩:=HD h4
   exact⟨_::r,⟨.fn _ h1 h3,h5⟩,h6⟩
  ·obtain⟨q,h1,h2⟩:=Kv h
   obtain⟨r,h3,h4⟩:=HD h2
   exact⟨q::r,⟨h1,h3⟩,h4⟩
theorem HB{i:Nat}{es:List (List PVal)}{lv:List Nat}:∀{n:Nat} {l:List PVal} {k:List PVal->Prop},Tu i es lv n l k->∃r,Lu i es l r/\k r
 |_,[],k,h=>⟨[],vzz,h⟩
 | n,p :: ps,k,h => by
  unfold Tu at h
  split at h
  ·split at h
   ·obtain⟨f',h1,h2⟩:=DE h
    obtain⟨c',h3,h4⟩:=DE h2
    obtain⟨r,h5,h6⟩:=HB h4
    exact⟨_::r,⟨.fn _ h1 h3,h5⟩,h6⟩
   ·obtain⟨q,h1,h2⟩:=Kv h
    obtain⟨r,h3,h4⟩:=HB h2
    exact⟨q::r,⟨h1,h3⟩,h4⟩
  ·obtain⟨r,h3,h4⟩:=HB h
   exact⟨.undef::r,⟨.u _,h3⟩,h4⟩
theorem OF{i:Nat}{es:List (List PVal)}{rk:List Nat}:∀{n:Nat} {l:List av} {k:List av->Prop},QS i es rk n l k->∃r,EP i es l r/\(∀j B,l[j]? =some B->n+j=i->r[j]? =some .dead)/\k r
 |_,[],k,h=>⟨[],vzz,by simp,h⟩
 | n,B :: Bs,k,h => by
  have go:∀{B':av} {k':List av->Prop},Sa i es B B'->(n=i->B'=.dead)->QS i es rk (n+1) Bs k'->(∀r,k' r->k (B'::r))->∃r,EP i es (B::Bs) r/\(∀j C,(B::Bs)[j]? =some C->n+j=i->r[j]? =some .dead)/\k r:=by
   intro B' k' h1 h2 h3 h4
   obtain⟨r,r1,r2,r3⟩:=OF h3
   refine⟨B'::r,⟨h1,r1⟩,λj C hC hj=>?_,h4 r r3⟩
   cases j with
   |zero=>simp[h2 (by omega)]
   |succ j=>simpa using r2 j C (by simpa using hC) (by omega)
  unfold QS at h
  split at h
  ·exact go (.d _) (λ_=>rfl) h (λ_ x=>x)
  ·rename_i hn
   have hn':n≠i:=by simpa using hn
   split at h
   ·exact go (.d _) (λ_=>rfl) h (λ_ x=>x)
   ·split at h
    ·exact go (.k _ _ h.1) (λe=>absurd e hn') h.2 (λ_ x=>x)
    ·obtain⟨cs',h1,h2⟩:=HD h
     exact go (.c _ _ _ h1) (λe=>absurd e hn') h2 (λ_ x=>x)
   ·exact go (.m _ h.1) (λe=>absurd e hn') h.2 (λ_ x=>x)
theorem xx{P:Program}{m:Nat}:∀{sc:List It} {st:az} {k:List It->az->Prop},Ku m sc st k->∃sc' st',oQ P m st st'/\k sc' st'
 |[],st,k,h=>⟨[],st,.refl _,by simpa[Ku]using h⟩
 | x :: sc,st,k,h => by
  unfold Ku at h
  split at h
  ·rename_i i es lv rk sc' heq
   cases heq
   obtain⟨h1,h2,h3,h4⟩:=h
   obtain⟨own,hB⟩:=OS h3
   obtain⟨tm,t1,h5⟩:=HB h4
   obtain⟨H,b1,b2,h6⟩:=OF h5
   rw[aA]at h6
   obtain⟨sc2,st2,w1,h7⟩:=xx h6
   exact⟨sc2,st2,oQ.trans (FZ.weak (st':=⟨tm,H,_⟩) ⟨h1,h2,⟨own,hB⟩,b2 i _ hB (by omega),t1,b1,λx hx=>(vaW.1 hx).1⟩) w1,h7⟩
  ·rename_i t kk e sc' heq
   cases heq
   rw[ej]at h
   split at h
   ·rename_i es he hc
    simp only[vae,vam]at hc
    rw[aA]at h
    obtain⟨sc2,st2,w1,h7⟩:=xx h
    exact⟨sc2,st2,oQ.trans (λE bs0 a w hb ⟨Γ,bs,ow,hS,hk⟩=>by
     obtain⟨ow',hS'⟩:=hS.shiftOwn hc.1 hc.2 he
     exact⟨Γ,bs,ow',hS',hk⟩) w1,h7⟩
   ·exact h.elim
  ·exact⟨_,_,.refl _,h⟩
set_option linter.unusedSimpArgs false
set_option linter.unusedVariables false
section
variable{P:Program}{Q Q1:Exit->Act->World->Prop}
theorem NT{o:Oper}{a:Act}{K:Act->World->Prop}{r:Result Next}(hQ:∀e a w,Q1 e a w->e=.normal)(h:o.upon P a K Q1 r):o.upon P a K Q r:=by
 have hno:∀c a w,¬Q1 (.panic c) a w:=λc a w h=>by have:=hQ _ _ _ h;cases this
 have hlo:¬LetsOut Q1:=by rintro⟨a,w,h⟩;have:=hQ _ _ _ h;cases this
 cases r with
 | ok x w' =>
  cases x<;>simp only[Oper.upon]at h ⊢<;>first
   |exact h
   | exact Calls.mono h (fun e w'' he => by
     cases e<;>first
      |exact he
      |exact absurd he (hno _ _ _)
      |exact absurd he hlo)
 |halt x w'=>cases x<;>simp only[Oper.upon]at h ⊢<;>exact absurd h (hno _ _ _)
theorem RD{o:Oper}{a:Act}{w:World}{K:Act->World->Prop}(hQ:∀e a w,Q1 e a w->e=.normal)(h:o.wp P a w K Q1):o.wp P a w K Q:=NT hQ h
theorem NV{ops:Array Oper}{o:Oper}{i:Nat}{a:Act}{w:World}{K:Act->World->Prop}(hQ:∀e a w,Q1 e a w->e=.normal)(hi:i<ops.size)
  (hg:∀(x:Oper) j b,ops[i]? =some x->x.guard=some (j,b)->j<ops.size) (h:wpOp P ops Q1 i K a w):wpOp P (ops.push o) Q i K a w:=by
 have hlo:¬LetsOut Q1:=by rintro⟨a,w,h⟩;have:=hQ _ _ _ h;cases this
 have hget:∀k,k<ops.size->(ops.push o)[k]? =ops[k]?:=λk hk=>by rw[vbG,vaz (by omega)]
 unfold wpOp at h ⊢
 rw[hget i hi]
 rw[vaE hi]at h ⊢
 simp only at h ⊢
 have hw:Region.wanted ops[i] (yielded (ops.push o) a.tmps)=Region.wanted ops[i] (yielded ops a.tmps):=by
  unfold Region.wanted
  cases hgu:ops[i].guard with
  |none=>rfl
  |some x=>
   obtain⟨j,b⟩:=x
   have hj:=hg _ j b (vaE hi) hgu
   simp only[yielded,hget j hj]
 rw[hw]
 split
 ·rename_i hw2
  rw[vaA hw2]at h
  rcases h with h|h
  ·exact .inl (RD hQ h)
  ·exact absurd h.2 hlo
 ·rename_i hw2
  rw[vaz hw2]at h
  exact h
theorem G3{ops:Array Oper}{o:Oper}
  (hlast:∀a w,Q1 .normal a w->wpOp P (ops.push o) Q ops.size (Q .normal) a w)
  (he:∀(k:Nat) (x:Oper),ops[k]? =some x->∀e∈x.after.toList,Region.binds .any e=true->e.on<k)
  (ho:∀e∈o.after.toList,Region.binds .any e=true->e.on<ops.size) {l0 l1:Array Bool} {a:Act} {w:World}
  (h0:l0.size=ops.size) (h1:l1.size=ops.size+1) (hl:∀i,i<ops.size->l1.getD i false=l0.getD i false) (hn:l1.getD ops.size false=false)
  (hr:Region.ready .any ops l0=[]) (hq:Q1 .normal a w) (n:Nat):wpAny P .any (ops.push o) Q (n+1) l1 a w:=by
 have hget:∀k,k<ops.size->(ops.push o)[k]? =ops[k]?:=λk hk=>by rw[vbG,vaz (by omega)]
 have hgl:(ops.push o)[ops.size]? =some o:=by simp
 have hall:∀j,j<ops.size->bj l0 j:=by
  intro j
  induction j using Nat.strongRecOn with
  | _ j ih =>
   intro hj
   by_cases hx:bj l0 j
   ·exact hx
   ·exfalso
    have hoj:ops[j]? =some ops[j]:=by simp[hj]
    have:j∈Region.ready .any ops l0:=mem_ready.2 ⟨by
     unfold bj at hx
     have:j<l0.size:=by omega
     simp[this]at hx ⊢;exact hx,_,hoj,λe he' hb=>by
     have hlt:=he j _ hoj e (by simpa using he') hb
     exact ih e.on hlt (by omega)⟩
    rw[hr]at this;cases this
 have hall1:∀j,j<ops.size->l1.getD j false=true:=λj hj=>by rw[hl j hj];exact hall j hj
 have hsz:ops.size<l1.size:=by omega
 have hin:ops.size∈Region.ready .any (ops.push o) l1:=mem_ready.2 ⟨by simp[hsz]at hn ⊢;exact hn,o,hgl,λe he' hb=>hall1 _ (ho e (by simpa using he') hb)⟩
 have hone:∀i∈Region.ready .any (ops.push o) l1,i=ops.size:=by
  intro i hi
  obtain⟨k1,x,hx,k2⟩:=mem_ready.1 hi
  have hlt:=(vaf.1 hx).1
  by_cases hii:i=ops.size
  ·exact hii
  ·exfalso
   have hlt2:i<ops.size:=by simp at hlt;omega
   have:=hall1 i hlt2
   have e1:i<l1.size:=by omega
   simp[e1]at k1 this
   rw[this]at k1;cases k1
 have hdone:Region.ready .any (ops.push o) (l1.setIfInBounds ops.size true)=[]:=by
  apply vbj.2
  intro i hi
  obtain⟨k1,x,hx,k2⟩:=mem_ready.1 hi
  have hlt:=(vaf.1 hx).1
  have e1:i<l1.size:=by simp at hlt;omega
  by_cases hii:i=ops.size
  ·subst hii;simp[e1]at k1
  ·have:=hall1 i (by simp at hlt;omega)
   simp[e1,vbA,Ne.symm hii]at k1 this
   rw[this]at k1;cases k1
 unfold wpAny
 refine⟨λh=>(by rw[h]at hin;cases hin),λi hi=>?_⟩
 rw[hone i hi]
 refine wpOp_mono (λa w hq=>?_) (hlast a w hq)
 cases n with
 |zero=>exact⟨hdone,hq⟩
 |succ n=>exact⟨λ_=>hq,λi hi=>by rw[hdone]at hi;cases hi⟩
theorem Ls{ops:Array Oper}{o:Oper}(hQ:∀e a w,Q1 e a w->e=.normal)
  (hlast:∀a w,Q1 .normal a w->wpOp P (ops.push o) Q ops.size (Q .normal) a w)
  (hg:∀(i:Nat) (x:Oper) j b,ops[i]? =some x->x.guard=some (j,b)->j<ops.size)
  (he:∀(k:Nat) (x:Oper),ops[k]? =some x->∀e∈x.after.toList,Region.binds .any e=true->e.on<k)
  (ho:∀e∈o.after.toList,Region.binds .any e=true->e.on<ops.size)
  (hb:∀i,i<ops.size->(ft (xj ops.toList) o).testBit i=true):
  ∀(fuel:Nat) (l0 l1:Array Bool) (a:Act) (w:World),l0.size=ops.size->l1.size=ops.size+1->(∀i,i<ops.size->l1.getD i false=l0.getD i false)->l1.getD ops.size false=false->R2 ops l0->
   wpAny P .any ops Q1 fuel l0 a w->wpAny P .any (ops.push o) Q (fuel+1) l1 a w:=by
 have hget:∀k,k<ops.size->(ops.push o)[k]? =ops[k]?:=λk hk=>by rw[vbG,vaz (by omega)]
 have hgl:(ops.push o)[ops.size]? =some o:=by simp
 intro fuel
 induction fuel with
 |zero=>
  intro l0 l1 a w h0 h1 hl hn hd h
  exact G3 hlast he ho h0 h1 hl hn (by unfold wpAny at h;exact h.1) (by unfold wpAny at h;exact h.2) 0
 | succ fuel ih =>
  intro l0 l1 a w h0 h1 hl hn hd h
  by_cases hr:Region.ready .any ops l0=[]
  ·exact G3 hlast he ho h0 h1 hl hn hr (by unfold wpAny at h;exact h.1 hr) (fuel+1)
  ·unfold wpAny at h ⊢
   have hmem:∀i,i∈Region.ready .any (ops.push o) l1->i<ops.size/\i∈Region.ready .any ops l0:=by
    intro i hi
    obtain⟨k1,x,hx,k2⟩:=mem_ready.1 hi
    have hne:i≠ops.size:=by
     intro hin
     subst hin
     rw[hgl]at hx;cases hx
     apply hr
     have hall:∀j,j<ops.size->bj l0 j:=by
      intro j hj
      obtain⟨e,e1,e2,e3⟩:=yx (hb j hj)
      have hle:=ho e e1 e2
      have hle2:bj l0 e.on:=by unfold bj;rw[<-hl e.on hle];exact k2 e (by simpa using e1) e2
      rcases e3 with rfl|e3
      ·exact hle2
      ·exact Ae hd e.on _ (vaE hle) (hd e.on _ (vaE hle) hle2) j e3
     apply vbj.2
     intro j hj
     obtain⟨q1,y,hy,_⟩:=mem_ready.1 hj
     have hjs:=(vaf.1 hy).1
     have:=hall j hjs
     unfold bj at this
     have hjs':j<l0.size:=by omega
     simp[hjs']at q1 this
     rw[this]at q1;cases q1
    have hlt:i<ops.size:=by
     have:=(vaf.1 hx).1
     simp at this;omega
    refine⟨hlt,mem_ready.2 ⟨?_,x,by rw[<-hget i hlt];exact hx,λe he1 he2=>?_⟩⟩
    ·have e1:i<l1.size:=by omega
     have e2:i<l0.size:=by omega
     have:=hl i hlt
     simp[e1,e2]at k1 this ⊢
     rw[<-this];exact k1
    ·have hlte:=he i x (by rw[<-hget i hlt];exact hx) e (by simpa using he1) he2
     rw[<-hl e.on (by omega)];exact k2 e he1 he2
   have hne:Region.ready .any (ops.push o) l1≠[]:=by
    intro hnil
    apply hr
    apply vbj.2
    intro j hj
    obtain⟨q1,y,hy,q2⟩:=mem_ready.1 hj
    have hjs:=(vaf.1 hy).1
    have:j∈Region.ready .any (ops.push o) l1:=mem_ready.2 ⟨by
      have e1:j<l1.size:=by omega
      have e2:j<l0.size:=by omega
      have:=hl j hjs
      simp[e1,e2]at q1 this ⊢
      rw[this];exact q1,y,by rw[hget j hjs];exact hy,λe he1 he2=>by
      have hlte:=he j y hy e (by simpa using he1) he2
      rw[hl e.on (by omega)];exact q2 e he1 he2⟩
    rw[hnil]at this;cases this
   refine⟨λh=>absurd h hne,λi hi=>?_⟩
   obtain⟨hlt,hi0⟩:=hmem i hi
   obtain⟨q1,y,hy,q2⟩:=mem_ready.1 hi0
   refine wpOp_mono (λa w hh=>ih (l0.setIfInBounds i true) (l1.setIfInBounds i true) a w (by simpa using h0) (by simpa using h1) (λk hk=>?_) ?_ ?_ hh) (NV hQ hlt (λx j b hx=>hg i x j b hx) (h.2 i hi0))
   ·by_cases hki:k=i
    ·subst hki
     have e1:k<l1.size:=by omega
     have e2:k<l0.size:=by omega
     simp[e1,e2]
    ·have:=hl k hk
     have e1:k<l1.size:=by omega
     have e2:k<l0.size:=by omega
     simp[e1,e2,vbA,Ne.symm hki]at this ⊢
     exact this
   ·have e1:ops.size<l1.size:=by omega
    have hki:¬i=ops.size:=by omega
    simp[e1,vbA,hki]at hn ⊢
    exact hn
   ·intro j x hx hj e he1 he2
    have hset:∀k,bj (l0.setIfInBounds i true) k↔(k=i\/bj l0 k):=λk=>by
     unfold bj
     by_cases hk:k<l0.size
     ·by_cases hki:k=i
      ·subst hki;simp[hk]
      ·simp[hk,vbA,Ne.symm hki,hki]
     ·simp[hk];intro hki;subst hki;omega
    rw[hset]at hj ⊢
    rcases hj with rfl|hj
    ·rw[hy]at hx;cases hx
     exact .inr (q2 e (by simpa using he1) he2)
    ·exact .inr (hd j x hx hj e he1 he2)
end
def KD(l:List Oper)(an:List Nat)(o:Oper):Bool:=
 (cw o&&(!aw o.op&&o.guard.isNone))&&(o.after.all (λe=>!Region.binds .any e||decide (e.on<l.length))&&
 ((List.range l.length).all (λi=>(ft an o).testBit i)&&l.all λx=>match x.guard with
  |some (j,_)=>decide (j<l.length)
  |none=>true))
section
variable{P:Program}{GE:List (Nat×List PVal)}{A:List Nat}
theorem ni{bid:Nat->Option (Nat×av)}{rw:List Nat}{ops:Array Oper}{K K':List (List Rs)->az->Prop}(hK:∀lg st,K lg st->K' lg st):∀(L:List Oper) (id:Nat) (lg:List (List Rs)) (st:az),iN P GE bid rw ops K L id lg st->iN P GE bid rw ops K' L id lg st
 |[],_,lg,st,h=>hK lg st h
 | o :: L,id,lg,st,h => by
  unfold iN at h ⊢
  split at h
  ·obtain⟨s',rs,h1,h2⟩:=h
   exact⟨s',rs,h1,ni hK L _ _ _ h2⟩
  ·split at h
   ·refine⟨λhx=>?_,λhx=>ni hK L _ _ _ (h.2 hx)⟩
    obtain⟨s',rs,h1,h2⟩:=h.1 hx
    exact⟨s',rs,h1,ni hK L _ _ _ h2⟩
   ·exact h
theorem kJ{ops:Array Oper}{K K':az->Prop}(hK:∀st,K st->K' st):∀(L:List Oper) (id:Nat) (st:az),dW P GE A ops K L id st->dW P GE A ops K' L id st
 |[],_,st,h=>hK st h
 | o :: L,id,st,h => by
  unfold dW at h ⊢
  split at h
  ·exact uZ (λst hx=>kJ hK L _ st hx) h
  ·split at h
   ·exact⟨λhx=>uZ (λst hx=>kJ hK L _ st hx) (h.1 hx),λhx=>kJ hK L _ _ (h.2 hx)⟩
   ·exact h
theorem Ig{o:Oper}(h:aw o.op=false):dV P [o]=[]:=by
 have:=sO P [o]
 simp[bF,h]at this
 exact this
theorem cQ.drawL{m:Nat}(hf:P.follows .mixedOrders=true){id:Nat}{ops:Array Oper}{o:Oper}{an:List Nat}{X:List av}{br:List (Nat×Nat)}{rw:List Nat}{Q:Exit->az->Prop}{st:az}(hnd:ops.toList.all cw=true)(hl:KD ops.toList an o=true)
  (h:Ia P GE ops an X br rw (λst'=>dW P GE A #[o] (Q .normal) [o] st'.boxes.length st') st):cQ P GE m (.region id (ops.push o) true) Q st:=by
 unfold KD at hl
 simp only[vae,va4,Option.isNone_iff_eq_none,vao,vbg,va1,vam,vbn]at hl
 obtain⟨⟨l1,l2,l3⟩,l4,l5,l6⟩:=hl
 intro ro E bs0 a w hE hb hR
 obtain⟨rfl,_,_,_⟩:=hE
 obtain⟨hD,han⟩:=Dt h.1
 refine lZ (uz (Q:=λe a' w'=>e=.normal/\F8 P E bs0 a.defers Q .normal a' w') hf (by simp only[vch,List.all_append,vae];exact⟨hnd,by simp[l1]⟩) (by rintro⟨_,_,h,_⟩;cases h) ?_) λe a' w' hq=>by obtain⟨rfl,hq⟩:=hq;exact hq
 have key:=Ls (P:=P) (ops:=ops) (o:=o) (Q:=λe a' w'=>e=.normal/\F8 P E bs0 a.defers Q .normal a' w')
  (Q1:=λe a' w'=>e=.normal/\a'.defers=a.defers/\∃st',Iv P E bs0 st' a' w'/\dW P E.GE A #[o] (Q .normal) [o] st'.boxes.length st')
  (λe a w h=>h.1) (λa1 w1 hq=>?_) (λi x j b hx hg=>?_) (λk x hx e he hb=>hD.f2 k x hx e he hb) (λe he hb=>?_) (λi hi=>?_)
  ops.size (Array.replicate ops.size false) (Array.replicate (ops.size+1) false) a {w with drawn:=w.drawn+1} (by simp) (by simp) (λi hi=>by rw[mh,mh]) (by rw[mh]) (λj x hx hj=>?_) ?_
 ·simpa using key
 ·obtain⟨_,hd,st',hR',hp⟩:=hq
  have hp2:dW P E.GE A #[o] (Q .normal) (#[o]:Array Oper).toList st'.boxes.length {st' with boxes:=st'.boxes++dV P (#[o]:Array Oper).toList}:=by
   simp only[Ig l2,vbe]
   exact hp
  have ht:=wN (Q:=λe a' w'=>e=.normal/\F8 P E bs0 a.defers Q .normal a' w') hR' hR'.len (λa' w' st'' hd' hR'' hK=>⟨rfl,hd'.trans hd,st'',hR'',hK⟩) hp2
  rw[show List.range (#[o]:Array Oper).size=[0]from rfl,wpOps_cons]at ht
  unfold wpOp at ht ⊢
  rw[show((#[o]:Array Oper)[0]?)=some o from rfl]at ht
  rw[show(ops.push o)[ops.size]? =some o by simp]
  simp only[Region.wanted,l3,if_true]at ht ⊢
  refine ht.imp_left (Oper.wp_mono λa2 w2 h2=>?_)
  exact⟨vzz,h2.2⟩
 ·have:=l6 x (vaq (by simpa using hx:ops.toList[i]? =some x))
  rw[hg]at this
  simpa using this
 ·have:=l4 e (by simpa using he)
  rcases this with hx|hx
  ·rw[hb]at hx;cases hx
  ·simpa using hx
 ·rw[han];exact l5 i (by simpa using hi)
 ·unfold bj at hj;rw[mh]at hj;cases hj
 ·exact yG hR hR.len (λa' w' st' hd hR' hK=>⟨rfl,hd,st',hR',hK⟩) h
theorem MP{ops:Array Oper}{an:List Nat}{X:List av}{br:List (Nat×Nat)}{rw:List Nat}{K:List It->az->Prop}{sc:List It}{st:az}
  (h:xm P GE A ops an X br rw K sc st):ops.toList.all cw=true/\Ia P GE ops an X br rw (λst=>∃sc,K sc st) st:=by
 unfold xm at h
 split at h
 ·rename_i hd
  rw[vae,vae]at hd
  obtain⟨hnd,hd⟩:=hd
  unfold Cj at h
  rw[aA]at h
  split at h
  ·rename_i hr
   rw[aA]at h
   refine⟨hnd,hd.1,by rw[vae];exact⟨hd.2,hr⟩,?_⟩
   have:=nj _ _ _ _ _ _ h
   simpa using this
  ·exact h.elim
 ·exact h.elim
def Hq(P:Program)(GE:List (Nat×List PVal))(A:List Nat)(ops:Array Oper)(an:List Nat)(X:List av)(br:List (Nat×Nat))(rw:List Nat)(K:List It->az->Prop)(sc:List It)(st:az):Prop:=
 match ops.toList.getLast? with
 |some o=>match KD ops.toList.dropLast an o with
  |true=>xm P GE A ops.toList.dropLast.toArray an X br rw (λsc st=>Dx P GE A #[o] K [o] 0 st.boxes.length sc st) sc st
  |false=>False
 |none=>False
theorem Fa{m:Nat}(hf:P.follows .mixedOrders=true){id:Nat}{ops:Array Oper}{an:List Nat}{X:List av}{br:List (Nat×Nat)}{rw:List Nat}{K:List It->az->Prop}{sc:List It}{st:az}{Q:Exit->az->Prop}(hQ:∀st,(∃sc,K sc st)->Q .normal st)
  (h:Hq P GE A ops an X br rw K sc st):cQ P GE m (.region id ops true) Q st:=by
 unfold Hq at h
 split at h
 ·rename_i o ho
  split at h
  ·rename_i hl
   have hops:ops=ops.toList.dropLast.toArray.push o:=by
    have h1:ops.toList.dropLast++[o]=ops.toList:=by
     have hne:ops.toList≠[]:=by intro hx;rw[hx]at ho;cases ho
     rw[List.getLast?_eq_some_getLast hne]at ho
     rw[<-vaw ho]
     exact List.dropLast_concat_getLast hne
    apply Array.toList_inj.1
    simp[h1]
   obtain⟨hnd,hp⟩:=MP h
   have:=cQ.drawL (P:=P) (GE:=GE) (A:=A) (m:=m) (id:=id) hf (Q:=λe st=>e=.normal/\∃sc,K sc st) hnd (by simpa using hl) (o:=o) (by
    refine⟨hp.1,hp.2.1,?_⟩
    refine ni (λlg st' hx=>⟨hx.1,?_⟩) _ _ _ _ hp.2.2
    obtain⟨sc',hx⟩:=hx.2
    refine kJ (λst hx=>⟨rfl,hx⟩) _ _ _ (rL _ _ _ _ _ hx))
   rw[hops]
   exact this.imp λe st hx=>by obtain⟨rfl,hx⟩:=hx;exact hQ st hx
  ·exact h.elim
 ·exact h.elim
end
def FG(st st0:az):Prop:=Gp st.tmps st0.tmps=st0.tmps/\J1 st.boxes st0.boxes=st0.boxes/\(st0.own.all λx=>decide (x∈st.own))=true
theorem fr(st:az):st.tmps=st.tmps/\st.boxes=st.boxes/\true=true:=⟨rfl,rfl,rfl⟩
theorem FG.weak{P:Program}{m:Nat}{st st0:az}(h:FG st st0):oQ P m st st0:=by
 obtain⟨h1,h2,h3⟩:=h
 have:=oQ.forget (P:=P) (m:=m) (st:=st) st0.tmps st0.boxes st0.own (λx hx=>by simpa using vao.1 h3 x hx)
 rw[h1,h2]at this
 exact this
def Bm(P:Program)(GE:List (Nat×List PVal))(A:List Nat)(m:Nat):Code->List It->az->(Exit->List It->az->Prop)->Prop
 |.skip,sc,st,K=>K .normal sc st
 |.label _,sc,st,K=>K .normal sc st
 | .region _ ops draw,sc,st,K => match draw with
  |false=>match ops.toList.all cw with
   |true=>Cj st.boxes (dV P ops.toList) λH=>Dx P GE A ops (K .normal) ops.toList 0 st.boxes.length sc ⟨st.tmps,H,st.own⟩
   |false=>False
  |true=>match sc with
   |.dr an::sc'=>xm P GE A ops an [] [] [] (K .normal) sc' st
   |.dx an X br rw::sc'=>xm P GE A ops an X br rw (K .normal) sc' st
   |.k::.dx an X br rw::sc'=>Hq P GE A ops an X br rw (K .normal) sc' st
   |_=>False
 | .seq a b,sc,st,K =>
  let after (e:Exit) (sc:List It) (st:az):Prop:=match e with
   |.normal=>Ku m sc st λsc st=>Bm P GE A m b sc st K
   |e=>K e sc st
  match sc with
  |.pa 0::.pc st0 e st1::sc'=>FG st st0/\cQ P GE m a (EX e st1) st0/\after e sc' st1
  |.pa (n+1)::sc'=>Bm P GE A m a (.pa n::sc') st after
  |sc=>Bm P GE A m a sc st after
 | .cond c a b,sc,st,K => jP GE st.tmps c fun v => match v with
  | .bool t => match sc with
   |.k::sc'=>match t with
    |true=>Ku m sc' st λsc st=>Bm P GE A m a sc st K
    |false=>Ku m sc' st λsc st=>Bm P GE A m b sc st K
   |.g _ x::sc'=>t=x/\match x with
    |true=>Ku m sc' st λsc st=>Bm P GE A m a sc st K
    |false=>Ku m sc' st λsc st=>Bm P GE A m b sc st K
   |_=>False
  |_=>False
 |.block id c,sc,st,K=>Bm P GE A m c sc st λe sc st=>match e with
  |.exit id'=>if id'=id then K .normal sc st else K (.exit id') sc st
  |e=>K e sc st
 |.exit id,sc,st,K=>K (.exit id) sc st
 |.ret,sc,st,K=>K .ret sc st
 |.loop c,sc,st,K=>match sc with
  |.pc st0 e st1::sc'=>FG st st0/\cQ P GE m (.loop c) (EX e st1) st0/\K e sc' st1
  |_=>False
 |_,_,_,_=>False
section
variable{P:Program}{GE:List (Nat×List PVal)}{A:List Nat}{m:Nat}
theorem gv(hf:P.follows .mixedOrders=true):∀(c:Code) (sc:List It) (st:az) (K:Exit->List It->az->Prop),Bm P GE A m c sc st K->cQ P GE m c (λe st'=>∃sc',K e sc' st') st
 |.skip,sc,st,K,h=>cQ.skip ⟨sc,h⟩
 |.label _,sc,st,K,h=>cQ.label ⟨sc,h⟩
 | .region id ops draw,sc,st,K,h => by
  simp only[Bm]at h
  cases draw with
  | false =>
   simp only at h
   split at h
   ·rename_i hd
    simp only[Cj,aA]at h
    exact cQ.text hd (rL _ _ _ _ _ h)
   ·exact h.elim
  | true =>
   simp only at h
   split at h
   ·exact yI hf (λst hx=>hx) h
   ·exact yI hf (λst hx=>hx) h
   ·exact Fa hf (λst hx=>hx) h
   ·exact h.elim
 | .seq a b,sc,st,K,h => by
  have aft:∀(e:Exit) (sc':List It) (st':az),(match e with|.normal=>Ku m sc' st' (λsc st=>Bm P GE A m b sc st K)|e=>K e sc' st')->(match e with|.normal=>cQ P GE m b (λe st'=>∃sc',K e sc' st') st'|e=>∃sc',K e sc' st'):=by
   intro e sc' st' hx
   cases e with
   |normal=>
    obtain⟨sc2,st2,hw,hx⟩:=xx (P:=P) hx
    exact cQ.weak hw (gv hf b sc2 st2 K hx)
   |exit id=>exact⟨_,hx⟩
   |goto l=>exact⟨_,hx⟩
   |ret=>exact⟨_,hx⟩
   |panic c=>exact⟨_,hx⟩
   |outgrown=>exact⟨_,hx⟩
  simp only[Bm]at h
  refine cQ.seq ?_
  split at h
  ·rename_i st0 e st1 sc'
   obtain⟨h1,h2,h3⟩:=h
   refine cQ.weak h1.weak (EX.of h2 ?_)
   have:=aft e sc' st1 h3
   cases e<;>exact this
  ·exact(gv hf a _ st _ h).imp λe st' hx=>by
    obtain⟨sc',hx⟩:=hx
    have:=aft e sc' st' hx
    cases e<;>exact this
  ·exact(gv hf a _ st _ h).imp λe st' hx=>by
    obtain⟨sc',hx⟩:=hx
    have:=aft e sc' st' hx
    cases e<;>exact this
 | .cond c a b,sc,st,K,h => by
  simp only[Bm,bu]at h
  have go:∀{x:Code} (hx:∀(sc:List It) (st:az),Bm P GE A m x sc st K->cQ P GE m x (λe st'=>∃sc',K e sc' st') st) {sc:List It},Ku m sc st (λsc st=>Bm P GE A m x sc st K)->cQ P GE m x (λe st'=>∃sc',K e sc' st') st:=by
   intro x hx sc h
   obtain⟨sc2,st2,hw,h⟩:=xx (P:=P) h
   exact cQ.weak hw (hx sc2 st2 h)
  split at h
  ·rename_i t ht
   split at h
   ·rename_i sc'
    refine cQ.cond ht (λh1=>?_) (λh1=>?_)
    ·subst h1;exact go (λsc st=>gv hf a sc st K) h
    ·subst h1;exact go (λsc st=>gv hf b sc st K) h
   ·rename_i j x sc'
    obtain⟨rfl,h⟩:=h
    refine cQ.cond ht (λh1=>?_) (λh1=>?_)
    ·subst h1;exact go (λsc st=>gv hf a sc st K) h
    ·subst h1;exact go (λsc st=>gv hf b sc st K) h
   ·exact h.elim
  ·exact h.elim
 | .block id c,sc,st,K,h => by
  simp only[Bm]at h
  refine cQ.block ((gv hf c _ st _ h).imp λe st' hx=>?_)
  obtain⟨sc',hx⟩:=hx
  cases e with
  | exit id' =>
   simp only[He]
   simp only at hx
   split at hx
   ·rename_i hid;rw[vaA hid];exact⟨sc',hx⟩
   ·rename_i hid;rw[vaz hid];exact⟨sc',hx⟩
  |normal=>exact⟨sc',hx⟩
  |goto l=>exact⟨sc',hx⟩
  |ret=>exact⟨sc',hx⟩
  |panic c=>exact⟨sc',hx⟩
  |outgrown=>exact⟨sc',hx⟩
 |.exit id,sc,st,K,h=>cQ.exit ⟨sc,h⟩
 |.ret,sc,st,K,h=>cQ.ret ⟨sc,h⟩
 | .loop c,sc,st,K,h => by
  simp only[Bm]at h
  split at h
  ·rename_i st0 e st1 sc'
   obtain⟨h1,h2,h3⟩:=h
   exact cQ.weak h1.weak (EX.of h2 ⟨sc',h3⟩)
  ·exact h.elim
 |.rangeFunc ..,_,_,_,h=>by simp[Bm]at h
 |.scope _,_,_,_,h=>by simp[Bm]at h
 |.goto _,_,_,_,h=>by simp[Bm]at h
 |.refuse _,_,_,_,h=>by simp[Bm]at h
def FN(e0:Exit)(st0:az):Exit->List It->az->Prop:=λe _ st=>e0=e/\FG st st0
theorem piece(hf:P.follows .mixedOrders=true){c:Code}{e0:Exit}{st0 st:az}(sc:List It)(h:Bm P GE A m c sc st (FN e0 st0)):cQ P GE m c (EX e0 st0) st:=
 (gv hf c sc st _ h).mono λ_ _ hx=>by
  obtain⟨_,hx⟩:=hx
  exact⟨st0,hx.2.weak,hx.1.symm,rfl⟩
def Ij(rs:List ResultVar)(ro:List (Nat×TypeId))(st:az):Bool:=
 ro.all (λx=>decide ((fW rs x.1,x.2)∈st.own)&&(match rs with
  |[.tmp _]=>true
  |[_]=>false
  |rs=>match rs[x.1]? with
   |some (.tmp t)=>(st.tmps.getD t .undef).isSlice
   |_=>false))&&ro.all (λx=>ro.all λy=>!decide (fW rs x.1=fW rs y.1)||decide (x.1=y.1))
def PVal.isAgg:PVal->Bool
 |.agg _=>true
 |_=>false
def Ii(P:Program)(rs:List ResultVar)(r:PVal)(ro:List (Nat×TypeId))(st:az):Prop:=
 ∃(t:Tmp) (ty:TypeId) (i off:Nat) (cs:List PVal) (own:List (Nat×TypeId)) (l:List PVal),rs=[.cell t ty]/\(∃fs,P.underlying ty=some (.struct fs))/\st.tmps.getD t .undef=.bptr i off/\st.boxes[i]? =some (.cells cs own)/\
  r=.agg l/\aC P ty (cs.drop off)=some (.agg l)/\r.cl 0/\(∀x∈ro,(off+x.1,x.2)∈own/\x.1<l.length)/\(ro.map (·.1)).Nodup
def PQ(P:Program)(rs:List ResultVar)(r:PVal)(ro:List (Nat×TypeId))(e:Exit)(st:az):Prop:=
 Wd P rs r ro [] e st\/((e=.normal\/e=.ret)/\Ii P rs r ro st)
def Mi(P:Program)(rs:List ResultVar)(ro:List (Nat×TypeId))(st:az):Bool:=match rs with
 | [.cell t ty] => match P.underlying ty with
  | some (.struct _) => match st.tmps.getD t .undef with
   |.bptr i off=>match st.boxes[i]? with
    |some (.cells _ own)=>ro.all (λx=>decide ((off+x.1,x.2)∈own)&&decide (x.1<P.cellsOf ty))&&lk (ro.map (·.1))
    |_=>false
   |_=>false
  |_=>false
 |_=>false
section
variable{P:Program}{E:mo}{Γ:ax}{bs:bp}{ow:Nat->Option jx}{w:World}{a:Array Value}{st:az}
theorem SR.pushed(h:SR P E Γ bs ow w a st){v:Value}{p:PVal}(hv:VR Γ bs w p v):SR P E Γ bs ow w (a.push v) {st with tmps:=st.tmps++[p]}:=
 { h with
  sz:=by simp[h.sz]
  tm:=λt q u hq hu=>by
   by_cases ht:t<a.size
   ·rw[vcv ht]at hu
    simp only at hq
    rw[vac (by rw[<-h.sz];exact ht)]at hq
    exact h.tm t q u hq (by rw[<-hu];simp[ht])
   ·have hlt:t<(a.push v).size:=(vaf.1 hu).1
    have ht2:t=a.size:=by simp at hlt;omega
    subst ht2
    simp only at hq
    rw[vad (by rw[h.sz];exact vaj _),h.sz]at hq
    simp at hq hu
    subst hq;subst hu;exact hv
  ot:=λt k e he=>by
   obtain⟨u,v',h1,h2,h3,h4⟩:=h.ot t k e he
   have hlt:t<a.size:=(vaf.1 h1).1
   exact⟨u,v',by rw[vcv hlt,<-h1];simp[hlt],h2,h3,h4⟩}
theorem SR.finishCell(h:SR P E Γ bs ow w a st){fn:Func}{r:PVal}{ro:List (Nat×TypeId)}(hr:Ii P fn.results.toList r ro st):∃v ow',(results fn a).run P w=.ok v w/\SR P E Γ [] ow' w #[v] ⟨[r],[],ro.map λx=>((0,x.1),x.2)⟩:=by
 obtain⟨t,ty,i,off,cs,own,l,hrs,⟨fs,hfs⟩,ht,hB,rfl,hp,hcl,hro,hnd⟩:=hr
 have hrv:JO P st fn.results.toList=some (.agg l):=by
  rw[hrs]
  show kI P ty (st.tmps.getD t .undef) st.boxes=_
  rw[ht]
  simp only[kI,hB,hp]
 obtain⟨v,e1,e2,_⟩:=qN h hrv
 have hvt:=h.getD t
 rw[ht]at hvt
 generalize hva:a.getD t undef=vt at hvt
 cases hvt with
 |bptr _ _ b hb=>
 obtain⟨v2,q1,q2,q3⟩:=DS h hb hB hp
 have hvv:v2=v:=by
  have hres:fn.results=#[.cell t ty]:=by
   have:fn.results=fn.results.toList.toArray:=by simp
   rw[this,hrs]
  have hrun:(results fn a).run P w=.ok v2 w:=by
   simp[results,hres,asAddr]
   have hva':a[t]?.getD undef=.pointer (some ⟨b,off,none⟩):=by rw[<-vaB];exact hva
   rw[hva']
   simp[q1]
  rw[e1]at hrun
  cases hrun
  rfl
 subst hvv
 have g1:=h.pushed e2
 obtain⟨ow',g2⟩:=SR.takeOwns (off:=off) (d:=a.size) (u:=v2) hb (by simp) ro g1 hB (λx hx=>(hro x hx).1) hnd λx hx=>by
  have:=q3 ⟨_,hfs,vzz⟩ x.1 (hro x hx).2
  obtain⟨v',z1,_⟩:=h.ob i (off+x.1) x.2 cs own b hB (hro x hx).1 hb
  exact⟨v',this.trans z1,z1⟩
 refine⟨v2,Gq (λk=>(a.size,k)) ro ow',e1,?_⟩
 have hf:=g2.finish (H':=[]) (src:=λk=>(a.size,k)) (ro:=ro) e2 hcl (by unfold fa;trivial) (λx hx=>⟨?_,λu v' hu hv'=>?_⟩) (λx _ y _ e=>by simpa using e)
 ·simpa using hf
 ·exact va5 _ (vcr.2 (vah.2 ⟨x,hx,rfl⟩))
 ·simp at hu;subst hu;exact hv'
end
def Ty(P:Program)(rs:List ResultVar)(r:PVal)(ro:List (Nat×TypeId))(st:az):Prop:=match Ij rs ro st with
 |true=>match JO P st rs with
  |some p=>p=r/\r.cl 0
  |none=>False
 | false => match Mi P rs ro st with
  |true=>match JO P st rs with
   |some p=>p=r/\r.cl 0/\r.isAgg=true
   |none=>False
  |false=>False
def FR(P:Program)(rs:List ResultVar)(r:PVal)(ro:List (Nat×TypeId)):Exit->List It->az->Prop:=λe _ st=>match e with
 |.normal=>Ty P rs r ro st
 |.ret=>Ty P rs r ro st
 |_=>False
theorem C.ofSat{f:FuncId}{fn:Func}{c:Code}{args:List PVal}{r:PVal}{ro:List (Nat×TypeId)}
  (hcall:∀vs w,(callFunc f vs).run P w=.ok (.enter f vs) w) (hfn:P.funcs[f]? =some fn) (hb:fn.body=some c)
  (hp:cQ P GE 0 c (PQ P fn.results.toList r ro) ⟨args++List.replicate (fn.ntmps - args.length) .undef,[],[]⟩):C P GE f args [] [] r ro []:=by
 refine⟨hcall,λΓ bs ow w vs h=>calls_of_wp hfn hb ?_⟩
 have hbl:bs.length=0:=h.bl
 obtain rfl:bs=[]:=vai hbl
 have h0:SR P ⟨GE,Γ,w,λ_=>False⟩ Γ [] (λ_=>none) w (vs++Array.replicate (fn.ntmps - vs.size) undef) ⟨args++List.replicate (fn.ntmps - args.length) .undef,[],[]⟩:=by
  have hsz:vs.size=args.length:=h.sz
  exact{
   wi:=h.wi
   sz:=by simp[hsz]
   tm:=λt p v hp hv=>by
    simp only at hp
    by_cases ht:t<args.length
    ·rw[vac ht]at hp
     rw[vaT (by omega)]at hv
     exact h.tm t p v hp hv
    ·rw[vad (by omega),vaX]at hp
     split at hp<;>cases hp
     exact .undef v
   bl:=rfl
   bx:=λi b B hi=>by simp at hi
   inj:=λi j b hi=>by simp at hi
   bn:=λi b hi=>by simp at hi
   on:=λb L hL=>by cases hL
   ot:=λt k e he=>by simp at he
   ob:=λi j e cs own b hB=>by simp at hB
   gl:=h.gl
   gc:=h.gc
   gx:=λg cs hg=>⟨(h.gx g cs hg).1,λhx=>hx,(h.gx g cs hg).2.2⟩
   step:=.refl _ _ _ _}
 have hE:N5 GE 0 ⟨GE,Γ,w,λ_=>False⟩:={
  ge:=rfl
  low:=λb n hb=>h.lt_of_ghost hb
  nt:=λ_ _ hx=>hx
  gl:=h.gl}
 have hwp:=hp none ⟨GE,Γ,w,λ_=>False⟩ [] ⟨vs++Array.replicate (fn.ntmps - vs.size) undef,[]⟩ w hE rfl ⟨Γ,[],_,h0,λi _=>rfl⟩
 refine wp_mono hwp λe a w' hq=>?_
 obtain⟨hd,st,⟨Γ1,bs1,ow1,hS0,hk⟩,hQ⟩:=hq
 have hS:SR P ⟨GE,Γ,w,cj [] ow⟩ Γ1 bs1 ow1 w' a.tmps st:={hS0 with
  bn:=λi b hb=>(hS0.bn i b hb).elim False.elim .inr
  on:=λb L hL=>⟨(hS0.on b L hL).1,(hS0.on b L hL).2.elim False.elim .inr⟩
  gx:=h.gx
  step:={hS0.step with keep:=λb hb _=>hS0.step.keep b hb (λhx=>hx)}}
 have key:(JO P st fn.results.toList=some r/\r.cl 0/\fa 0 st.boxes []/\(∀x∈ro,(fW fn.results.toList x.1,x.2)∈st.own/\pQ st fn.results.toList x.1)/\
   (∀x∈ro,∀y∈ro,fW fn.results.toList x.1=fW fn.results.toList y.1->x.1=y.1))->
   a.defers=[]/\∃v,(results fn a.tmps).run P w'=.ok v w'/\∃v' Γ' ow',Ending.returned v=.returned v'/\SR P ⟨GE,Γ,w,cj [] ow⟩ Γ' [] ow' w' #[v'] ⟨[r],[],ro.map λx=>((0,x.1),x.2)⟩:=by
  rintro⟨k1,k2,k3,k4,k5⟩
  obtain⟨v,e1,e2,e3⟩:=qN hS k1
  refine⟨hd,v,e1,v,Γ1,Gq (fW fn.results.toList) ro ow1,rfl,?_⟩
  have hf:=hS.finish (H':=[]) (src:=fW fn.results.toList) (ro:=ro) e2 k2 k3 (λx hx=>⟨(k4 x hx).1,λu v'=>e3 x.1 u v' (k4 x hx).2⟩) k5
  simpa using hf
 have key2:Ii P fn.results.toList r ro st->
   a.defers=[]/\∃v,(results fn a.tmps).run P w'=.ok v w'/\∃v' Γ' ow',Ending.returned v=.returned v'/\SR P ⟨GE,Γ,w,cj [] ow⟩ Γ' [] ow' w' #[v'] ⟨[r],[],ro.map λx=>((0,x.1),x.2)⟩:=by
  intro hc
  obtain⟨v,ow',e1,e2⟩:=hS.finishCell hc
  exact⟨hd,v,e1,v,Γ1,ow',rfl,e2⟩
 rcases hQ with hQ|⟨he,hQ⟩
 ·cases e with
  |normal=>exact key hQ
  |ret=>exact key hQ
  |exit id=>exact hQ.elim
  |goto l=>exact hQ.elim
  |panic c=>exact hQ.elim
  |outgrown=>exact hQ.elim
 ·rcases he with rfl|rfl
  ·exact key2 hQ
  ·exact key2 hQ
theorem Lh{rs:List ResultVar}{r:PVal}{ro:List (Nat×TypeId)}{st:az}(hc:Ij rs ro st=true)(hp:JO P st rs=some r)(hcl:r.cl 0):JO P st rs=some r/\r.cl 0/\fa 0 st.boxes []/\(∀x∈ro,(fW rs x.1,x.2)∈st.own/\pQ st rs x.1)/\
      (∀x∈ro,∀y∈ro,fW rs x.1=fW rs y.1->x.1=y.1):=by
  unfold Ij at hc
  rw[vae]at hc
  obtain⟨c1,c2⟩:=hc
  refine⟨hp,hcl,by unfold fa;cases st.boxes<;>trivial,λx hx=>?_,λx hx y hy hxy=>?_⟩
  · have:=vao.1 c1 x hx
    rw[vae]at this
    refine⟨by simpa using this.1,?_⟩
    have h2:=this.2
    clear hp this c1 c2
    rcases rs with _|⟨y,_|⟨z,rs⟩⟩
    ·simp at h2
    · cases y with
      |tmp t=>trivial
      |cell t ty=>cases h2
    · have key:∀ o:Option ResultVar,(match o with
        |some (.tmp t)=>(st.tmps.getD t .undef).isSlice
        |_=>false)=true->(match o with
        |some (.tmp t)=>(st.tmps.getD t .undef).isSlice=true
        |_=>False):=by
        intro o
        cases o with
        |none=>intro h;cases h
        |some q=>cases q<;>intro h<;>first|exact h|cases h
      cases y with
      |tmp t=>exact key _ h2
      |cell t ty=>exact key _ h2
  · have:=vao.1 (vao.1 c2 x hx) y hy
    simpa[hxy]using this
theorem Ty.to{rs:List ResultVar}{r:PVal}{ro:List (Nat×TypeId)}{st:az}{e:Exit}(he:e=.normal\/e=.ret)(h:Ty P rs r ro st):PQ P rs r ro e st:=by
 unfold Ty at h
 split at h
 ·rename_i hc
  split at h
  ·rename_i p hp
   obtain⟨rfl,hcl⟩:=h
   have:=Lh hc hp hcl
   rcases he with rfl|rfl<;>exact .inl this
  ·exact h.elim
 ·split at h
  ·rename_i hc
   split at h
   ·rename_i p hp
    obtain⟨rfl,hcl,hagg⟩:=h
    refine .inr ⟨he,?_⟩
    unfold Mi at hc
    split at hc
    ·rename_i t ty _
     split at hc
     ·rename_i fs hfs
      split at hc
      ·rename_i i off ht
       split at hc
       ·rename_i cs own hB
        rw[vae]at hc
        obtain⟨c1,c2⟩:=hc
        have hpl:aC P ty (cs.drop off)=some p:=by
         have hp':kI P ty (st.tmps.getD t .undef) st.boxes=some p:=hp
         rw[ht]at hp'
         simpa only[kI,hB]using hp'
        cases p<;>simp only[PVal.isAgg]at hagg<;>first|(cases hagg;done)|skip
        rename_i l
        have hlen:l.length=P.cellsOf ty:=by
         have hq:=hpl
         unfold aC at hq
         rw[hfs]at hq
         simp only at hq
         split at hq
         ·rename_i hh;cases hq;rw[vaV];omega
         ·cases hq
        refine⟨t,ty,i,off,cs,own,l,rfl,⟨fs,hfs⟩,ht,hB,rfl,hpl,hcl,λx hx=>?_,jm c2⟩
        have:=vao.1 c1 x hx
        simp only[vae,vam]at this
        exact⟨this.1,by rw[hlen];exact this.2⟩
       ·cases hc
      ·cases hc
     ·cases hc
    ·cases hc
   ·exact h.elim
  ·exact h.elim
theorem FR.to{rs:List ResultVar}{r:PVal}{ro:List (Nat×TypeId)}{e:Exit}{sc:List It}{st:az}(h:FR P rs r ro e sc st):PQ P rs r ro e st:=by
 unfold FR at h
 split at h
 ·exact h.to (.inl rfl)
 ·exact h.to (.inr rfl)
 ·exact h.elim
theorem C.ev(hf:P.follows .mixedOrders=true){f:FuncId}{fn:Func}{c:Code}{args:List PVal}{r:PVal}{ro:List (Nat×TypeId)}
  (hcall:∀vs w,(callFunc f vs).run P w=.ok (.enter f vs) w) (hfn:P.funcs[f]? =some fn) (hb:fn.body=some c) (hcl:dU 0 args) (sc:List It)
  (h:Bm P GE A 0 c sc ⟨args++List.replicate (fn.ntmps - args.length) .undef,[],[]⟩ (FR P fn.results.toList r ro)):CC P GE f args r ro:=
 ⟨hcl,C.ofSat hcall hfn hb ((gv hf c sc _ _ h).imp λe st hx=>by obtain⟨sc',hx⟩:=hx;exact hx.to)⟩
end
abbrev ai:=List UInt8
abbrev bw(n:Int):Int:=IntKind.i64.wrap n
def cS(s:ai):List PVal:=[.str s]
def cI(k:IntKind)(n:Int):List PVal:=[.int k n]
def cB(b:Bool):List PVal:=[.bool b]
def sl{α:Type}(c:α->List PVal)(l:List α):PVal:=.slice (l.map c)
def cL{α:Type}(c:α->List PVal)(l:List α):List PVal:=[sl c l]
def bd:Option Int->Nat->Option Nat
 |none,d=>some d
 |some i,_=>if 0<=i then some i.toNat else none
def UM{α:Type}(l:List α)(lo hi:Option Int):Option (List α):=
 match bd lo 0,bd hi l.length with
 |some a,some b=>if a<=b/\b<=l.length then some ((l.take b).drop a)else none
 |_,_=>none
def app{α:Type}(l r:List α):Option (List α):=if l.length+r.length<=cy then some (l++r)else none
def Iw(a b:ai):Option ai:=if a.length+b.length<=KG then some (a++b)else none
def qu(k:IntKind)(a b:Int):Option Int:=if b=0 then none else some (k.wrap (a.tdiv b))
def rW{α:Type}(m:List (ai×α))(k:ai):Option α:=(m.find? λe=>k==e.1).map (·.2)
def HS{α:Type}(m:List (ai×α))(k:ai)(v:α):List (ai×α):=
 match m with
 |[]=>[(k,v)]
 |e::r=>if k==e.1 then(k,v)::r else e::HS r k v
def jO{α:Type}(f:α->PVal)(m:List (ai×α)):List (PVal×PVal):=m.map λe=>(.str e.1,f e.2)
def Mo:TypeDesc->Bool
 |.struct _=>false
 |.array _ _=>false
 |_=>true
theorem AL{P:Program}{t:TypeId}(h:(P.underlying t).any Mo=true)(p:PVal)(r:List PVal):aC P t (p::r)=some p:=by
 unfold aC
 split
 ·rename_i hu;rw[hu]at h;cases h
 ·rename_i hu;rw[hu]at h;cases h
 ·rfl
 ·rename_i hu;rw[hu]at h;cases h
structure tJ{α:Type}(P:Program)(T e:TypeId)(c:α->List PVal):Prop where
 hu:P.underlying T=some (.slice e)
 hc:∀x,(c x).length=P.cellsOf e
 hi:(P.info? e).isSome=true
 hp:0<P.cellsOf e
 hz:(eX P e).map (·.length)=some (P.cellsOf e)
 hb:P.bytesOf e<=65536
 ho:∀x,∀q∈c x,q.one=true
 cl:∀x,dU 0 (c x)
theorem ba{α:Type}{c:α->List PVal}(h:∀x,dU 0 (c x))(l:List α):(sl c l).cl 0:=by
 unfold sl
 simp only[PVal.cl]
 exact LF λp hp=>by obtain⟨x,_,rfl⟩:=vah.1 hp;exact h x
theorem Ix(s:ai):dU 0 (cS s):=⟨vzz,vzz⟩
theorem WW(k:IntKind)(n:Int):dU 0 (cI k n):=⟨vzz,vzz⟩
theorem OH{α:Type}{l:List α}{i:Int}{x:α}(h:dn l i=some x):0<=i/\l[i.toNat]? =some x:=by
 unfold dn at h
 split at h
 ·exact⟨‹_›,h⟩
 ·cases h
theorem aI{a b:Prop}(h:a)(h':b):a/\b:=⟨h,h'⟩
theorem rP(p:PVal):p=p:=rfl
theorem lf{β:Type}{a r:β}(h:some a=some r):a=r:=vaw h
abbrev u:PVal:=.undef
theorem Yc(x:ai):bv (.str x)=some (cS x):=rfl
theorem Xc(k:IntKind)(x:Int):bv (.int k x)=some (cI k x):=rfl
theorem Yb(l:List PVal):bv (.agg l)=some l:=rfl
theorem V9(x:ai):∀q∈cS x,q.one=true:=by intro q hq;simp[cS]at hq;subst hq;rfl
theorem V8(k:IntKind)(x:Int):∀q∈cI k x,q.one=true:=by intro q hq;simp[cI]at hq;subst hq;rfl
def bg:Code->List Bool->Code
 |c,[]=>c
 |.seq a b,x::l=>match x with|false=>bg a l|true=>bg b l
 |.cond _ a b,x::l=>match x with|false=>bg a l|true=>bg b l
 |.block _ c,_::l=>bg c l
 |.loop c,_::l=>bg c l
 |c,_=>c
section
variable{P:Program}{T e:TypeId}{α:Type}{c:α->List PVal}
theorem tJ.ia(s:tJ P T e c){l:List α}{i:Int}{k:IntKind}{x:α}(h:dn l i=some x):fV P T (sl c l) (.int k i)=some (.eptr (c x)):=by
 obtain⟨h0,h1⟩:=OH h
 unfold sl fV
 simp only[s.hu,vaA h0,vax,h1,vak]
 rw[vaA ⟨s.hc x,s.hi⟩]
theorem tJ.ln(s:tJ P T e c)(l:List α):∀H,wm P T (sl c l) H=some (.int .i64 (l.length:Int)):=λH=>by
 unfold sl wm;simp only[s.hu,vbD]
theorem LA{o:Option Int}{d n:Nat}{k:IntKind}(h:bd o d=some n):wn (o.map (PVal.int k)) d=some n:=by
 cases o with
 |none=>exact h
 |some i=>exact h
theorem tJ.sc(s:tJ P T e c){l r:List α}{lo hi:Option Int}(h:UM l lo hi=some r):mt P T (sl c l) (lo.map (PVal.int .i64)) (hi.map (PVal.int .i64)) none=some (sl c r):=by
 unfold UM at h
 split at h
 ·rename_i a b h1 h2
  split at h
  ·rename_i hb
   cases h
   unfold sl mt
   simp only[s.hu,LA h1]
   rw[show(l.map c).length=l.length by simp,LA h2]
   simp only
   have hx:∀x∈(l.map c).take 1,x.length=P.cellsOf e:=λx hx=>by
    obtain⟨y,_,rfl⟩:=vah.1 (vbR hx)
    exact s.hc y
   rw[vaA ⟨hb.1,hb.2,s.hi,hx⟩,List.map_drop,List.map_take]
  ·cases h
 ·cases h
theorem tJ.ap(s:tJ P T e c){l r z:List α}(h:app l r=some z):eP P T (l.map c) (r.map c)=some (sl c z):=by
 unfold app at h
 split at h
 ·cases h
  unfold eP sl
  simp only[s.hu,vbD]
  have h1:∀x∈l.map c,x.length=P.cellsOf e:=λx hx=>by obtain⟨y,_,rfl⟩:=vah.1 hx;exact s.hc y
  have h2:∀x∈r.map c,x.length=P.cellsOf e/\∀q∈x,q.one=true:=λx hx=>by obtain⟨y,_,rfl⟩:=vah.1 hx;exact⟨s.hc y,s.ho y⟩
  rw[vaA ⟨‹_›,s.hb,s.hp,s.hz,h1,h2⟩,vcx]
 ·cases h
theorem GP{v:α->PVal}{sz:Nat}(hv:∀x,bv (v x)=some (c x))(hc:∀x,(c x).length=sz):∀(l:List α) (i:Nat),uQ sz i ((l.map v).zipIdx i|>.map λx=>(x.2,x.1))=some (l.map c)
 |[],i=>by simp[uQ]
 |x::l,i=>by
  have ih:=GP hv hc l (i+1)
  simp only[vaM,List.zipIdx_cons,uQ,hv x]
  simp[ih,hc x]
theorem tJ.mk'(s:tJ P T e c){v:α->PVal}(hv:∀x,bv (v x)=some (c x))(l:List α)(n:Nat)(hn:(decide (l.length=n)&&decide (n * P.cellsOf e<=16777216))=true):dS P T n ((l.map v).zipIdx 0|>.map λx=>(x.2,x.1))=some (sl c l):=by
 simp only[vae,vam]at hn
 unfold dS sl
 simp only[s.hu,GP hv s.hc]
 have hz:(eX P e).isSome=true:=by
  cases h:eX P e with
  |none=>have:=s.hz;rw[h]at this;cases this
  |some z=>rfl
 rw[vaA ⟨by simpa using hn.1,hz,s.hp,hn.2,s.hz⟩]
theorem pU{t:TypeId}(h:P.underlying t=some .string)(s:ai):∀H,wm P t (.str s) H=some (.int .i64 (s.length:Int)):=λH=>by unfold wm;simp only[h]
theorem kS{t:TypeId}{a b z:ai}(h:Iw a b=some z):H6 P .add t (.str a) (.str b)=some (.str z):=by
 unfold Iw at h
 unfold H6 Rp
 split at h
 ·cases h;simp only;rw[vaA ‹_›]
 ·cases h
theorem po{t:TypeId}{k:IntKind}{a b z:Int}(h:qu k a b=some z):H6 P .quo t (.int k a) (.int k b)=some (.int k z):=by
 unfold qu at h
 split at h
 ·cases h
 ·rename_i hb;cases h;simp only[H6,Rj,if_true,vaz hb]
theorem xH{f:α->PVal}(k:ai):∀(m:List (ai×α)) (i:Nat),uR (.str k) (jO f m) i=some (match rW m k with
  |none=>none
  |some v=>some (i+(m.findIdx λe=>k==e.1),f v))
 |[],i=>by simp[jO,uR,rW]
 | e :: m,i => by
  have ih:=xH (f:=f) k m (i+1)
  unfold jO at ih ⊢
  simp only[vaM,uR,Id]
  unfold rW at ih ⊢
  by_cases h:(k==e.1)=true
  ·simp[h,vbZ]
  ·have h':(k==e.1)=false:=by simpa using h
   simp only[h',List.find?_cons,ih,vbZ]
   cases hm:(List.find? (λe=>k==e.1) m)with
   |none=>simp
   |some v=>simp;omega
theorem Q3{t kt et:TypeId}{f:α->PVal}(h1:P.underlying t=some (.map kt et))(h2:P.underlying kt=some .string){z:α}(hz:Ej P et=some (f z))(m:List (ai×α))(k:ai):D8 P t (jO f m) (.str k) true=some (.tuple [f ((rW m k).getD z),.bool (rW m k).isSome]):=by
 unfold D8
 simp only[h1,h2,jY,if_true,xH]
 cases rW m k with
 |none=>simp[hz]
 |some v=>simp
theorem L5(f:α->PVal)(k:ai)(v:α):∀(m:List (ai×α)),jO f (HS m k v)=match rW m k with
  |none=>jO f m++[(.str k,f v)]
  |some _=>(jO f m).set (m.findIdx λe=>k==e.1) (.str k,f v)
 |[]=>by simp[HS,rW,jO]
 | e :: m => by
  have ih:=L5 f k v m
  unfold rW at ih ⊢
  unfold jO at ih ⊢
  by_cases h:(k==e.1)=true
  ·simp[HS,h,vbZ]
  ·have h':(k==e.1)=false:=by simpa using h
   simp only[HS,h',List.find?_cons,vbZ,vaM]
   simp only[vba,if_false,vaM,ih]
   cases(List.find? (λe=>k==e.1) m)with
   |none=>simp
   |some v=>simp
theorem SO{t kt et:TypeId}{f:α->PVal}(h1:P.underlying t=some (.map kt et))(h2:P.underlying kt=some .string)(m:List (ai×α))(k:ai)(v:α):GX P t (jO f m) (.str k) (f v)=some (jO f (HS m k v)):=by
 unfold GX
 simp only[h1,h2,jY,if_true,xH,L5]
 cases rW m k with
 |none=>simp
 |some w=>simp
end
structure Mz(G:List (Nat×List PVal))(w w':World):Prop where
 os:w'.os=w.os
 tape:w'.tape=w.tape
 output:w'.output=w.output
 size:w.heap.size<=w'.heap.size
 drawn:dr G w<=dr G w'
 keep:∀b,b<w.heap.size->w'.heap[b]? =w.heap[b]?
theorem Mz.of_grow{G:List (Nat×List PVal)}(w:World)(k:Nat)(os:Array Obj):Mz G w (Sort.grow (w.drewN k) os):={
 os:=rfl
 tape:=rfl
 output:=rfl
 size:=by show w.heap.size<=(w.heap++os).size;simp
 drawn:=jV (vbI _ _)
 keep:=λb hb=>by show(w.heap++os)[b]? =_;rw[vaT hb]}
section
variable{P:Program}{GE:List (Nat×List PVal)}
theorem Td{E:mo}{Γ:ax}{bs:bp}{ow:Nat->Option jx}{w:World}{a:Array Value}{st:az}(h:SR P E Γ bs ow w a st){g:Nat}{k:IntKind}{zs:List Int}{name:String}
  (hg:(g,zs.map (PVal.int k))∈E.GE) (hn:P.globalNamed name=some g):Lib.TabIs P w name k zs:=by
 obtain⟨_,_,_,c,t,fr,h1,h2⟩:=h.gnow hg
 have hv:=h.gl g _ hg
 unfold Lib.TabIs World.var?
 rw[hn]
 simp only[vab,h1]
 congr 1
 refine vcO λi=>?_
 generalize hcs:zs.map (PVal.int k)=cs at hv
 cases hv with
 |eptrE _ _=>
  have hz:zs=[]:=by simpa using hcs
  subst hz
  have h3:c.size=0:=h2
  rw[vbr (by omega),vbr (by simp)]
 | eptr _ _ _ n vals hg' hn' hc hvv =>
  subst hcs
  by_cases hi:i<zs.length
  ·have h3:=hc i _ (by simp[hi]:(zs.map (PVal.int k))[i]? =some (.int k zs[i]))
   have h4:=hvv i _ (by simp[hi]:(zs.map (PVal.int k))[i]? =some (.int k zs[i]))
   rw[vaG]at h3
   have h5:w.cell? ⟨g,i,none⟩=c[i]?:=cell_of_row w g i c t fr h1
   rw[h5]at h3
   rw[h3]
   generalize vals i=vi at h4
   cases h4
   simp[hi]
  ·rw[vbD]at h2
   rw[vbr (by omega),vbr (by simp;omega)]
theorem CC.grownIS{f:FuncId}{n:Int}{s:ai}{k:IntKind}(hcall:∀vs w,(callFunc f vs).run P w=.ok (.enter f vs) w)
  (h:∀E Γ bs ow w a st,E.GE=GE->SR P E Γ bs ow w a st->Calls P f #[.int k n] w λe w'=>e=.returned (.string ⟨s.toArray⟩)/\Mz GE w w'):CC P GE f [.int k n] (.str s) []:=by
 refine⟨⟨vzz,vzz⟩,hcall,λΓ bs ow w vs hS=>?_⟩
 have hvs:vs=#[.int k n]:=by
  have h1:=hS.sz
  simp at h1
  have h2:vs[0]? =some vs[0]:=by simp[h1]
  have h3:=hS.tm 0 _ _ rfl h2
  refine Array.ext (by simp[h1]) λi hi hi2=>?_
  have:i=0:=by simp at hi2;omega
  subst this
  generalize vs[0]=v at h3
  cases h3
  rfl
 subst hvs
 refine(h _ Γ bs ow w _ _ rfl hS).mono λe w' he=>?_
 obtain⟨rfl,hg⟩:=he
 have hbl:bs.length=0:=hS.bl
 obtain rfl:bs=[]:=vai hbl
 have hW:=hS.world (Γ':=Γ) (w':=w') (λ_=>False) (λb m hb _=>⟨m,hb,vaj _,λo _=>bN (hg.keep b (hS.lt_of_ghost hb)) o⟩)
  (λb m hb=>by
   obtain⟨c,t,fr,h1,h2⟩:=hS.wi b m hb
   exact⟨c,t,fr,(hg.keep b (hS.lt_of_ghost hb)).trans h1,h2⟩) hg.os hg.tape hg.output hg.size (λb hb _=>⟨hg.keep b hb,rfl⟩) (λ_ hx=>hx.elim) (λ_ _ _ hx=>hx) (λ_ _ _ hx=>hx) hg.drawn
 refine⟨_,Γ,ow,rfl,{hW with
  sz:=rfl
  tm:=λt p v hp hv=>by
   cases t with
   |zero=>simp at hp hv;subst hp;subst hv;exact .str s
   |succ t=>simp at hp
  ot:=λt k e he=>by simp at he}⟩
end
open Go Go.RowKit Go.WideShapes Go.ChangeShapes Go.ChangeAt
def tu(W:World):ax:=λb=>match W.heap[b]? with
 |some (.cells c _ _)=>some c.size
 |_=>none
theorem F9{W:World}{b:Nat}{c:Array Value}{t:TypeId}{fr:Nat×Nat}(h:W.heap[b]? =some (.cells c t fr)):tu W b=some c.size:=by unfold tu;rw[h]
def UQ(W:World)(x:Nat×List PVal):Prop:=dU 0 x.2/\∃c t fr,W.heap[x.1]? =some (.cells c t fr)/\c.size=x.2.length/\∀(i:Nat) p v,x.2[i]? =some p->c[i]? =some v->VR (tu W) [] W p v
section
variable{P:Program}{GE:List (Nat×List PVal)}
theorem JU{k:FuncId}{pargs:List PVal}{args:Array Value}{W:World}{b:Bool}(hC:C P GE k pargs [] [] (.bool b) [] [])(hl:args.size=pargs.length)
  (hv:∀(i:Nat) p v,pargs[i]? =some p->args[i]? =some v->VR (tu W) [] W p v) (hG:∀x∈GE,UQ W x):Calls P k args W λe W'=>e=.returned (.bool b)/\Below W.heap.size W W':=by
 have hS:SR P ⟨GE,tu W,W,cj [] λ_=>none⟩ (tu W) [] (λ_=>none) W args ⟨pargs,[],[]⟩:={
  wi:=λb n hb=>by
   unfold tu at hb
   split at hb
   ·rename_i c t fr hh;cases hb;exact⟨c,t,fr,hh,vaj _⟩
   ·cases hb
  sz:=hl
  tm:=hv
  bl:=rfl
  bx:=λi b B hi=>by simp at hi
  inj:=λi j b hi=>by simp at hi
  bn:=λi b hi=>by simp at hi
  on:=λb L hL=>by cases hL
  ot:=λt k e he=>by simp at he
  ob:=λi j e cs own b hB=>by simp at hB
  gl:=λg cs hg=>by
   obtain⟨_,c,t,fr,h1,h2,h3⟩:=hG _ hg
   refine .eptr cs g 0 c.size (λk=>c.getD k undef) (F9 h1) (by simp only at h2;omega) (λk p hp=>?_) (λk p hp=>?_)
   ·have hk:k<c.size:=by have:=ag hp;simp only at h2;omega
    rw[vaG,cell_of_row W g k c t fr h1]
    simp[vaB,hk]
   ·have hk:k<c.size:=by have:=ag hp;simp only at h2;omega
    exact h3 k p _ hp (by simp[vaB,hk])
  gc:=λg cs hg=>(hG _ hg).1
  gx:=λg cs hg=>by
   obtain⟨_,c,t,fr,h1,h2,_⟩:=hG _ hg
   refine⟨(vaf.1 h1).1,λhT=>?_,c,t,fr,h1,h2⟩
   rcases hT with⟨i,hi⟩|hT
   ·simp at hi
   ·exact hT rfl
  step:=.refl _ _ _ _}
 refine(hC.2 (tu W) [] (λ_=>none) W args hS).mono λe W' he=>?_
 obtain⟨v,Γ',ow',rfl,hS'⟩:=he
 have hv':=hS'.tm 0 (.bool b) v rfl rfl
 cases hv'
 refine⟨rfl,hS'.step.os,hS'.step.tape,hS'.step.output,hS'.step.size,λk hk=>(hS'.step.keep k hk λhT=>?_).1⟩
 rcases hT with⟨i,hi⟩|hT
 ·simp at hi
 ·exact hT rfl
end
section
variable{H:Type}{enc:TypeId×Value->H}{P:Program}{w:World}{base:Nat}{spare:Nat->Bool}{held:Bool}{t:TypeId}{fuel:Nat}
theorem FD{f:Func}{s:ChangeSpec}{apart fresh handsOn again:Bool}{W W':World}{args:Array Value}{v:Value}{ds gs:List (DataW H)}{before pa pv:List MemPlace}
    (hW:DataW.Whole enc P f.params.toList s.vars apart W args.toList ds gs before)
    (hres:∀(b:Nat) (sp:Nat->Bool) (hd:Bool),DataW.TrodAll enc P W' b sp hd f.resultTypes.toList (v.resultList f.resultTypes.size) (s.fn H (ds++gs)).results [])
    (hargs:∀sp:Nat->Bool,(∀p∈before,sp p.block=true)->DataW.TrodAll enc P W' 0 sp true f.params.toList args.toList (s.fn H (ds++gs)).args pa)
    (hvars:∀sp:Nat->Bool,(∀p∈before,sp p.block=true)->DataW.TrodVars enc P W' sp s.vars (s.fn H (ds++gs)).vars pv)
    (hps:before=pa++pv) (hb:Below W.heap.size W W')
    (hok:∀(j:Nat) (t:TypeId) (r:Value),f.resultTypes[j]? =some t->(v.resultList f.resultTypes.size)[j]? =some r->Value.okWide P W' .any 0 t r):
    s.post enc P f apart fresh handsOn again W args v W':=by
  have hlt:∀p∈before,p.block<W.heap.size:=λp hp=>hW.lt p hp
  have hold:∀p∈before,(λb=>decide (b<W.heap.size)) p.block=true:=λp hp=>by simpa using hlt p hp
  refine⟨ds,gs,before,[],pa,pv,hW,hres _ _ _,hargs _ hold,hvars _ hold,World.keptBut_mono (λp hp=>⟨hp,?_⟩) (hb.frame (·∈before)),λ_=>?_⟩
  · rw [hps,vaJ] at hp
    exact Or.inr hp
  · obtain ⟨_,_,_,_,_,hz,hn⟩:=hW
    refine⟨hok,_,_,([]++pa)++pv,⟨[]++pa,pv,trodAll_append (hargs _ (λ_ _=>rfl)) (hres _ _ _),hvars _ (λ_ _=>rfl),rfl,?_,?_⟩,?_⟩
    · intro b off hp
      have hin:MemPlace.cell b off∈before:=by rw[hps];simpa using hp
      rw[hb.frozen (hlt _ hin)]
      exact hz b off hin
    · intro ha
      have:=hn ha
      rw[hps]at this
      simpa using this
    · intro p hp _
      rw[hps]
      simpa using hp
theorem Gb(hl:laidOutB P=true){W W':World}(hb:Below W.heap.size W W'){sp:Nat->Bool}:∀{ts:List TypeId} {vs:List Value} {ds:List (DataW H)} {ps:List MemPlace},(∀t∈ts,P.readableRec t=true/\t<P.types.size)->
  DataW.TrodAll enc P W 0 (λ_=>true) true ts vs ds ps->(∀p∈ps,p.block<W.heap.size)->(∀p∈ps,sp p.block=true)->DataW.TrodAll enc P W' 0 sp true ts vs ds ps
 |[],[],[],_,_,h,_,_=>h
 | t :: _,_ :: _,_ :: _,_,ht,⟨p,q,h1,h2,e⟩,hlt,hs =>
  ⟨p,q,WideElems.Trod_stays hl (ht t (by simp)).1 (ht t (by simp)).2 h1 (λx hx=>hb.same (hlt x (by rw[e];exact va5 _ hx))) (λx hx=>hs x (by rw[e];exact va5 _ hx)),
   Gb hl hb (λt ht'=>ht t (by simp[ht'])) h2 (λx hx=>hlt x (by rw[e];exact vaO _ hx)) (λx hx=>hs x (by rw[e];exact vaO _ hx)),e⟩
theorem OZ{f:Func}{s:ChangeSpec}{W W':World}{args:Array Value}{ds gs:List (DataW H)}{before:List MemPlace}(hl:laidOutB P=true)(hr:f.resultTypes=#[t])(hbt:P.underlying t=some .bool)(hsv:s.vars=[])
  (hfn:(s.fn H (ds++gs)).results=[.lit (.bool true)]/\(s.fn H (ds++gs)).args=ds/\(s.fn H (ds++gs)).vars=[]) (hts:∀t∈f.params.toList,P.readableRec t=true/\t<P.types.size)
  (hW:DataW.Whole enc P f.params.toList s.vars false W args.toList ds gs before) (hb:Below W.heap.size W W'):s.post enc P f false true false false W args (.bool true) W':=by
 have hW':=hW
 obtain⟨p,q,hA,hV,rfl,_,_⟩:=hW
 rw[hsv]at hV
 obtain⟨rfl,rfl⟩:=trodVars_none hV
 have hlt:∀x∈p,x.block<W.heap.size:=λx hx=>hW'.lt x (by simpa using hx)
 refine FD (pa:=p) (pv:=[]) hW' (λb sp hd=>?_) (λsp hs=>?_) (λsp _=>?_) rfl hb (λj t' r hj hv=>?_)
 ·rw[hr,hfn.1]
  exact trodAll_cons_mk (shut_bool hbt _) trodAll_mk0
 ·rw[hfn.2.1]
  exact Gb hl hb hts hA hlt (λx hx=>hs x (by simpa using hx))
 ·rw[hsv,hfn.2.2];rfl
 ·exact ok_one hr rfl (okWide_bool_mk hbt _) j t' r hj hv
theorem IE(a:Addr)(i:Nat)(h:a.spot=none):a.add i=⟨a.block,a.off+i,none⟩:=by
 obtain⟨b,o,sp⟩:=a
 simp only at h
 subst h
 unfold Addr.add
 split
 ·rename_i hi;subst hi;rfl
 ·rfl
end
section
variable{P:Program}{W:World}
theorem Jc:∀{laid:List (String×DataW Unit)} {ps:List MemPlace} {name:String} {d:DataW Unit},DataW.LaidVars P W laid ps->(name,d)∈laid->
  ∃g t cs fuel p,P.globalNamed name=some g/\(P.globals[g]?).map (·.type)=some t/\W.var? P name=some cs/\DataW.trod (λ_=>()) P W 0 (λ_=>true) false fuel t cs.toList=some (d,p)
 |[],_,_,_,_,hm=>by cases hm
 |(n,d')::r,ps,name,d,⟨g,t,cs,fuel,p,q,h1,h2,h3,h4,h5,_⟩,hm=>by
  cases hm with
  |head=>exact⟨g,t,cs,fuel,p,h1,h2,h3,h4⟩
  |tail _ hm=>exact Jc h5 hm
theorem Qe{name:String}{g:Nat}{cs:Array Value}(hg:P.globalNamed name=some g)(h:W.var? P name=some cs):∃t fr,W.heap[g]? =some (.cells cs t fr):=by
 unfold World.var? at h
 rw[hg]at h
 simp only[vab]at h
 split at h
 ·rename_i c t fr hh
  cases h
  exact⟨t,fr,hh⟩
 ·cases h
theorem SG{x:Nat}{pv:List PVal}{cs:Array Value}{t:TypeId}{fr:Nat×Nat}(hh:W.heap[x]? =some (.cells cs t fr))(hcl:dU 0 pv)(hs:cs.size=pv.length)(hv:∀(i:Nat) p v,pv[i]? =some p->cs[i]? =some v->VR (tu W) [] W p v):UQ W (x,pv):=
 ⟨hcl,cs,t,fr,hh,hs,hv⟩
theorem DF{laid:List (String×DataW Unit)}{name:String}{d:DataW Unit}{g:Nat}{t e:TypeId}{n:Nat}{k:IntKind}{zs:List Int}(hL:laidMet P laid W)(hm:(name,d)∈laid)(hd:d=Lib.tabData k zs)
  (hg:P.globalNamed name=some g) (hty:(P.globals[g]?).map (·.type)=some t) (ht:P.underlying t=some (.array n e)) (he:P.underlying e=some (.int k)) (hce:P.cellsOf e=1) (hct:P.cellsOf t=n):UQ W (g,zs.map (PVal.int k)):=by
 obtain⟨ps,hV,_⟩:=hL
 obtain⟨g',t',cs,fuel,p,h1,h2,h3,h4⟩:=Jc hV hm
 obtain rfl:=vaw (hg.symm.trans h1)
 obtain rfl:=vaw (hty.symm.trans h2)
 subst hd
 have hc:=Lib.cells_of_tab ht he hce hct h4
 obtain⟨ty,fr,hh⟩:=Qe hg h3
 refine SG hh (Hk λq hq=>?_) (by simpa using vbp List.length hc) (λi q v hq hv=>?_)
 ·obtain⟨z,_,rfl⟩:=vah.1 hq
  simp[PVal.cl]
 ·rw[<-va0,hc]at hv
  simp only[vax,vaL]at hq hv
  obtain⟨z,hz,rfl⟩:=hq
  obtain⟨z',hz',rfl⟩:=hv
  cases hz.symm.trans hz'
  exact .int _ _
end
def Ul(w:World)(l:List (Nat×Array Value)):World:={w with heap:=l.foldl (λh x=>h.modify x.1 λ|.cells _ t fr=>.cells x.2 t fr|o=>o) w.heap}
def Ys:PVal->Value
 |.int k n=>.int k n
 |.str s=>.string ⟨s.toArray⟩
 |.bool b=>.bool b
 |_=>undef
def Te(l:List (Nat×List PVal)):List (Nat×Array Value):=l.map λx=>(x.1,(x.2.map Ys).toArray)
end Go.Proofs.YtjddnhkahpfhdaaGreatDoor
