/- PROVED: a part of the proof. Conditions: none. -/
import Derived.Test.YtibglelmlnfojaaGreatDoorPkM6
import Derived.Deep.Draws
import Derived.Sort.Grow
import Derived.Lib.LaidTab
import Derived.WalkKit
import Derived.ProofKit
import Derived.OpenShut
import Derived.Below
import Derived.ChangeSame
import Derived.SliceStrings
import Derived.ChangeMaps5
import Derived.WideKeyArgs
import Derived.LaidLaws
set_option linter.unusedSimpArgs false set_option linter.defProp false
set_option linter.unusedVariables false
noncomputable section
namespace Go.Proofs.YtibglelmlnfojaaGreatDoor
open Go
open Option renaming some→O,none→N
open Go renaming TypeId→G,Value→D,Program→I,Oper→M,World→J,Code→W
open Bool renaming true→T,false→Z
open Decidable renaming decide→Y
open Go.Proofs.YtibglelmlnfojaaGreatDoor renaming PVal→U
mutual

def PVal.no(i:Nat):U->Prop|.undef|.int _ _|.bool _|.str _|.val _=>True|.agg cs=>qi5 i cs|.tuple cs=>qi5 i cs|.slice es=>qb0 i es|.eptr cs=>qi5 i cs|.bptr j _=>j≠i|.bsl j _ _=>j≠i|.mapr j=>j≠i|.nptr j _=>j≠i|.func _ f c=>qi5 i f/\qi5 i c
def qi5(i:Nat):List U->Prop|[]=>True|p::ps=>p.no i/\qi5 i ps
def qb0(i:Nat):List (List U)->Prop|[]=>True|p::ps=>qi5 i p/\qb0 i ps
end
mutual
def qip(i:Nat):∀(p:U),p.cl 0->p.no i
 |.undef,_=>by simp[PVal.no]
 |.int _ _,_=>by simp[PVal.no]
 |.bool _,_=>by simp[PVal.no]
 |.str _,_=>by simp[PVal.no]
 |.val _,_=>by simp[PVal.no]
 |.agg cs,h=>by simp only[PVal.cl]at h;simp only[PVal.no];exact zF i cs h
 |.tuple cs,h=>by simp only[PVal.cl]at h;simp only[PVal.no];exact zF i cs h
 |.slice es,h=>by simp only[PVal.cl]at h;simp only[PVal.no];exact TC i es h
 |.eptr cs,h=>by simp only[PVal.cl]at h;simp only[PVal.no];exact zF i cs h
 |.bptr j _,h=>by simp only[PVal.cl]at h;omega
 |.bsl j _ _,h=>by simp only[PVal.cl]at h;omega
 |.mapr j,h=>by simp only[PVal.cl]at h;omega
 |.nptr j _,h=>by simp only[PVal.cl]at h;omega
 |.func _ f c,h=>by simp only[PVal.cl]at h;simp only[PVal.no];exact⟨zF i f h.1,zF i c h.2⟩
def zF(i:Nat):∀(l:List U),kT 0 l->qi5 i l
 |[],_=>by simp[qi5]
 |p::l,h=>by simp only[kT]at h;simp only[qi5];exact⟨qip i p h.1,zF i l h.2⟩
def TC(i:Nat):∀(l:List (List U)),GG 0 l->qb0 i l
 |[],_=>by simp[qb0]
 |p::l,h=>by simp only[GG]at h;simp only[qb0];exact⟨zF i p h.1,TC i l h.2⟩
end
def Aw{n:Nat}:∀{l:List U}{i:Nat}{p:U},qi5 n l->l[i]? =O p->p.no n
 |[],i,p,_,h=>by simp at h
 |q::l,0,p,h,hp=>by simp at hp;subst hp;simp only[qi5]at h;exact h.1
 |q::l,i+1,p,h,hp=>by simp only[qi5]at h;exact Aw h.2 (by simpa using hp)
def Vp{n:Nat}:∀{l:List (List U)}{i:Nat}{p:List U},qb0 n l->l[i]? =O p->qi5 n p
 |[],i,p,_,h=>by simp at h
 |q::l,0,p,h,hp=>by simp at hp;subst hp;simp only[qb0]at h;exact h.1
 |q::l,i+1,p,h,hp=>by simp only[qb0]at h;exact Vp h.2 (by simpa using hp)
def VR.noi{Γ:ca}{r o:cF}{w:J}{p:U}{v:D}{n:Nat}(h:VR Γ r w p v)(c:p.no n)
  (q:∀(i b:Nat),i≠n->r[i]? =O (O b)->o[i]? =O (O b)):VR Γ o w p v:=by
 induction h with
 |undef v=>exact .undef v
 |int k n=>exact .int k n
 |bool b=>exact .bool b
 |str l=>exact .str l
 |val v=>exact .val v
 |agg cs vs hl _ ih=>simp only[PVal.no]at c;exact .agg cs vs hl λi p v d m=>ih i p v d m (Aw c d)
 |tuple cs vs hl _ ih=>simp only[PVal.no]at c;exact .tuple cs vs hl λi p v d m=>ih i p v d m (Aw c d)
 |sliceNil=>exact .sliceNil
 |sliceE a cap=>exact .sliceE a cap
 |slice es b off cap n sz vals h0 hcap hg hn hsz hcc _ ih=>
  simp only[PVal.no]at c
  exact .slice es b off cap n sz vals h0 hcap hg hn hsz hcc λi e k p s d=>ih i e k p s d (Aw (Vp c s) d)
 |eptrE b off=>exact .eptrE b off
 |bsl i off k x cap hcap hnil h=>simp only[PVal.no]at c;exact .bsl i off k x cap hcap hnil (h.imp_right λ⟨b,t,y⟩=>⟨b,t,q i b c y⟩)
 |eptr cs b off n vals hg hn hcc _ ih=>
  simp only[PVal.no]at c
  exact .eptr cs b off n vals hg hn hcc λk p d=>ih k p d (Aw c d)
 |bptr i off b h=>simp only[PVal.no]at c;exact .bptr i off b (q i b c h)
 |mapr i b h=>simp only[PVal.no]at c;exact .mapr i b (q i b c h)
 |nptrN i z=>exact .nptrN i z
 |nptr i b z h=>simp only[PVal.no]at c;exact .nptr i b z (q i b c h)
 |func fn first cap fs cs hl hl' _ _ ih ih'=>
  simp only[PVal.no]at c
  exact .func fn first cap fs cs hl hl' (λi p v d m=>ih i p v d m (Aw c.1 d)) (λi p v d m=>ih' i p v d m (Aw c.2 d))
inductive Fz(i:Nat)(es:List (List PVal)):PVal->PVal->Prop where
 |u (p:PVal):Fz i es p .undef
 |k (p:PVal) (h:p.no i):Fz i es p p
 |s (n:Nat) (h:n=es.length):Fz i es (.bsl i 0 n) (.slice es)
 |b (off:Nat):Fz i es (.bptr i off) (.eptr (es.flatten.drop off))
 |f (fn:Fn) (f c f' c':List PVal) (hl:f.length=f'.length) (hl':c.length=c'.length) (h:∀(j:Nat) p q,f[j]? =some p->f'[j]? =some q->Fz i es p q) (h':∀(j:Nat) p q,c[j]? =some p->c'[j]? =some q->Fz i es p q):Fz i es (.func fn f c) (.func fn f' c')
def qke(i:Nat)(a:List (List U)):List U->List U->Prop|[],[]=>True|p::ps,q::qs=>Fz i a p q/\qke i a ps qs|_,_=>False
inductive qsG(i:Nat)(es:List (List PVal)):aJ->aJ->Prop where
 |d (B:aJ):qsG i es B .dead
 |c (cs cs':List PVal) (own:List (Nat×TypeId)) (h:qke i es cs cs'):qsG i es (.cells cs own) (.cells cs' own)
 |k (cs:List PVal) (own:List (Nat×TypeId)) (h:qi5 i cs):qsG i es (.cells cs own) (.cells cs own)
 |m (l:List (PVal×PVal)) (h:∀x∈l,x.1.no i/\x.2.no i):qsG i es (.map l) (.map l)
def qc2(i:Nat)(a:List (List U)):List aJ->List aJ->Prop|[],[]=>True|p::ps,q::qs=>qsG i a p q/\qc2 i a ps qs|_,_=>False
def qke.len{i:Nat}{a:List (List U)}:∀{l r:List U},qke i a l r->l.length=r.length
 |[],[],_=>rfl
 |[],_::_,h=>h.elim
 |_::_,[],h=>h.elim
 |_::_,_::_,h=>by simp[qke.len h.2]
def qke.get{i:Nat}{a:List (List U)}:∀{l r:List U},qke i a l r->∀{j:Nat} {p q},l[j]? =O p->r[j]? =O q->Fz i a p q
 |[],[],_,j,p,q,hp,_=>by simp at hp
 |[],_::_,h,_,_,_,_,_=>h.elim
 |_::_,[],h,_,_,_,_,_=>h.elim
 |_::_,_::_,h,0,p,q,hp,hq=>by simp at hp hq;subst hp;subst hq;exact h.1
 |_::_,_::_,h,j+1,p,q,hp,hq=>qke.get h.2 (j:=j) (by simpa using hp) (by simpa using hq)
def qc2.len{i:Nat}{a:List (List U)}:∀{l r:List aJ},qc2 i a l r->l.length=r.length
 |[],[],_=>rfl
 |[],_::_,h=>h.elim
 |_::_,[],h=>h.elim
 |_::_,_::_,h=>by simp[qc2.len h.2]
def qc2.get{i:Nat}{a:List (List U)}:∀{l r:List aJ},qc2 i a l r->∀{j:Nat} {p q},l[j]? =O p->r[j]? =O q->qsG i a p q
 |[],[],_,j,p,q,hp,_=>by simp at hp
 |[],_::_,h,_,_,_,_,_=>h.elim
 |_::_,[],h,_,_,_,_,_=>h.elim
 |_::_,_::_,h,0,p,q,hp,hq=>by simp at hp hq;subst hp;subst hq;exact h.1
 |_::_,_::_,h,j+1,p,q,hp,hq=>qc2.get h.2 (j:=j) (by simpa using hp) (by simpa using hq)
def FZ(m i:Nat)(a:V (V U))(b st':aF):Prop:=((m % 1000<=i)/\∃sz,0<sz/\∀x∈a,x.length=sz)/\qb0 i a/\(∃own,b.boxes[i]? =O (.cells a.flatten own))/\st'.boxes[i]? =O .dead/\qke i a b.tmps st'.tmps/\qc2 i a b.boxes st'.boxes/\∀x∈st'.own,x∈b.own
def qkG{sz:Nat}:∀{a:List (List U)},(∀x∈a,x.length=sz)->∀{i k:Nat}{e:List U}{p:U},a[i]? =O e->e[k]? =O p->a.flatten[i * sz+k]? =O p
 |[],_,i,k,e,p,h,_=>by simp at h
 |x::a,hl,0,k,e,p,h,hp=>by simp at h;subst h;rw[List.flatten_cons,Nat.zero_mul,ve,B2 (ax hp)];exact hp
 |x::a,hl,i+1,k,e,p,h,hp=>by have b:=hl x (by simp);rw[List.flatten_cons,vav (by rw[b,vbr];omega),b,show(i+1) * sz+k - sz=i * sz+k by rw[vbr];omega];exact qkG (λy c=>hl y (by simp[c])) (by simpa using h) hp
def FZ.weak{P:I}{m i:Nat}{es:List (List U)}{st st':aF}(h:FZ m i es st st'):IP P m st st':=by
 let⟨⟨hm,sz,a9,a6⟩,bg,bt,b3,b2,a2,c4⟩:=h;let⟨c8,hB⟩:=bt;have cn:=b3;intro E ci a w d0 hR;let⟨Γ,bs,ow,F,hk⟩:=hR;have bc:i<bs.length:=by rw[F.bl];exact ax hB
 obtain⟨x,hx⟩:∃x,bs[i]? =O x:=⟨_,m6 bc⟩
 have X:∀(j b:Nat),j≠i->bs[j]? =O (O b)->(bs.set i N)[j]? =O (O b):=λj b hj z=>by rw[t7 (λe=>hj e.symm)];exact z
 have H:∀{j b:Nat},(bs.set i N)[j]? =O (O b)->j≠i/\bs[j]? =O (O b):=λ{j b} z=>by
  by_cases hj:j=i;.subst hj;rw[o6 bc]at z;cases z
  .rw[t7 (λe=>hj e.symm)]at z;exact⟨hj,z⟩
 obtain ⟨S,L,c5,br,a5,b1,bi⟩:∃ S:ca,Γ.Le w S w∧(∀ b n,S b = O n→∃ c t fr,w.heap[b]? = O (.cells c t fr)∧n ≤ c.size)∧(∀ b,bs[i]? ≠ O (O b)→S b = Γ b) ∧
   (∀n v,n=es.length->VR Γ bs w (.bsl i 0 n) v->VR S (bs.set i N) w (.slice es) v)/\(∀b n,Γ b=O n->S b=O n)/\(∀A v,VR Γ bs w (.bptr i A) v->VR S (bs.set i N) w (.eptr (es.flatten.drop A)) v):=by
  cases x with
  | none =>
   refine⟨Γ,.refl _ _,F.wi,λ_ _=>rfl,λn v hn R=>?_,λ_ _ h=>h,λA v R=>by cases R with|bptr _ _ b z=>rw[hx]at z;cases z⟩
   cases R with
   | bsl _ _ _ x cap hcap hnil hxb =>
    have ar:es=[]:=by
     rcases hxb with h0|⟨b,_,z⟩;.exact vaw (by omega)
     .rw[hx]at z;cases z
    subst ar
    have c2:n=0:=hn
    subst c2
    cases x with
    |none=>rw[hnil rfl];exact .sliceNil
    |some ad=>exact .sliceE ad cap
  | some b =>
   let⟨hg,d1,c,t,a0,ao,b8,_⟩:=F.bx i b _ hx hB
   have b0:=qhW a6
   have L:Γ.Le w (Γ.put b es.flatten.length) w:=λb' n o _=>⟨n,(Γ.put_other (λe=>by subst e;rw[hg]at o;cases o)).trans o,m7 _,λ_ _=>rfl⟩
   refine⟨Γ.put b es.flatten.length,L,λb' n o=>?_,λb' o=>Γ.put_other (λe=>o (by rw[e];exact hx)),λn v hn R=>?_,λb' n o=>(Γ.put_other (λe=>by subst e;rw[hg]at o;cases o)).trans o,λA v R=>?_⟩
   .by_cases b5:b'=b
    .subst b5;rw[Γ.put_same]at o;cases o;exact⟨c,t,_,a0,ao⟩
    .rw[Γ.put_other b5]at o;exact F.wi b' n o
   .cases R with
    | bsl _ _ _ x cap hcap hnil hxb =>
     rcases hxb with h0|⟨b',hxb,o⟩
     .subst h0
      have ar:es=[]:=vaw hn.symm
      subst ar
      cases x with
      |none=>rw[hnil rfl];exact .sliceNil
      |some ad=>exact .sliceE ad cap
     .rw[hx]at o;cases o
      subst hxb;subst hn
      refine V0 a0 (Γ.put_same _ _) (by rw[b0];exact m7 _) a9 hcap (λi x hx=>a6 x (vaK hx)) λj x k q bq r=>?_
      have bb:=qkG a6 bq r
      have a8:j * sz+k<c.size:=vaT (ax bb) ao
      exact⟨c[j * sz+k],by simp[a8],((b8 _ _ _ bb (by simp[a8])).noi (Aw (Vp bg bq) r) X).mono L (.refl _)⟩
   .cases R with
    | bptr _ _ b' o =>
     rw[hx]at o;cases o
     by_cases cg:A<=es.flatten.length
     .have a7:∀(k:Nat) q,(es.flatten.drop A)[k]? =O q->es.flatten[A+k]? =O q/\A+k<c.size:=λk q r=>by
       rw[vbn]at r
       exact⟨r,vaT (ax r) ao⟩
      refine .eptr _ b A es.flatten.length (λk=>c.getD (A+k) undef) (Γ.put_same _ _) (by rw[vbE];omega) (λk q r=>?_) (λk q r=>?_)
      .let⟨h1,h2⟩:=a7 k q r
       rw[cell_of_row w b _ c t _ a0]
       simp[vaE,h2]
      .let⟨h1,h2⟩:=a7 k q r
       have c0:c[A+k]? =O (c.getD (A+k) undef):=by simp[vaE,h2]
       have c3:q.no i:=by let⟨y,c6,c7⟩:=qhV a9 a6 h1;exact Aw (Vp bg c6) c7
       exact((b8 _ _ _ h1 c0).noi c3 X).mono L (.refl _)
     .rw[vb7 (by omega)];exact .eptrE _ _
 have fz:∀{p q:U}{v:D},Fz i es p q->VR Γ bs w p v->VR S (bs.set i N) w q v:=by
  intro p q v hf;induction hf generalizing v with
  |u p=>exact λ_=>.undef _
  |k p h=>exact λR=>(R.noi h X).mono L (.refl _)
  |s n h=>exact λR=>a5 n _ h R
  |b A=>exact λR=>bi A _ R
  | f fn f c f' c' hl hl' h h' ih ih' =>
   intro R;cases R with
   | func _ _ _ fs cs k1 k2 k3 k4 =>
    refine .func fn f' c' fs cs (by omega) (by omega) (λj q u r hu=>?_) (λj q u r hu=>?_);.have hj:=ax r;have hp:=m6 (l:=f) (i:=j) (by omega);exact ih j _ q hp r (k3 j _ u hp hu)
    .have hj:=ax r;have hp:=m6 (l:=c) (i:=j) (by omega);exact ih' j _ q hp r (k4 j _ u hp hu)
 have a3:∀{v:D}{e:G},kZ P Γ w v e->kZ P S w v e:=by intro v e ho;let⟨n,xs,o1,o2⟩:=ho;exact⟨n,xs,o1,λb z=>b1 b _ (o2 b z)⟩
 have be:∀y∈st'.own,y∈st.own:=c4;have an:∀{j b:Nat},j≠i->bs[j]? =O (O b)->bs[i]? ≠O (O b):=λhj z ab=>hj (F.inj _ _ _ z ab);refine⟨S,bs.set i N,ow,?_,λj hj=>?_⟩
 .exact{
   wi:=c5
   sz:=by rw[F.sz];exact b2.len
   tm:=λt q v r R=>by have hl:=b2.len;have ht:=ax r;have hp:=m6 (l:=st.tmps) (i:=t) (by omega);exact fz (b2.get hp r) (F.tm t _ v hp R)
   bl:=by rw[vcO,F.bl];exact a2.len
   bx:=λj b C z hC=>by
    let⟨hj,z⟩:=H z;have hl:=a2.len;have c1:=ax hC;have hp:=m6 (l:=st.boxes) (i:=j) (by omega);let⟨h1,h2,h3⟩:=F.bx j b _ z hp;refine⟨(br b (an hj z)).trans h1,h2,?_⟩;have hf:=a2.get hp hC;generalize st.boxes[j]=B0 at hf h3;cases hf with
    |d B=>trivial
    | c cs cs' own h =>
     let⟨c,t,e1,e2,e3,e4⟩:=h3;have c9:=h.len;refine⟨c,t,e1,by rw[<-h.len];exact e2,λk q v r R=>?_,λk i2 T2 r=>?_⟩;.have hk:=ax r;have a1:=m6 (l:=cs) (i:=k) (by omega);exact fz (h.get a1 r) (e3 k _ v a1 R)
     .have hk:=ax r;have a1:=m6 (l:=cs) (i:=k) (by omega);have hz:=h.get a1 r;generalize cs[k]=p0 at a1 hz;cases hz;have:=e4 k i2 T2 a1;exact⟨this.1,by omega⟩
    |k cs own h=>let⟨c,t,e1,e2,e3,e4⟩:=h3;exact⟨c,t,e1,e2,λk q v r R=>((e3 k q v r R).noi (Aw h r) X).mono L (.refl _),e4⟩
    |m l h=>let⟨c,t,e1,e2,e3,e4⟩:=h3;refine⟨c,t,e1,e2,λk q u y r hy=>?_,e4⟩;let⟨n1,n2⟩:=h _ (vaK r);let⟨v1,v2⟩:=e3 k q u y r hy;exact⟨(v1.noi n1 X).mono L (.refl _),(v2.noi n2 X).mono L (.refl _)⟩
   inj:=λj k b hj a4=>F.inj j k b (H hj).2 (H a4).2
   bn:=λj b z=>F.bn j b (H z).2
   on:=F.on
   ot:=λt k e he=>by let⟨u,v,h1,h2,h3,h4⟩:=F.ot t k e (be _ he);exact⟨u,v,h1,h2,a3 h3,h4⟩
   ob:=λj k e cs own b hC a4 z=>by let⟨hj,z⟩:=H z;have hl:=a2.len;have c1:=ax hC;have hp:=m6 (l:=st.boxes) (i:=j) (by omega);have hf:=a2.get hp hC;generalize cv:st.boxes[j]=B0 at hf hp;cases hf with|c cs0 _ _ h=>let⟨v,h1,h2,h3⟩:=F.ob j k e cs0 own b hp a4 z;exact⟨v,h1,a3 h2,h3⟩|k _ _ h=>let⟨v,h1,h2,h3⟩:=F.ob j k e cs own b hp a4 z;exact⟨v,h1,a3 h2,h3⟩
   gl:=λg cs hg=>((F.gl g cs hg).mono L (.refl _)).restrict (n:=0) (by simp only[PVal.cl];exact F.gc g cs hg) (λi b hi _=>absurd hi (va3 _))
   gc:=F.gc
   gx:=F.gx
   step:={F.step with
    keep:=λb z hT=>by
     let⟨k1,k2⟩:=F.step.keep b z hT;refine⟨k1,(br b λab=>?_).trans k2⟩;rcases F.bn i b ab with h1|h1;.exact hT h1
     .omega
    le:=F.step.le.trans L}}
 .rw[t7 (by omega)];exact hk j hj
def qv9(i:Nat)(c:List (List U)):U->(U->Prop)->Prop
 |.undef,k=>k .undef
 |.int a n,k=>k (.int a n)
 |.bool b,k=>k (.bool b)
 |.str s,k=>k (.str s)
 |.val v,k=>k (.val v)
 |.bptr j off,k=>match j==i with|true=>cf (c.flatten.drop off) λl=>k (.eptr l)|false=>k (.bptr j off)
 | .bsl j off n,k => match j == i with
  |true=>match off with|0=>n=c.length/\k (.slice c)|_+1=>False
  |false=>k (.bsl j off n)
 |.mapr j,k=>match j==i with|true=>False|false=>k (.mapr j)
 |.nptr j d,k=>match j==i with|true=>False|false=>k (.nptr j d)
 |p,k=>p.no i/\k p
def qga(i:Nat)(a:List (List U)):List U->(List U->Prop)->Prop
 |[],k=>k []
 |p::ps,k=>match p with
  |.func fn f c=>fzF i a f λd=>fzF i a c λb=>qga i a ps λl=>k (.func fn d b::l)
  |p=>qv9 i a p λq=>qga i a ps λl=>k (q::l)
where
 fzF (i:Nat) (a:List (List U)):List U->(List U->Prop)->Prop
  |[],k=>k []
  |p::ps,k=>qv9 i a p λq=>fzF i a ps λl=>k (q::l)
def quA(i:Nat)(a:List (List U))(b:List Nat):Nat->List U->(List U->Prop)->Prop
 |_,[],k=>k []
 | n,p :: ps,k => match b.contains n with
  |true=>match p with|.func fn f c=>qga.fzF i a f λe=>qga.fzF i a c λd=>quA i a b (n+1) ps λl=>k (.func fn e d::l)|p=>qv9 i a p λq=>quA i a b (n+1) ps λl=>k (q::l)
  |false=>quA i a b (n+1) ps λl=>k (.undef::l)
def qrj(i:Nat)(a:List (List U))(b:List Nat):Nat->List aJ->(List aJ->Prop)->Prop
 |_,[],k=>k []
 | n,B :: Bs,k => match n == i with
  |true=>qrj i a b (n+1) Bs λl=>k (.dead::l)
  | false => match B with
   |.dead=>qrj i a b (n+1) Bs λl=>k (.dead::l)
   |.cells cs own=>match b.contains n with|true=>qi5 i cs/\qrj i a b (n+1) Bs λl=>k (.cells cs own::l)|false=>qga i a cs λc=>qrj i a b (n+1) Bs λl=>k (.cells c own::l)
   |.map m=>(∀x∈m,x.1.no i/\x.2.no i)/\qrj i a b (n+1) Bs λl=>k (.map m::l)
def qoi(a:List (List U)):aJ->Prop|.cells cs _=>cs=a.flatten|_=>False
def qoj{a:V (V U)}{H:V aJ}{i:Nat}(h:qN H i (qoi a)):∃own,H[i]? =O (.cells a.flatten own):=by
 let⟨B,b,h⟩:=fp h;unfold qoi at h;split at h;.subst h;exact⟨_,b⟩
 .exact h.elim
def ql6(m:Nat):List It->aF->(List It->aF->Prop)->Prop|.fz i es lv rk::sc',st,k=>((m % 1000<=i)/\∃sz,0<sz/\∀x∈es,x.length=sz)/\qb0 i es/\qN st.boxes i (qoi es)/\quA i es lv 0 st.tmps λtm=>qrj i es rk 0 st.boxes λH=>cf (st.own.filter λx=>lv.contains x.1.1) λa=>ql6 m sc' ⟨tm,H,a⟩ k|sc,st,k=>k sc st
def qjv{i:Nat}{d:V (V U)}{p:U}{k:U->Prop}(h:qv9 i d p k):∃q,Fz i d p q/\k q:=by
 unfold qv9 at h;split at h;.exact⟨_,.u _,h⟩
 .exact⟨_,.k _ (by simp[PVal.no]),h⟩
 .exact⟨_,.k _ (by simp[PVal.no]),h⟩
 .exact⟨_,.k _ (by simp[PVal.no]),h⟩
 .exact⟨_,.k _ (by simp[PVal.no]),h⟩
 .rename_i j c;split at h;.rename_i a;simp only[o5]at a;subst a;rw[bp]at h;exact⟨_,.b _,h⟩
  .rename_i a;exact⟨_,.k _ (by simpa[PVal.no]using a),h⟩
 .rename_i j c n;split at h
  .rename_i a;simp only[o5]at a;subst a;split at h;.exact⟨_,.s _ h.1,h.2⟩
   .exact h.elim
  .rename_i a;exact⟨_,.k _ (by simpa[PVal.no]using a),h⟩
 .rename_i j;split at h;.exact h.elim
  .rename_i a;exact⟨_,.k _ (by simpa[PVal.no]using a),h⟩
 .rename_i j e;split at h;.exact h.elim
  .rename_i a;exact⟨_,.k _ (by simpa[PVal.no]using a),h⟩
 .exact⟨_,.k _ h.1,h.2⟩
def qbw{i:Nat}{a:List (List U)}:∀{l:List U}{k:List U->Prop},qga.fzF i a l k->∃r,qke i a l r/\k r
 |[],k,h=>⟨[],md,h⟩
 |p::ps,k,h=>by unfold qga.fzF at h;let⟨q,b,c⟩:=qjv h;let⟨r,d,e⟩:=qbw c;exact⟨q::r,⟨b,d⟩,e⟩
def Fz.fn{i:Nat}{b:V (V U)}(fn:Fn){f c d a:V U}(h:qke i b f d)(n:qke i b c a):Fz i b (.func fn f c) (.func fn d a):=.f fn f c d a h.len n.len (λ_ _ _ e m=>h.get e m) (λ_ _ _ e m=>n.get e m)
def qgb{i:Nat}{e:List (List U)}:∀{l:List U}{k:List U->Prop},qga i e l k->∃r,qke i e l r/\k r
 |[],k,h=>⟨[],md,h⟩
 | p :: ps,k,h => by
  unfold qga at h;split at h;.let⟨s,a,b⟩:=qbw h;let⟨o,c,d⟩:=qbw b;let⟨r,m,n⟩:=qgb d;exact⟨_::r,⟨.fn _ a c,m⟩,n⟩
  .let⟨q,a,b⟩:=qjv h;let⟨r,c,d⟩:=qgb b;exact⟨q::r,⟨a,c⟩,d⟩
def qf9{i:Nat}{e:List (List U)}{s:List Nat}:∀{n:Nat}{l:List U}{k:List U->Prop},quA i e s n l k->∃r,qke i e l r/\k r
 |_,[],k,h=>⟨[],md,h⟩
 | n,p :: ps,k,h => by
  unfold quA at h;split at h
  .split at h;.let⟨w,c,d⟩:=qbw h;let⟨t,a,b⟩:=qbw d;let⟨r,m,o⟩:=qf9 b;exact⟨_::r,⟨.fn _ c a,m⟩,o⟩
   .let⟨q,c,d⟩:=qjv h;let⟨r,a,b⟩:=qf9 d;exact⟨q::r,⟨c,a⟩,b⟩
  .let⟨r,a,b⟩:=qf9 h;exact⟨.undef::r,⟨.u _,a⟩,b⟩
def qn9{i:Nat}{o:List (List U)}{t:List Nat}:∀{n:Nat}{l:List aJ}{k:List aJ->Prop},qrj i o t n l k->∃r,qc2 i o l r/\(∀j B,l[j]? =O B->n+j=i->r[j]? =O .dead)/\k r
 |_,[],k,h=>⟨[],md,by simp,h⟩
 | n,B :: Bs,k,h => by
  have go:∀{b:aJ}{s:List aJ->Prop},qsG i o B b->(n=i->b=.dead)->qrj i o t (n+1) Bs s->(∀r,s r->k (b::r))->∃r,qc2 i o (B::Bs) r/\(∀j C,(B::Bs)[j]? =O C->n+j=i->r[j]? =O .dead)/\k r:=by intro b s p q y z;let⟨r,F,H,L⟩:=qn9 y;refine⟨b::r,⟨p,F⟩,λj C A P=>?_,z r L⟩;cases j with|zero=>simp[q (by omega)]|succ j=>simpa using H j C (by simpa using A) (by omega)
  unfold qrj at h;split at h;.exact go (.d _) (λ_=>rfl) h (λ_ x=>x)
  .rename_i E;have a:n≠i:=by simpa using E
   split at h;.exact go (.d _) (λ_=>rfl) h (λ_ x=>x)
   .split at h;.exact go (.k _ _ h.1) (λe=>absurd e a) h.2 (λ_ x=>x)
    .let⟨w,p,q⟩:=qgb h;exact go (.c _ _ _ p) (λe=>absurd e a) q (λ_ x=>x)
   .exact go (.m _ h.1) (λe=>absurd e a) h.2 (λ_ x=>x)
theorem qbx{P:I}{m:Nat}:∀{sc:V It}{b:aF}{k:V It->aF->Prop},ql6 m sc b k->∃a st',IP P m b st'/\k a st'
 |[],b,k,h=>⟨[],b,.refl _,by simpa[ql6]using h⟩
 | x :: sc,b,k,h => by
  unfold ql6 at h;split at h;.rename_i i F L R a c;cases c;obtain⟨r,s,t,w⟩:=h;obtain⟨own,o⟩:=qoj t;obtain⟨tm,B,y⟩:=qf9 w;obtain⟨H,p,q,n⟩:=qn9 y;rw[bp]at n;obtain⟨d,e,E,z⟩:=qbx n;exact⟨d,e,IP.trans (FZ.weak (st':=⟨tm,H,_⟩) ⟨r,s,⟨own,o⟩,q i _ o (by omega),B,p,λx A=>(va2.1 A).1⟩) E,z⟩
  .exact⟨_,_,.refl _,h⟩
set_option linter.unusedSimpArgs false
set_option linter.unusedVariables false
section
variable{P:I}{Q Q1:Exit->Act->J->Prop}
def qm6{o:M}{a:Act}{p:Act->J->Prop}{r:Result Next}(m:∀e a w,Q1 e a w->e=.normal)(h:o.upon P a p Q1 r):o.upon P a p Q r:=by
 have b:∀c a w,¬Q1 (.panic c) a w:=λc a w h=>by have:=m _ _ _ h;cases this
 have i:¬LetsOut Q1:=by rintro⟨a,w,h⟩;have:=m _ _ _ h;cases this
 cases r with
 | ok x w' =>
  cases x<;>simp only[Oper.upon]at h ⊢<;>first
   |exact h
   | exact Calls.mono h (fun e n d => by
     cases e<;>first
      |exact d
      |exact absurd d (b _ _ _)
      |exact absurd d i)
 |halt x w'=>cases x<;>simp only[Oper.upon]at h ⊢<;>exact absurd h (b _ _ _)
def qr4{o:M}{a:Act}{w:J}{c:Act->J->Prop}(b:∀e a w,Q1 e a w->e=.normal)(h:o.wp P a w c Q1):o.wp P a w c Q:=qm6 b h
def qm9{c:Array M}{o:M}{i:Nat}{a:Act}{w:J}{A:Act->J->Prop}(r:∀e a w,Q1 e a w->e=.normal)(p:i<c.size)
  (s:∀(x:M) j b,c[i]? =O x->x.guard=O (j,b)->j<c.size) (h:wpOp P c Q1 i A a w):wpOp P (c.push o) Q i A a w:=by
 have q:¬LetsOut Q1:=by rintro⟨a,w,h⟩;have:=r _ _ _ h;cases this
 have d:∀k,k<c.size->(c.push o)[k]? =c[k]?:=λk z=>by rw[vbL,hG (by omega)]
 unfold wpOp at h ⊢
 rw[d i p]
 rw[vaX p]at h ⊢
 simp only at h ⊢
 have y:Region.wanted c[i] (yielded (c.push o) a.tmps)=Region.wanted c[i] (yielded c a.tmps):=by unfold Region.wanted;cases n:c[i].guard with|none=>rfl|some x=>let⟨j,b⟩:=x;have t:=s _ j b (vaX p) n;simp only[yielded,d j t]
 rw[y]
 split
 .rename_i m
  rw[hU m]at h
  rcases h with h|h
  .exact .inl (qr4 r h)
  .exact absurd h.2 q
 .rename_i m
  rw[hG m]at h
  exact h
def qe6{ops:Array M}{o:M}
  (t:∀a w,Q1 .normal a w->wpOp P (ops.push o) Q ops.size (Q .normal) a w)
  (he:∀(k:Nat)(x:M),ops[k]? =O x->∀e∈x.after.toList,Region.binds .any e=T->e.on<k)
  (ho:∀e∈o.after.toList,Region.binds .any e=T->e.on<ops.size) {l0 l1:Array K} {a:Act} {w:J}
  (h0:l0.size=ops.size) (h1:l1.size=ops.size+1) (hl:∀i,i<ops.size->l1.getD i Z=l0.getD i Z) (hn:l1.getD ops.size Z=Z)
  (hr:Region.ready .any ops l0=[]) (L:Q1 .normal a w) (n:Nat):wpAny P .any (ops.push o) Q (n+1) l1 a w:=by
 have a0:∀k,k<ops.size->(ops.push o)[k]? =ops[k]?:=λk hk=>by rw[vbL,hG (by omega)]
 have S:(ops.push o)[ops.size]? =O o:=by simp
 have y:∀j,j<ops.size->dT l0 j:=by
  intro j;induction j using Nat.strongRecOn with
  | _ j ih =>
   intro H;by_cases q:dT l0 j;.exact q
   .exfalso;have B:ops[j]? =O ops[j]:=by simp[H]
    have:j∈Region.ready .any ops l0:=mem_ready.2 ⟨by
     unfold dT at q;have:j<l0.size:=by omega
     simp[this]at q ⊢;exact q,_,B,λe s R=>by
     have c:=he j _ B e (by simpa using s) R;exact ih e.on c (by omega)⟩
    rw[hr]at this;cases this
 have b:∀j,j<ops.size->l1.getD j Z=true:=λj H=>by rw[hl j H];exact y j H
 have X:ops.size<l1.size:=by omega
 have z:ops.size∈Region.ready .any (ops.push o) l1:=mem_ready.2 ⟨by simp[X]at hn ⊢;exact hn,o,S,λe s R=>b _ (ho e (by simpa using s) R)⟩
 have E:∀i∈Region.ready .any (ops.push o) l1,i=ops.size:=by
  intro i p;let⟨r,x,q,k2⟩:=mem_ready.1 p;have c:=(vao.1 q).1;by_cases m:i=ops.size;.exact m
  .exfalso;have A:i<ops.size:=by simp at c;omega
   have:=b i A;have F:i<l1.size:=by omega
   simp[F]at r this;rw[this]at r;cases r
 have d:Region.ready .any (ops.push o) (l1.setIfInBounds ops.size T)=[]:=by
  apply vbB.2;intro i p;let⟨r,x,q,k2⟩:=mem_ready.1 p;have c:=(vao.1 q).1;have F:i<l1.size:=by simp at c;omega
  by_cases m:i=ops.size;.subst m;simp[F]at r
  .have:=b i (by simp at c;omega);simp[F,vbD,Ne.symm m]at r this;rw[this]at r;cases r
 unfold wpAny
 refine⟨λh=>(by rw[h]at z;cases z),λi p=>?_⟩
 rw[E i p]
 refine wpOp_mono (λa w L=>?_) (t a w L)
 cases n with
 |zero=>exact⟨d,L⟩
 |succ n=>exact⟨λ_=>L,λi p=>by rw[d]at p;cases p⟩
def qkc{ops:Array M}{o:M}(hQ:∀e a w,Q1 e a w->e=.normal)
  (s:∀a w,Q1 .normal a w->wpOp P (ops.push o) Q ops.size (Q .normal) a w)
  (hg:∀(i:Nat)(x:M) j b,ops[i]? =O x->x.guard=O (j,b)->j<ops.size)
  (he:∀(k:Nat)(x:M),ops[k]? =O x->∀e∈x.after.toList,Region.binds .any e=T->e.on<k)
  (ho:∀e∈o.after.toList,Region.binds .any e=T->e.on<ops.size)
  (hb:∀i,i<ops.size->(ku (Tf ops.toList) o).testBit i=T):
  ∀(d:Nat)(l0 l1:Array K)(a:Act)(w:J),l0.size=ops.size->l1.size=ops.size+1->(∀i,i<ops.size->l1.getD i Z=l0.getD i Z)->l1.getD ops.size Z=Z->qsE ops l0->
   wpAny P .any ops Q1 d l0 a w->wpAny P .any (ops.push o) Q (d+1) l1 a w:=by
 have r:∀k,k<ops.size->(ops.push o)[k]? =ops[k]?:=λk S=>by rw[vbL,hG (by omega)]
 have a7:(ops.push o)[ops.size]? =O o:=by simp
 intro d
 induction d with
 |zero=>
  intro l0 l1 a w h0 h1 E hn hd h
  exact qe6 s he ho h0 h1 E hn (by unfold wpAny at h;exact h.1) (by unfold wpAny at h;exact h.2) 0
 | succ d ih =>
  intro l0 l1 a w h0 h1 E hn hd h
  by_cases hr:Region.ready .any ops l0=[]
  .exact qe6 s he ho h0 h1 E hn hr (by unfold wpAny at h;exact h.1 hr) (d+1)
  .unfold wpAny at h ⊢
   have a3:∀i,i∈Region.ready .any (ops.push o) l1->i<ops.size/\i∈Region.ready .any ops l0:=by
    intro i hi;let⟨k1,x,t,k2⟩:=mem_ready.1 hi;have a4:i≠ops.size:=by
     intro a8;subst a8;rw[a7]at t;cases t;apply hr;have X:∀j,j<ops.size->dT l0 j:=by
      intro j A;let⟨e,q,z,e3⟩:=UK (hb j A);have H:=ho e q z;have F:dT l0 e.on:=by unfold dT;rw[<-E e.on H];exact k2 e (by simpa using q) z
      rcases e3 with rfl|e3;.exact F
      .exact WS hd e.on _ (vaX H) (hd e.on _ (vaX H) F) j e3
     apply vbB.2;intro j A;let⟨R,y,L,_⟩:=mem_ready.1 A;have B:=(vao.1 L).1;have:=X j B;unfold dT at this;have a1:j<l0.size:=by omega
     simp[a1]at R this;rw[this]at R;cases R
    have p:i<ops.size:=by have:=(vao.1 t).1;simp at this;omega
    refine⟨p,mem_ready.2 ⟨?_,x,by rw[<-r i p];exact t,λe m n=>?_⟩⟩
    .have q:i<l1.size:=by omega
     have z:i<l0.size:=by omega
     have:=E i p;simp[q,z]at k1 this ⊢;rw[<-this];exact k1
    .have a2:=he i x (by rw[<-r i p];exact t) e (by simpa using m) n;rw[<-E e.on (by omega)];exact k2 e m n
   have a4:Region.ready .any (ops.push o) l1≠[]:=by
    intro a5;apply hr;apply vbB.2;intro j A;let⟨R,y,L,q2⟩:=mem_ready.1 A;have B:=(vao.1 L).1;have:j∈Region.ready .any (ops.push o) l1:=mem_ready.2 ⟨by
      have q:j<l1.size:=by omega
      have z:j<l0.size:=by omega
      have:=E j B;simp[q,z]at R this ⊢;rw[this];exact R,y,by rw[r j B];exact L,λe m n=>by
      have a2:=he j y L e (by simpa using m) n;rw[E e.on (by omega)];exact q2 e m n⟩
    rw[a5]at this;cases this
   refine⟨λh=>absurd h a4,λi hi=>?_⟩
   let⟨p,a0⟩:=a3 i hi
   let⟨R,y,L,q2⟩:=mem_ready.1 a0
   refine wpOp_mono (λa w hh=>ih (l0.setIfInBounds i T) (l1.setIfInBounds i T) a w (by simpa using h0) (by simpa using h1) (λk S=>?_) ?_ ?_ hh) (qm9 hQ p (λx j b t=>hg i x j b t) (h.2 i a0))
   .by_cases c:k=i
    .subst c
     have q:k<l1.size:=by omega
     have z:k<l0.size:=by omega
     simp[q,z]
    .have:=E k S
     have q:k<l1.size:=by omega
     have z:k<l0.size:=by omega
     simp[q,z,vbD,Ne.symm c]at this ⊢
     exact this
   .have q:ops.size<l1.size:=by omega
    have c:¬i=ops.size:=by omega
    simp[q,vbD,c]at hn ⊢
    exact hn
   .intro j x t A e m n
    have a6:∀k,dT (l0.setIfInBounds i T) k↔(k=i\/dT l0 k):=λk=>by
     unfold dT;by_cases S:k<l0.size
     .by_cases c:k=i;.subst c;simp[S]
      .simp[S,vbD,Ne.symm c,c]
     .simp[S];intro c;subst c;omega
    rw[a6]at A ⊢
    rcases A with rfl|A
    .rw[L]at t;cases t
     exact .inr (q2 e (by simpa using m) n)
    .exact .inr (hd j x t A e m n)
end
def qjA(l:List M)(a:List Nat)(o:M):K:=(iv o&&(!aR o.op&&o.guard.isNone))&&(o.after.all (λe=>!Region.binds .any e||decide (e.on<l.length))&& ((List.range l.length).all (λi=>(ku a o).testBit i)&&l.all λx=>match x.guard with|some (j,_)=>Y (j<l.length)|none=>T))
section
variable{P:I}{GE:V (Nat×V U)}{A:V Nat}
def DL{c:Nat->Q (Nat×aJ)}{rw:List Nat}{d:Array M}{s r:List (List Rs)->aF->Prop}(e:∀a b,s a b->r a b):∀(L:List M)(id:Nat)(a:List (List Rs))(b:aF),pU P GE c rw d s L id a b->pU P GE c rw d r L id a b
 |[],_,a,b,h=>e a b h
 | o :: L,id,a,b,h => by
  unfold pU at h ⊢;split at h;.let⟨q,p,i,m⟩:=h;exact⟨q,p,i,DL e L _ _ _ m⟩
  .split at h;.refine⟨λn=>?_,λn=>DL e L _ _ _ (h.2 n)⟩;let⟨q,p,i,m⟩:=h.1 n;exact⟨q,p,i,DL e L _ _ _ m⟩
   .exact h
def xw{c:Array M}{i e:aF->Prop}(d:∀a,i a->e a):∀(L:List M)(id:Nat)(a:aF),dJ P GE A c i L id a->dJ P GE A c e L id a
 |[],_,a,h=>d a h
 | o :: L,id,a,h => by
  unfold dJ at h ⊢;split at h;.exact BJ (λa b=>xw d L _ a b) h
  .split at h;.exact⟨λb=>BJ (λa b=>xw d L _ a b) (h.1 b),λb=>xw d L _ _ (h.2 b)⟩
   .exact h
def qgL{o:M}(h:aR o.op=Z):g9 P [o]=[]:=by have:=Nv P [o];simp[de,h]at this;exact this
def fx.drawL{m:Nat}(hf:P.follows .mixedOrders=T){id:Nat}{ops:Array M}{o:M}{an:V Nat}{X:V aJ}{br:V (Nat×Nat)}{rw:V Nat}{Q:Exit->aF->Prop}{st:aF}(a0:ops.toList.all iv=T)(hl:qjA ops.toList an o=T)
  (h:qgH P GE ops an X br rw (λc=>dJ P GE A #[o] (Q .normal) [o] c.boxes.length c) st):fx P GE m (.region id (ops.push o) T) Q st:=by
 unfold qjA at hl
 simp only[ne,vaV,Option.isNone_iff_eq_none,oR,vbG,va5,nm,vbx]at hl
 let⟨⟨l1,l2,l3⟩,l4,l5,l6⟩:=hl
 intro ro E p a w hE B hR
 obtain⟨rfl,_,_,_⟩:=hE
 let⟨hD,H⟩:=qbp h.1
 refine xh (P6 (Q:=λe d n=>e=.normal/\qdZ P E p a.defers Q .normal d n) hf (by simp only[vcv,List.all_append,ne];exact⟨a0,by simp[l1]⟩) (by rintro⟨_,_,h,_⟩;cases h) ?_) λe d n t=>by obtain⟨rfl,t⟩:=t;exact t
 have a4:=qkc (P:=P) (ops:=ops) (o:=o) (Q:=λe d n=>e=.normal/\qdZ P E p a.defers Q .normal d n)
  (Q1:=λe d n=>e=.normal/\d.defers=a.defers/\∃c,qg9 P E p c d n/\dJ P E.GE A #[o] (Q .normal) [o] c.boxes.length c)
  (λe a w h=>h.1) (λa1 w1 t=>?_) (λi x j b r hg=>?_) (λk x r e S B=>hD.f2 k x r e S B) (λe S B=>?_) (λi hi=>?_)
  ops.size (Array.replicate ops.size Z) (Array.replicate (ops.size+1) Z) a {w with drawn:=w.drawn+1} (by simp) (by simp) (λi hi=>by rw[Bv,Bv]) (by rw[Bv]) (λj x r hj=>?_) ?_
 .simpa using a4
 .let⟨_,L,c,q,hp⟩:=t
  have a3:dJ P E.GE A #[o] (Q .normal) (#[o]:Array M).toList c.boxes.length {c with boxes:=c.boxes++g9 P (#[o]:Array M).toList}:=by simp only[qgL l2,vh];exact hp
  have y:=SU (Q:=λe d n=>e=.normal/\qdZ P E p a.defers Q .normal d n) q q.len (λd n z R s F=>⟨rfl,R.trans L,z,s,F⟩) a3
  rw[show List.range (#[o]:Array M).size=[0]from rfl,wpOps_cons]at y
  unfold wpOp at y ⊢
  rw[show((#[o]:Array M)[0]?)=O o from rfl]at y
  rw[show(ops.push o)[ops.size]? =O o by simp]
  simp only[Region.wanted,l3,if_true]at y ⊢
  refine y.imp_left (Oper.wp_mono λa2 w2 h2=>?_)
  exact⟨md,h2.2⟩
 .have:=l6 x (vaK (by simpa using r:ops.toList[i]? =O x))
  rw[hg]at this
  simpa using this
 .have:=l4 e (by simpa using S)
  rcases this with r|r
  .rw[B]at r;cases r
  .simpa using r
 .rw[H];exact l5 i (by simpa using hi)
 .unfold dT at hj;rw[Bv]at hj;cases hj
 .exact UZ hR hR.len (λd n c L q F=>⟨rfl,L,c,q,F⟩) h
def ql1{a:Array M}{d:V Nat}{X:V aJ}{e:V (Nat×Nat)}{rw:V Nat}{m:V It->aF->Prop}{sc:V It}{st:aF}
  (h:To P GE A a d X e rw m sc st):a.toList.all iv=T/\qgH P GE a d X e rw (λst=>∃sc,m sc st) st:=by
 unfold To at h
 split at h
 .rename_i b
  rw[ne,ne]at b
  let⟨c,b⟩:=b
  unfold qlJ at h
  rw[bp]at h
  split at h
  .rename_i i
   rw[bp]at h
   refine⟨c,b.1,by rw[ne];exact⟨b.2,i⟩,?_⟩
   have:=DN _ _ _ _ _ _ h
   simpa using this
  .exact h.elim
 .exact h.elim
def qf0(P:I)(GE:List (Nat×List U))(A:List Nat)(a:Array M)(c:List Nat)(X:List aJ)(d:List (Nat×Nat))(rw:List Nat)(e:List It->aF->Prop)(sc:List It)(b:aF):Prop:=match a.toList.getLast? with
 |some o=>match qjA a.toList.dropLast c o with|true=>To P GE A a.toList.dropLast.toArray c X d rw (λsc b=>X9 P GE A #[o] e [o] 0 b.boxes.length sc b) sc b|false=>False
 |none=>False
def qdt{m:Nat}(t:P.follows .mixedOrders=T){id:Nat}{ops:Array M}{p:V Nat}{X:V aJ}{q:V (Nat×Nat)}{rw:V Nat}{B:V It->aF->Prop}{sc:V It}{st:aF}{Q:Exit->aF->Prop}(s:∀st,(∃sc,B sc st)->Q .normal st)
  (h:qf0 P GE A ops p X q rw B sc st):fx P GE m (.region id ops T) Q st:=by
 unfold qf0 at h
 split at h
 .rename_i o d
  split at h
  .rename_i w
   have c:ops=ops.toList.dropLast.toArray.push o:=by
    have r:ops.toList.dropLast++[o]=ops.toList:=by
     have b:ops.toList≠[]:=by intro a;rw[a]at d;cases d
     rw[List.getLast?_eq_some_getLast b]at d;rw[<-vbh d];exact vbT b
    apply Array.toList_inj.1;simp[r]
   let⟨i,n⟩:=ql1 h
   have:=fx.drawL (P:=P) (GE:=GE) (A:=A) (m:=m) (id:=id) t (Q:=λe st=>e=.normal/\∃sc,B sc st) i (by simpa using w) (o:=o) (by
    refine⟨n.1,n.2.1,?_⟩;refine DL (λz y a=>⟨a.1,?_⟩) _ _ _ _ n.2.2;let⟨x,a⟩:=a.2;refine xw (λst a=>⟨rfl,a⟩) _ _ _ (Fp _ _ _ _ _ a))
   rw[c]
   exact this.imp λe st a=>by obtain⟨rfl,a⟩:=a;exact s st a
  .exact h.elim
 .exact h.elim
end
def FG(b a:aF):Prop:=qeg b.tmps a.tmps=a.tmps/\qha b.boxes a.boxes=a.boxes/\(a.own.all λx=>Y (x∈b.own))=T
def fr(a:aF):a.tmps=a.tmps/\a.boxes=a.boxes/\T=true:=⟨rfl,rfl,rfl⟩
def FG.weak{P:I}{m:Nat}{st st0:aF}(h:FG st st0):IP P m st st0:=by let⟨a,b,c⟩:=h;have:=IP.forget (P:=P) (m:=m) (st:=st) st0.tmps st0.boxes st0.own (λx d=>by simpa using oR.1 c x d);rw[a,b]at this;exact this
def X8(P:I)(GE:List (Nat×List U))(A:List Nat)(m:Nat):W->List It->aF->(Exit->List It->aF->Prop)->Prop
 |.skip,sc,d,i=>i .normal sc d
 |.label _,sc,d,i=>i .normal sc d
 | .region _ ops draw,sc,d,i => match draw with
  |false=>match ops.toList.all iv with
   |true=>qlJ d.boxes (g9 P ops.toList) λH=>X9 P GE A ops (i .normal) ops.toList 0 d.boxes.length sc ⟨d.tmps,H,d.own⟩
   |false=>False
  |true=>match sc with
   |.dr an::sc'=>To P GE A ops an [] [] [] (i .normal) sc' d
   |.dx an X br rw::sc'=>To P GE A ops an X br rw (i .normal) sc' d
   |.k::.dx an X br rw::sc'=>qf0 P GE A ops an X br rw (i .normal) sc' d
   |_=>False
 | .seq a b,sc,d,i =>
  let h (e:Exit) (sc:List It) (d:aF):Prop:=match e with
   |.normal=>ql6 m sc d λsc d=>X8 P GE A m b sc d i
   |e=>i e sc d
  match sc with
  |.pa 0::.pc st0 e st1::sc'=>FG d st0/\fx P GE m a (EX e st1) st0/\h e sc' st1
  |.pa (n+1)::sc'=>X8 P GE A m a (.pa n::sc') d h
  |sc=>X8 P GE A m a sc d h
 | .cond c a b,sc,d,i => y3 GE d.tmps c fun v => match v with
  | .bool t => match sc with
   |.k::sc'=>match t with
    |true=>ql6 m sc' d λsc d=>X8 P GE A m a sc d i
    |false=>ql6 m sc' d λsc d=>X8 P GE A m b sc d i
   |.g _ x::sc'=>t=x/\match x with
    |true=>ql6 m sc' d λsc d=>X8 P GE A m a sc d i
    |false=>ql6 m sc' d λsc d=>X8 P GE A m b sc d i
   |_=>False
  |_=>False
 |.block id c,sc,d,i=>X8 P GE A m c sc d λe sc d=>match e with
  |.exit id'=>if id'=id then i .normal sc d else i (.exit id') sc d
  |e=>i e sc d
 |.exit id,sc,d,i=>i (.exit id) sc d
 |.ret,sc,d,i=>i .ret sc d
 |.loop c,sc,d,i=>match sc with
  |.pc st0 e st1::sc'=>FG d st0/\fx P GE m (.loop c) (EX e st1) st0/\i e sc' st1
  |_=>False
 |_,_,_,_=>False
section
variable{P:I}{GE:V (Nat×V U)}{A:V Nat}{m:Nat}
def mP(p:P.follows .mixedOrders=T):∀(c:W)(sc:List It)(st:aF)(L:Exit->List It->aF->Prop),X8 P GE A m c sc st L->fx P GE m c (λe n=>∃d,L e d n) st
 |.skip,sc,st,L,h=>fx.skip ⟨sc,h⟩
 |.label _,sc,st,L,h=>fx.label ⟨sc,h⟩
 | .region id ops draw,sc,st,L,h => by
  simp only[X8]at h;cases draw with
  | false =>
   simp only at h;split at h;.rename_i H;simp only[qlJ,bp]at h;exact fx.text H (Fp _ _ _ _ _ h)
   .exact h.elim
  | true =>
   simp only at h;split at h;.exact U4 p (λst i=>i) h
   .exact U4 p (λst i=>i) h
   .exact qdt p (λst i=>i) h
   .exact h.elim
 | .seq a b,sc,st,L,h => by
  have qje:∀(e:Exit)(d:List It)(n:aF),(match e with|.normal=>ql6 m d n (λsc st=>X8 P GE A m b sc st L)|e=>L e d n)->(match e with|.normal=>fx P GE m b (λe n=>∃d,L e d n) n|e=>∃d,L e d n):=by intro e d n i;cases e with|normal=>let⟨r,s,B,i⟩:=qbx (P:=P) i;exact fx.weak B (mP p b r s L i)|exit id=>exact⟨_,i⟩|goto l=>exact⟨_,i⟩|ret=>exact⟨_,i⟩|panic c=>exact⟨_,i⟩|outgrown=>exact⟨_,i⟩
  simp only[X8]at h;refine fx.seq ?_;split at h;.rename_i E e w d;let⟨o,y,z⟩:=h;refine fx.weak o.weak (EX.of y ?_);have:=qje e d w z;cases e<;>exact this
  .exact(mP p a _ st _ h).imp λe n i=>by let⟨d,i⟩:=i;have:=qje e d n i;cases e<;>exact this
  .exact(mP p a _ st _ h).imp λe n i=>by let⟨d,i⟩:=i;have:=qje e d n i;cases e<;>exact this
 | .cond c a b,sc,st,L,h => by
  simp only[X8,di]at h;have go:∀{x:W}(i:∀(sc:List It)(st:aF),X8 P GE A m x sc st L->fx P GE m x (λe n=>∃d,L e d n) st){sc:List It},ql6 m sc st (λsc st=>X8 P GE A m x sc st L)->fx P GE m x (λe n=>∃d,L e d n) st:=by intro x i sc h;let⟨r,s,B,h⟩:=qbx (P:=P) h;exact fx.weak B (i r s h)
  split at h
  .rename_i t F;split at h
   .rename_i d;refine fx.cond F (λo=>?_) (λo=>?_);.subst o;exact go (λsc st=>mP p a sc st L) h
    .subst o;exact go (λsc st=>mP p b sc st L) h
   .rename_i j x d;obtain⟨rfl,h⟩:=h;refine fx.cond F (λo=>?_) (λo=>?_);.subst o;exact go (λsc st=>mP p a sc st L) h
    .subst o;exact go (λsc st=>mP p b sc st L) h
   .exact h.elim
  .exact h.elim
 | .block id c,sc,st,L,h => by
  simp only[X8]at h;refine fx.block ((mP p c _ st _ h).imp λe n i=>?_);let⟨d,i⟩:=i;cases e with
  | exit id' =>
   simp only[qfE];simp only at i;split at i;.rename_i q;rw[hU q];exact⟨d,i⟩
   .rename_i q;rw[hG q];exact⟨d,i⟩
  |normal=>exact⟨d,i⟩
  |goto l=>exact⟨d,i⟩
  |ret=>exact⟨d,i⟩
  |panic c=>exact⟨d,i⟩
  |outgrown=>exact⟨d,i⟩
 |.exit id,sc,st,L,h=>fx.exit ⟨sc,h⟩
 |.ret,sc,st,L,h=>fx.ret ⟨sc,h⟩
 | .loop c,sc,st,L,h => by
  simp only[X8]at h;split at h;.rename_i E e w d;let⟨o,y,z⟩:=h;exact fx.weak o.weak (EX.of y ⟨d,z⟩)
  .exact h.elim
 |.rangeFunc ..,_,_,_,h=>by simp[X8]at h
 |.scope _,_,_,_,h=>by simp[X8]at h
 |.goto _,_,_,_,h=>by simp[X8]at h
 |.refuse _,_,_,_,h=>by simp[X8]at h
def FN(b:Exit)(a:aF):Exit->V It->aF->Prop:=λe _ c=>b=e/\FG c a
def piece(e:P.follows .mixedOrders=T){c:W}{d:Exit}{a st:aF}(sc:V It)(h:X8 P GE A m c sc st (FN d a)):fx P GE m c (EX d a) st:=
 (mP e c sc st _ h).mono λ_ _ b=>by let⟨_,b⟩:=b;exact⟨a,b.2.weak,b.1.symm,rfl⟩
def Rn(a:List ResultVar)(b:List (Nat×G))(c:aF):K:=b.all (λx=>Y ((fS a x.1,x.2)∈c.own)&&(match a with|[.tmp _]=>T|[_]=>Z|a=>match a[x.1]? with|some (.tmp t)=>(c.tmps.getD t .undef).isSlice|_=>Z))&&b.all (λx=>b.all λy=>!Y (fS a x.1=fS a y.1)||decide (x.1=y.1))
def PVal.isAgg:U->K|.agg _=>T|_=>Z
def qgR(P:I)(h:V ResultVar)(r:U)(c:V (Nat×G))(d:aF):Prop:=∃(t:Tmp)(ty:G)(i a:Nat)(b:V U)(own:V (Nat×G))(l:V U),h=[.cell t ty]/\(∃e,P.underlying ty=O (.struct e))/\d.tmps.getD t .undef=.bptr i a/\d.boxes[i]? =O (.cells b own)/\ r=.agg l/\co P ty (b.drop a)=O (.agg l)/\r.cl 0/\(∀x∈c,(a+x.1,x.2)∈own/\x.1<l.length)/\(c.map (·.1)).Nodup
def qpy(P:I)(b:V ResultVar)(r:U)(a:V (Nat×G))(e:Exit)(c:aF):Prop:=qwK P b r a [] e c\/((e=.normal\/e=.ret)/\qgR P b r a c)
def qlk(P:I)(c:List ResultVar)(a:List (Nat×G))(b:aF):K:=match c with
 | [.cell t ty] => match P.underlying ty with
  | some (.struct _) => match b.tmps.getD t .undef with
   |.bptr i off=>match b.boxes[i]? with|some (.cells _ own)=>a.all (λx=>Y ((off+x.1,x.2)∈own)&&Y (x.1<P.cellsOf ty))&&xt (a.map (·.1))|_=>Z
   |_=>Z
  |_=>Z
 |_=>Z
section
variable{P:I}{E:BP}{Γ:ca}{bs:cF}{c:Nat->Q rI}{w:J}{a:Array D}{st:aF}
def SR.pushed(h:SR P E Γ bs c w a st){v:D}{p:U}(B:VR Γ bs w p v):SR P E Γ bs c w (a.push v) {st with tmps:=st.tmps++[p]}:=
 { h with
  sz:=by simp[h.sz]
  tm:=λt q u d i=>by
   by_cases n:t<a.size;.rw[vcK n]at i;simp only at d;rw[B2 (by rw[<-h.sz];exact n)]at d;exact h.tm t q u d (by rw[<-i];simp[n])
   .have b:t<(a.push v).size:=(vao.1 i).1;have o:t=a.size:=by simp at b;omega
    subst o;simp only at d;rw[vav (by rw[h.sz];exact m7 _),h.sz]at d;simp at d i;subst d;subst i;exact B
  ot:=λt k e z=>by let⟨u,F,r,s,x,y⟩:=h.ot t k e z;have b:t<a.size:=(vao.1 r).1;exact⟨u,F,by rw[vcK b,<-r];simp[b],s,x,y⟩}
def SR.finishCell(h:SR P E Γ bs c w a st){fn:Func}{r:U}{ro:List (Nat×G)}(hr:qgR P fn.results.toList r ro st):∃v q,(results fn a).run P w=.ok v w/\SR P E Γ [] q w #[v] ⟨[r],[],ro.map λx=>((0,x.1),x.2)⟩:=by
 obtain⟨t,ty,i,off,cs,own,l,B,⟨fs,S⟩,ht,H,rfl,hp,R,o,X⟩:=hr;have a0:VU P st fn.results.toList=O (.agg l):=by rw[B];show qU P ty (st.tmps.getD t .undef) st.boxes=_;rw[ht];simp only[qU,H,hp]
 let⟨v,e1,e2,_⟩:=Gd h a0;have p:=h.getD t;rw[ht]at p;generalize a2:a.getD t undef=vt at p;cases p with|bptr _ _ b hb=>
 let⟨L,q1,q2,q3⟩:=Tz h hb H hp;have a3:L=v:=by
  have z:fn.results=#[.cell t ty]:=by
   have:fn.results=fn.results.toList.toArray:=by simp
   rw[this,B]
  have n:(results fn a).run P w=.ok L w:=by
   simp[results,z,asAddr];have F:a[t]?.getD undef=.pointer (O ⟨b,off,N⟩):=by rw[<-vaE];exact a2
   rw[F];simp[q1]
  rw[e1]at n;cases n;rfl
 subst a3;have g1:=h.pushed e2;let⟨q,g2⟩:=SR.takeOwns (off:=off) (d:=a.size) (u:=L) hb (by simp) ro g1 H (λx s=>(o x s).1) X λx s=>by have:=q3 ⟨_,S,md⟩ x.1 (o x s).2;let⟨v',z1,_⟩:=h.ob i (off+x.1) x.2 cs own b H (o x s).1 hb;exact⟨v',this.trans z1,z1⟩
 refine⟨L,SJ (λk=>(a.size,k)) ro q,e1,?_⟩;have hf:=g2.finish (H':=[]) (src:=λk=>(a.size,k)) (ro:=ro) e2 R (by unfold eO;trivial) (λx s=>⟨?_,λu v' hu a1=>?_⟩) (λx _ y _ e=>by simpa using e);.simpa using hf
 .exact vaU _ (vch.2 (m8.2 ⟨x,s,rfl⟩))
 .simp at hu;subst hu;exact a1
end
def quE(P:I)(a:List ResultVar)(r:U)(c:List (Nat×G))(b:aF):Prop:=match Rn a c b with
 |true=>match VU P b a with|some p=>p=r/\r.cl 0|none=>False
 | false => match qlk P a c b with
  |true=>match VU P b a with|some p=>p=r/\r.cl 0/\r.isAgg=T|none=>False
  |false=>False
def FR(P:I)(b:List ResultVar)(r:U)(a:List (Nat×G)):Exit->List It->aF->Prop:=λe _ c=>match e with|.normal=>quE P b r a c|.ret=>quE P b r a c|_=>False
def C.ofSat{f:FuncId}{fn:Func}{c:W}{args:List U}{r:U}{ro:List (Nat×G)}
  (R:∀F w,(callFunc f F).run P w=.ok (.enter f F) w) (a6:P.funcs[f]? =O fn) (H:fn.body=O c)
  (s:fx P GE 0 c (qpy P fn.results.toList r ro) ⟨args++List.replicate (fn.ntmps - args.length) .undef,[],[]⟩):C P GE f args [] [] r ro []:=by
 refine⟨R,λΓ bs ow w F h=>calls_of_wp a6 H ?_⟩
 have a5:bs.length=0:=h.bl
 obtain rfl:bs=[]:=vaw a5
 have h0:SR P ⟨GE,Γ,w,λ_=>False⟩ Γ [] (λ_=>N) w (F++Array.replicate (fn.ntmps - F.size) undef) ⟨args++List.replicate (fn.ntmps - args.length) .undef,[],[]⟩:=by
  have a7:F.size=args.length:=h.sz
  exact{
   wi:=h.wi
   sz:=by simp[a7]
   tm:=λt p v s hv=>by
    simp only at s;by_cases ht:t<args.length;.rw[B2 ht]at s;rw[va4 (by omega)]at hv;exact h.tm t p v s hv
    .rw[vav (by omega),va7]at s;split at s<;>cases s;exact .undef v
   bl:=rfl
   bx:=λi b B hi=>by simp at hi
   inj:=λi j b hi=>by simp at hi
   bn:=λi b hi=>by simp at hi
   on:=λb L hL=>by cases hL
   ot:=λt k e he=>by simp at he
   ob:=λi j e cs own b hB=>by simp at hB
   gl:=h.gl
   gc:=h.gc
   gx:=λg cs hg=>⟨(h.gx g cs hg).1,λz=>z,(h.gx g cs hg).2.2⟩
   step:=.refl _ _ _ _}
 have hE:qag GE 0 ⟨GE,Γ,w,λ_=>False⟩:={
  ge:=rfl
  low:=λb n H=>h.lt_of_ghost H
  nt:=λ_ _ z=>z
  gl:=h.gl}
 have a8:=s N ⟨GE,Γ,w,λ_=>False⟩ [] ⟨F++Array.replicate (fn.ntmps - F.size) undef,[]⟩ w hE rfl ⟨Γ,[],_,h0,λi _=>rfl⟩
 refine wp_mono a8 λe a X hq=>?_
 let⟨hd,st,⟨a1,a4,a3,d,hk⟩,o⟩:=hq
 have hS:SR P ⟨GE,Γ,w,cG [] ow⟩ a1 a4 a3 X a.tmps st:={d with
  bn:=λi b H=>(d.bn i b H).elim False.elim .inr
  on:=λb L hL=>⟨(d.on b L hL).1,(d.on b L hL).2.elim False.elim .inr⟩
  gx:=h.gx
  step:={d.step with keep:=λb H _=>d.step.keep b H (λz=>z)}}
 have a2:(VU P st fn.results.toList=O r/\r.cl 0/\eO 0 st.boxes []/\(∀x∈ro,(fS fn.results.toList x.1,x.2)∈st.own/\AD st fn.results.toList x.1)/\
   (∀x∈ro,∀y∈ro,fS fn.results.toList x.1=fS fn.results.toList y.1->x.1=y.1))->
   a.defers=[]/\∃v,(results fn a.tmps).run P X=.ok v X/\∃S a0 q,Ending.returned v=.returned S/\SR P ⟨GE,Γ,w,cG [] ow⟩ a0 [] q X #[S] ⟨[r],[],ro.map λx=>((0,x.1),x.2)⟩:=by
  rintro⟨k1,k2,k3,k4,k5⟩
  let⟨v,e1,e2,e3⟩:=Gd hS k1
  refine⟨hd,v,e1,v,a1,SJ (fS fn.results.toList) ro a3,rfl,?_⟩
  have hf:=hS.finish (H':=[]) (src:=fS fn.results.toList) (ro:=ro) e2 k2 k3 (λx z=>⟨(k4 x z).1,λu S=>e3 x.1 u S (k4 x z).2⟩) k5
  simpa using hf
 have E:qgR P fn.results.toList r ro st->
   a.defers=[]/\∃v,(results fn a.tmps).run P X=.ok v X/\∃S a0 q,Ending.returned v=.returned S/\SR P ⟨GE,Γ,w,cG [] ow⟩ a0 [] q X #[S] ⟨[r],[],ro.map λx=>((0,x.1),x.2)⟩:=by
  intro hc
  let⟨v,q,e1,e2⟩:=hS.finishCell hc
  exact⟨hd,v,e1,v,a1,q,rfl,e2⟩
 rcases o with o|⟨he,o⟩
 .cases e with
  |normal=>exact a2 o
  |ret=>exact a2 o
  |exit id=>exact o.elim
  |goto l=>exact o.elim
  |panic c=>exact o.elim
  |outgrown=>exact o.elim
 .rcases he with rfl|rfl
  .exact E o
  .exact E o
def qcB{rs:List ResultVar}{r:U}{ro:List (Nat×G)}{st:aF}(c:Rn rs ro st=T)(s:VU P st rs=O r)(d:r.cl 0):VU P st rs=O r/\r.cl 0/\eO 0 st.boxes []/\(∀x∈ro,(fS rs x.1,x.2)∈st.own/\AD st rs x.1)/\
      (∀x∈ro,∀y∈ro,fS rs x.1=fS rs y.1->x.1=y.1):=by
  unfold Rn at c
  rw[ne]at c
  let⟨n,p⟩:=c
  refine⟨s,d,by unfold eO;cases st.boxes<;>trivial,λx e=>?_,λx e y w i=>?_⟩
  . have:=oR.1 n x e
    rw[ne]at this
    refine⟨by simpa using this.1,?_⟩
    have b:=this.2
    clear s this n p
    rcases rs with _|⟨y,_|⟨z,rs⟩⟩
    .simp at b
    . cases y with
      |tmp t=>trivial
      |cell t ty=>cases b
    . have a:∀ o:Q ResultVar,(match o with
        |some (.tmp t)=>(st.tmps.getD t .undef).isSlice
        |_=>Z)=T->(match o with
        |some (.tmp t)=>(st.tmps.getD t .undef).isSlice=T
        |_=>False):=by
        intro o
        cases o with
        |none=>intro h;cases h
        |some q=>cases q<;>intro h<;>first|exact h|cases h
      cases y with
      |tmp t=>exact a _ b
      |cell t ty=>exact a _ b
  . have:=oR.1 (oR.1 p x e) y w
    simpa[i]using this
def quE.to{L:V ResultVar}{r:U}{H:V (Nat×G)}{st:aF}{e:Exit}(E:e=.normal\/e=.ret)(h:quE P L r H st):qpy P L r H e st:=by
 unfold quE at h;split at h
 .rename_i a;split at h;.rename_i p y;obtain⟨rfl,c⟩:=h;have:=qcB a y c;rcases E with rfl|rfl<;>exact .inl this
  .exact h.elim
 .split at h
  .rename_i a;split at h
   .rename_i p y;obtain⟨rfl,c,b⟩:=h;refine .inr ⟨E,?_⟩;unfold qlk at a;split at a
    .rename_i t ty _;split at a
     .rename_i X n;split at a
      .rename_i i w F;split at a
       .rename_i z own B;rw[ne]at a;let⟨R,S⟩:=a;have s:co P ty (z.drop w)=O p:=by have q:qU P ty (st.tmps.getD t .undef) st.boxes=O p:=y;rw[F]at q;simpa only[qU,B]using q
        cases p<;>simp only[PVal.isAgg]at b<;>first|(cases b;done)|skip
        rename_i l;have o:l.length=P.cellsOf ty:=by
         have d:=s;unfold co at d;rw[n]at d;simp only at d;split at d;.rename_i hh;cases d;rw[vbg];omega
         .cases d
        refine⟨t,ty,i,w,z,own,l,rfl,⟨X,n⟩,F,B,rfl,s,c,λx hx=>?_,pe S⟩;have:=oR.1 R x hx;simp only[ne,nm]at this;exact⟨this.1,by rw[o];exact this.2⟩
       .cases a
      .cases a
     .cases a
    .cases a
   .exact h.elim
  .exact h.elim
def FR.to{b:V ResultVar}{r:U}{a:V (Nat×G)}{e:Exit}{sc:V It}{st:aF}(h:FR P b r a e sc st):qpy P b r a e st:=by
 unfold FR at h;split at h;.exact h.to (.inl rfl)
 .exact h.to (.inr rfl)
 .exact h.elim
def C.ev(q:P.follows .mixedOrders=T){f:FuncId}{fn:Func}{c:W}{a:V U}{r:U}{ro:V (Nat×G)}
  (b:∀o w,(callFunc f o).run P w=.ok (.enter f o) w) (i:P.funcs[f]? =O fn) (p:fn.body=O c) (d:kT 0 a) (sc:V It)
  (h:X8 P GE A 0 c sc ⟨a++List.replicate (fn.ntmps - a.length) .undef,[],[]⟩ (FR P fn.results.toList r ro)):CC P GE f a r ro:=
 ⟨d,C.ofSat b i p ((mP q c sc _ _ h).imp λe t n=>by let⟨s,n⟩:=n;exact n.to)⟩
end
abbrev ae:=V UInt8
abbrev cz(n:Int):Int:=IntKind.i64.wrap n
def cS(s:ae):V U:=[.str s]
def cI(k:IntKind)(n:Int):V U:=[.int k n]
def cB(b:K):V U:=[.bool b]
def sl{α:Type}(c:α->V U)(l:V α):U:=.slice (l.map c)
def cL{α:Type}(c:α->V U)(l:V α):V U:=[sl c l]
def lq(s:ae)(i:Int):Q Int:=(bY s i).map λc=>(c.toNat:Int)
def bd:Q Int->Nat->Q Nat|none,d=>O d|some i,_=>if 0<=i then O i.toNat else N
def XK{α:Type}(l:List α)(lo c:Q Int):Q (List α):=match bd lo 0,bd c l.length with|some a,O b=>if a<=b/\b<=l.length then O ((l.take b).drop a)else N|_,_=>N
def app{α:Type}(l r:V α):Q (V α):=if l.length+r.length<=P1 then O (l++r)else N
def UT(a b:ae):Q ae:=if a.length+b.length<=qjB then O (a++b)else N
def qu(k:IntKind)(a b:Int):Q Int:=if b=0 then N else O (k.wrap (a.tdiv b))
def re(a b:Int):Q Int:=if b=0 then N else O (a.tmod b)
def Qg{α:Type}(m:V (ae×α))(k:ae):Q α:=(m.find? λe=>k==e.1).map (·.2)
def Zl{α:Type}(m:List (ae×α))(k:ae)(v:α):List (ae×α):=match m with|[]=>[(k,v)]|e::r=>if k==e.1 then(k,v)::r else e::Zl r k v
def U1{α:Type}(f:α->U)(m:V (ae×α)):V (U×U):=m.map λe=>(.str e.1,f e.2)
def QG:TypeDesc->K|.struct _=>Z|.array _ _=>Z|_=>T
def dz{P:I}{t:G}(h:(P.underlying t).any QG=T)(p:U)(r:V U):co P t (p::r)=O p:=by
 unfold co;split;.rename_i a;rw[a]at h;cases h
 .rename_i a;rw[a]at h;cases h
 .rfl
 .rename_i a;rw[a]at h;cases h
structure SE{α:Type}(P:Program)(T e:TypeId)(c:α->List PVal):Prop where
 hu:P.underlying T=some (.slice e)
 hc:∀x,(c x).length=P.cellsOf e
 hi:(P.info? e).isSome=true
 hp:0<P.cellsOf e
 hz:(ft P e).map (·.length)=some (P.cellsOf e)
 hb:P.bytesOf e<=65536
 ho:∀x,∀q∈c x,q.one=true
 cl:∀x,kT 0 (c x)
def dn{α:Type}{c:α->V U}(h:∀x,kT 0 (c x))(l:V α):(sl c l).cl 0:=by unfold sl;simp only[PVal.cl];exact qkl λp a=>by obtain⟨x,_,rfl⟩:=m8.1 a;exact h x
def qi4(s:ae):kT 0 (cS s):=⟨md,md⟩
def qw9(k:IntKind)(n:Int):kT 0 (cI k n):=⟨md,md⟩
def qCy(b:K):kT 0 (cB b):=⟨md,md⟩
def qzH{α:Type}{c:α->V U}(h:∀x,kT 0 (c x))(l:V α):kT 0 (cL c l):=⟨dn h l,md⟩
def Qd{α:Type}{l:V α}{i:Int}{x:α}(h:bY l i=O x):0<=i/\l[i.toNat]? =O x:=by
 unfold bY at h;split at h;.exact⟨‹_›,h⟩
 .cases h
def aI{a b:Prop}(h:a)(c:b):a/\b:=⟨h,c⟩
def rP(p:U):p=p:=rfl
def lf{β:Type}{a r:β}(h:O a=O r):a=r:=vbh h
abbrev u:U:=.undef
def qCO(x:ae):bH (.str x)=O (cS x):=rfl
def qA6(k:IntKind)(x:Int):bH (.int k x)=O (cI k x):=rfl
def qCN(x:K):bH (.bool x)=O (cB x):=rfl
def qwn{α:Type}(c:α->V U)(x:V α):bH (sl c x)=O (cL c x):=rfl
def qzW(x:ae):∀q∈cS x,q.one=true:=by intro q a;simp[cS]at a;subst a;rfl
def qwm(k:IntKind)(x:Int):∀q∈cI k x,q.one=true:=by intro q a;simp[cI]at a;subst a;rfl
def jG:W->List K->W
 |c,[]=>c
 |.seq a b,x::l=>match x with|false=>jG a l|true=>jG b l
 |.cond _ a b,x::l=>match x with|false=>jG a l|true=>jG b l
 |.block _ c,_::l=>jG c l
 |.loop c,_::l=>jG c l
 |c,_=>c
section
variable{P:I}{T e:G}{α:Type}{c:α->V U}
def SE.ia(s:SE P T e c){l:V α}{i:Int}{x:α}(h:bY l i=O x):n9 P T (sl c l) (.int .i64 i)=O (.eptr (c x)):=by let⟨a,b⟩:=Qd h;unfold sl n9;simp only[s.hu,hU a,t8,b,oo];rw[hU ⟨s.hc x,s.hi⟩]
def SE.ln(s:SE P T e c)(l:V α):∀H,TG P T (sl c l) H=O (.int .i64 (l.length:Int)):=λH=>by unfold sl TG;simp only[s.hu,vbJ]
def ZS{o:Q Int}{d n:Nat}{k:IntKind}(h:bd o d=O n):Zp (o.map (PVal.int k)) d=O n:=by cases o with|none=>exact h|some i=>exact h
def SE.sc(s:SE P T e c){l r:V α}{lo m:Q Int}(h:XK l lo m=O r):QD P T (sl c l) (lo.map (PVal.int .i64)) (m.map (PVal.int .i64)) N=O (sl c r):=by
 unfold XK at h;split at h
 .rename_i a b n o;split at h
  .rename_i i;cases h;unfold sl QD;simp only[s.hu,ZS n];rw[show(l.map c).length=l.length by simp,ZS o];simp only;have d:∀x∈(l.map c).take 1,x.length=P.cellsOf e:=λx d=>by obtain⟨y,_,rfl⟩:=m8.1 (vcV d);exact s.hc y
   rw[hU ⟨i.1,i.2,s.hi,d⟩,List.map_drop,List.map_take]
  .cases h
 .cases h
def SE.ap(s:SE P T e c){l r z:V α}(h:app l r=O z):DR P T (l.map c) (r.map c)=O (sl c z):=by
 unfold app at h;split at h
 .cases h;unfold DR sl;simp only[s.hu,vbJ];have b:∀x∈l.map c,x.length=P.cellsOf e:=λx a=>by obtain⟨y,_,rfl⟩:=m8.1 a;exact s.hc y
  have d:∀x∈r.map c,x.length=P.cellsOf e/\∀q∈x,q.one=true:=λx a=>by obtain⟨y,_,rfl⟩:=m8.1 a;exact⟨s.hc y,s.ho y⟩
  rw[hU ⟨‹_›,s.hb,s.hp,s.hz,b,d⟩,va1]
 .cases h
def qeJ{v:α->U}{sz:Nat}(b:∀x,bH (v x)=O (c x))(a:∀x,(c x).length=sz):∀(l:List α)(i:Nat),Qo sz i ((l.map v).zipIdx i|>.map λx=>(x.2,x.1))=O (l.map c)
 |[],i=>by simp[Qo]
 |x::l,i=>by have d:=qeJ b a l (i+1);simp only[ox,List.zipIdx_cons,Qo,b x];simp[d,a x]
def SE.mk'(s:SE P T e c){v:α->U}(b:∀x,bH (v x)=O (c x))(l:List α)(n:Nat)(a:(Y (l.length=n)&&Y (n * P.cellsOf e<=16777216))=true):gV P T n ((l.map v).zipIdx 0|>.map λx=>(x.2,x.1))=O (sl c l):=by
 simp only[ne,nm]at a;unfold gV sl;simp only[s.hu,qeJ b s.hc];have d:(ft P e).isSome=true:=by
  cases h:ft P e with
  |none=>have:=s.hz;rw[h]at this;cases this
  |some z=>rfl
 rw[hU ⟨by simpa using a.1,d,s.hp,a.2,s.hz⟩]
def gW{t:G}(h:P.underlying t=O .string){s:ae}{i x:Int}(a:lq s i=O x):L3 P t (.str s) (.int .i64 i)=O (.int .u8 x):=by
 unfold lq at a;cases d:bY s i with
 |none=>rw[d]at a;cases a
 |some b=>rw[d]at a;cases a;let⟨m,n⟩:=Qd d;unfold L3;simp only[h,hU m,n,oo]
def qvr{β:Type}{t e:G}{n:Nat}{v:β->U}{l:V β}(h:P.underlying t=O (.array n e))(m:P.cellsOf e=1)(o:(P.info? e).isSome=true)(p:(P.underlying e).any QG=true)(q:Y (l.length=n)=true)
  {k:IntKind} {i:Int} {x:β} (b:bY l i=O x):L3 P t (.agg (l.map v)) (.int k i)=O (v x):=by
 let⟨d,b⟩:=Qd b
 have a:i.toNat<l.length:=(vbF.1 b).1
 have r:l.length=n:=by simpa using q
 unfold L3
 simp only[h]
 rw[hU ⟨d,by omega,o⟩,m,vb0,vaD (by simpa using a)]
 rw[dz p]
 simp only[vbO]
 rw[m6 a]at b
 cases b;rfl
def nD{t:G}(h:P.underlying t=O .string)(s:ae):∀H,TG P t (.str s) H=O (.int .i64 (s.length:Int)):=λH=>by unfold TG;simp only[h]
def V3{t:G}(o:P.underlying t=O .string){l r:ae}{lo d:Q Int}(h:XK l lo d=O r):QD P t (.str l) (lo.map (PVal.int .i64)) (d.map (PVal.int .i64)) N=O (.str r):=by
 unfold XK at h;split at h
 .rename_i a b i m;split at h;.rename_i n;cases h;unfold QD;simp only[o,ZS i,ZS m];rw[hU n]
  .cases h
 .cases h
def iO{t:G}{a b z:ae}(h:UT a b=O z):qb7 P .add t (.str a) (.str b)=O (.str z):=by
 unfold UT at h;unfold qb7 qrC;split at h;.cases h;simp only;rw[hU ‹_›]
 .cases h
def X3{t:G}{k:IntKind}{a b z:Int}(h:qu k a b=O z):qb7 P .quo t (.int k a) (.int k b)=O (.int k z):=by
 unfold qu at h;split at h;.cases h
 .rename_i d;cases h;simp only[qb7,qo4,if_true,hG d]
def X4{t:G}{k:IntKind}{a b z:Int}(h:re a b=O z):qb7 P .rem t (.int k a) (.int k b)=O (.int k z):=by
 unfold re at h;split at h;.cases h
 .rename_i d;cases h;simp only[qb7,qo4,if_true,hG d]
def qCA{s d:G}{k a:IntKind}(b:P.underlying s=O (.int k))(h:P.underlying d=O (.int a))(n:Int):Yn P s d (.int k n)=O (.int a (a.wrap n)):=by simp only[Yn,b,h]
def j6:List Int->Q ae|[]=>O []|n::r=>if 0<=n/\n<256 then(j6 r).map (UInt8.ofNat n.toNat::·)else N
def qca:∀(l:List Int),L1 (l.map (cI .u8))=j6 l
 |[]=>rfl
 |n::r=>by simp only[ox,cI,L1,j6];rw[<-qca r]
def qCz{s d e:G}(a:P.underlying s=O (.slice e))(b:P.underlying d=O .string)(i:P.underlying e=O (.int .u8)){l:V Int}{r:ae}(h:j6 l=O r):Yn P s d (sl (cI .u8) l)=O (.str r):=by unfold sl Yn;simp only[a,b,i,qca,h,oo]
def TF{f:α->U}(k:ae):∀(m:List (ae×α))(i:Nat),Qp (.str k) (U1 f m) i=O (match Qg m k with
  |none=>N
  |some v=>O (i+(m.findIdx λe=>k==e.1),f v))
 |[],i=>by simp[U1,Qp,Qg]
 | e :: m,i => by
  have a:=TF (f:=f) k m (i+1);unfold U1 at a ⊢;simp only[ox,Qp,qgJ];unfold Qg at a ⊢;by_cases h:(k==e.1)=true;.simp[h,vb9]
  .have b:(k==e.1)=false:=by simpa using h
   simp only[b,List.find?_cons,a,vb9];cases d:(List.find? (λe=>k==e.1) m)with|none=>simp|some v=>simp;omega
def qtK{t b a:G}{f:α->U}(d:P.underlying t=O (.map b a))(h:P.underlying b=O .string){z:α}(i:XA P a=O (f z))(m:List (ae×α))(k:ae):qck P t (U1 f m) (.str k) Z=O (f ((Qg m k).getD z)):=by unfold qck;simp only[d,h,uY,if_true,TF];cases Qg m k with|none=>simp[i]|some v=>simp
def qkQ(f:α->U)(k:ae)(v:α):∀(m:List (ae×α)),U1 f (Zl m k v)=match Qg m k with
  |none=>U1 f m++[(.str k,f v)]
  |some _=>(U1 f m).set (m.findIdx λe=>k==e.1) (.str k,f v)
 |[]=>by simp[Zl,Qg,U1]
 | e :: m => by
  have a:=qkQ f k v m;unfold Qg at a ⊢;unfold U1 at a ⊢;by_cases h:(k==e.1)=true;.simp[Zl,h,vb9]
  .have b:(k==e.1)=false:=by simpa using h
   simp only[Zl,b,List.find?_cons,vb9,ox];simp only[m5,if_false,ox,a];cases(List.find? (λe=>k==e.1) m)with|none=>simp|some v=>simp
def qtL{t a b:G}{f:α->U}(d:P.underlying t=O (.map a b))(h:P.underlying a=O .string)(m:List (ae×α))(k:ae)(v:α):qeK P t (U1 f m) (.str k) (f v)=O (U1 f (Zl m k v)):=by unfold qeK;simp only[d,h,uY,if_true,TF,qkQ];cases Qg m k with|none=>simp|some w=>simp
end
structure qlE(w w':World):Prop where
 os:w'.os=w.os
 tape:w'.tape=w.tape
 output:w'.output=w.output
 size:w.heap.size<=w'.heap.size
 drawn:dr w<=dr w'
 keep:∀b,b<w.heap.size->w'.heap[b]? =w.heap[b]?
def qlE.of_grow(w:J)(k:Nat)(os:Array Obj):qlE w (Sort.grow (w.drewN k) os):={
 os:=rfl
 tape:=rfl
 output:=rfl
 size:=by show w.heap.size<=(w.heap++os).size;simp
 drawn:=qra (vbC _ _)
 keep:=λb a=>by show(w.heap++os)[b]? =_;rw[va4 a]}
section
variable{P:I}{GE:V (Nat×V U)}
def qug{E:BP}{Γ:ca}{x:cF}{B:Nat->Q rI}{w:J}{a:Array D}{F:aF}(h:SR P E Γ x B w a F){g:Nat}{k:IntKind}{zs:List Int}{b:String}
  (r:(g,zs.map (PVal.int k))∈E.GE) (z:P.globalNamed b=O g):Lib.TabIs P w b k zs:=by
 let⟨_,_,_,c,t,fr,o,p⟩:=h.gnow r
 have s:=h.gl g _ r
 unfold Lib.TabIs World.var?
 rw[z]
 simp only[hN,o]
 congr 1
 refine Array.ext_getElem? λi=>?_
 generalize d:zs.map (PVal.int k)=cs at s
 cases s with
 |eptrE _ _=>
  have A:zs=[]:=by simpa using d
  subst A
  have e:c.size=0:=p
  rw[vbR (by omega),vbR (by simp)]
 | eptr _ _ _ n vals hg' hn' hc hvv =>
  subst d
  by_cases m:i<zs.length
  .have e:=hc i _ (by simp[m]:(zs.map (PVal.int k))[i]? =O (.int k zs[i]))
   have q:=hvv i _ (by simp[m]:(zs.map (PVal.int k))[i]? =O (.int k zs[i]))
   rw[ve]at e
   have y:w.cell? ⟨g,i,N⟩=c[i]?:=cell_of_row w g i c t fr o
   rw[y]at e
   rw[e]
   generalize vals i=vi at q
   cases q
   simp[m]
  .rw[vbJ]at p
   rw[vbR (by omega),vbR (by simp;omega)]
def CC.grownIS{f:FuncId}{n:Int}{s:ae}{k:IntKind}(x:∀y w,(callFunc f y).run P w=.ok (.enter f y) w)
  (h:∀E Γ z F w a st,E.GE=GE->SR P E Γ z F w a st->Calls P f #[.int k n] w λe w'=>e=.returned (.string ⟨s.toArray⟩)/\qlE w w'):CC P GE f [.int k n] (.str s) []:=by
 refine⟨⟨md,md⟩,x,λΓ z F w y d=>?_⟩
 have a0:y=#[.int k n]:=by
  have A:=d.sz;simp at A;have H:y[0]? =O y[0]:=by simp[A]
  have h3:=d.tm 0 _ _ rfl H;refine Array.ext (by simp[A]) λi hi S=>?_;have:i=0:=by simp at S;omega
  subst this;generalize y[0]=v at h3;cases h3;rfl
 subst a0
 refine(h _ Γ z F w _ _ rfl d).mono λe w' R=>?_
 obtain⟨rfl,q⟩:=R
 have L:z.length=0:=d.bl
 obtain rfl:z=[]:=vaw L
 have hW:=d.world (Γ':=Γ) (w':=w') (λ_=>False) (λb m r _=>⟨m,r,m7 _,λo _=>dQ (q.keep b (d.lt_of_ghost r)) o⟩)
  (λb m r=>by
   let⟨c,t,fr,A,H⟩:=d.wi b m r;exact⟨c,t,fr,(q.keep b (d.lt_of_ghost r)).trans A,H⟩) q.os q.tape q.output q.size (λb r _=>⟨q.keep b r,rfl⟩) (λ_ B=>B.elim) (λ_ _ _ B=>B) (λ_ _ _ B=>B) q.drawn
 refine⟨_,Γ,F,rfl,{hW with
  sz:=rfl
  tm:=λt p v X hv=>by cases t with|zero=>simp at X hv;subst X;subst hv;exact .str s|succ t=>simp at X
  ot:=λt k e R=>by simp at R}⟩
end
open Go Go.RowKit Go.WideShapes Go.ChangeShapes Go.ChangeAt
def P0(a:J):ca:=λb=>match a.heap[b]? with|some (.cells c _ _)=>O c.size|_=>N
def qd1{a:J}{b:Nat}{c:Array D}{t:G}{fr:Nat×Nat}(h:a.heap[b]? =O (.cells c t fr)):P0 a b=O c.size:=by unfold P0;rw[h]
def quF(a:J)(x:Nat×V U):Prop:=kT 0 x.2/\∃c t fr,a.heap[x.1]? =O (.cells c t fr)/\c.size=x.2.length/\∀(i:Nat) p v,x.2[i]? =O p->c[i]? =O v->VR (P0 a) [] a p v
section
variable{P:I}{GE:V (Nat×V U)}
def qiW{k:FuncId}{pargs:V U}{a:Array D}{a2:J}{b:K}(S:C P GE k pargs [] [] (.bool b) [] [])(hl:a.size=pargs.length)
  (hv:∀(i:Nat) p v,pargs[i]? =O p->a[i]? =O v->VR (P0 a2) [] a2 p v) (A:∀x∈GE,quF a2 x):Calls P k a a2 λe W'=>e=.returned (.bool b)/\Below a2.heap.size a2 W':=by
 have hS:SR P ⟨GE,P0 a2,a2,cG [] λ_=>N⟩ (P0 a2) [] (λ_=>N) a2 a ⟨pargs,[],[]⟩:={
  wi:=λb n y=>by
   unfold P0 at y;split at y;.rename_i c t fr hh;cases y;exact⟨c,t,fr,hh,m7 _⟩
   .cases y
  sz:=hl
  tm:=hv
  bl:=rfl
  bx:=λi b B h=>by simp at h
  inj:=λi j b h=>by simp at h
  bn:=λi b h=>by simp at h
  on:=λb L X=>by cases X
  ot:=λt k e E=>by simp at E
  ob:=λi j e w own b R=>by simp at R
  gl:=λg w r=>by
   let⟨_,c,t,fr,o,q,H⟩:=A _ r;refine .eptr w g 0 c.size (λk=>c.getD k undef) (qd1 o) (by simp only at q;omega) (λk p z=>?_) (λk p z=>?_)
   .have s:k<c.size:=by have:=ax z;simp only at q;omega
    rw[ve,cell_of_row a2 g k c t fr o];simp[vaE,s]
   .have s:k<c.size:=by have:=ax z;simp only at q;omega
    exact H k p _ z (by simp[vaE,s])
  gc:=λg w r=>(A _ r).1
  gx:=λg w r=>by
   let⟨_,c,t,fr,o,q,_⟩:=A _ r;refine⟨(vao.1 o).1,λm=>?_,c,t,fr,o,q⟩;rcases m with⟨i,h⟩|m;.simp at h
   .exact m rfl
  step:=.refl _ _ _ _}
 refine(S.2 (P0 a2) [] (λ_=>N) a2 a hS).mono λe W' E=>?_
 obtain⟨v,a1,a0,rfl,d⟩:=E
 have F:=d.tm 0 (.bool b) v rfl rfl
 cases F
 refine⟨rfl,d.step.os,d.step.tape,d.step.output,d.step.size,λk s=>(d.step.keep k s λm=>?_).1⟩
 rcases m with⟨i,h⟩|m
 .simp at h
 .exact m rfl
end
section
variable{H:Type}{enc:G×D->H}{P:I}{w:J}{base:Nat}{c:Nat->K}{m:K}{t:G}{d:Nat}
def qdQ{f:Func}{s:ChangeSpec}{a fresh h again:K}{W W':J}{e:Array D}{v:D}{A B:V (DataW H)}{before pa pv:V MemPlace}
    (R:DataW.Whole enc P f.params.toList s.vars a W e.toList A B before)
    (y:∀(b:Nat)(z:Nat->K)(hd:K),DataW.TrodAll enc P W' b z hd f.resultTypes.toList (v.resultList f.resultTypes.size) (s.fn H (A++B)).results [])
    (i:∀z:Nat->K,(∀p∈before,z p.block=T)->DataW.TrodAll enc P W' 0 z T f.params.toList e.toList (s.fn H (A++B)).args pa)
    (o:∀z:Nat->K,(∀p∈before,z p.block=T)->DataW.TrodVars enc P W' z s.vars (s.fn H (A++B)).vars pv)
    (q:before=pa++pv) (X:Below W.heap.size W W')
    (S:∀(j:Nat)(t:G)(r:D),f.resultTypes[j]? =O t->(v.resultList f.resultTypes.size)[j]? =O r->Value.okWide P W' .any 0 t r):
    s.post enc P f a fresh h again W e v W':=by
  have F:∀p∈before,p.block<W.heap.size:=λp n=>R.lt p n
  have x:∀p∈before,(λb=>Y (b<W.heap.size)) p.block=true:=λp n=>by simpa using F p n
  refine⟨A,B,before,[],pa,pv,R,y _ _ _,i _ x,o _ x,World.keptBut_mono (λp n=>⟨n,?_⟩) (X.frame (·∈before)),λ_=>?_⟩
  . rw [q,vaQ] at n
    exact Or.inr n
  . obtain ⟨_,_,_,_,_,hz,hn⟩:=R
    refine⟨S,_,_,([]++pa)++pv,⟨[]++pa,pv,trodAll_append (i _ (λ_ _=>rfl)) (y _ _ _),o _ (λ_ _=>rfl),rfl,?_,?_⟩,?_⟩
    . intro b L n
      have E:MemPlace.cell b L∈before:=by rw[q];simpa using n
      rw[X.frozen (F _ E)]
      exact hz b L E
    . intro ha
      have:=hn ha
      rw[q]at this
      simpa using this
    . intro p n _
      rw[q]
      simpa using n
def qd3(s:laidOutB P=T){A n:J}(r:Below A.heap.size A n){y:Nat->K}:∀{ts:List G}{z:List D}{o:List (DataW H)}{b:List MemPlace},(∀t∈ts,P.readableRec t=T/\t<P.types.size)->
  DataW.TrodAll enc P A 0 (λ_=>T) T ts z o b->(∀p∈b,p.block<A.heap.size)->(∀p∈b,y p.block=T)->DataW.TrodAll enc P n 0 y T ts z o b
 |[],[],[],_,_,h,_,_=>h
 | t :: _,_ :: _,_ :: _,_,ht,⟨p,q,h1,h2,e⟩,hlt,hs =>
  ⟨p,q,WideElems.Trod_stays s (ht t (by simp)).1 (ht t (by simp)).2 h1 (λx a=>r.same (hlt x (by rw[e];exact vaU _ a))) (λx a=>hs x (by rw[e];exact vaU _ a)),
   qd3 s r (λt i=>ht t (by simp[i])) h2 (λx a=>hlt x (by rw[e];exact vaM _ a)) (λx a=>hs x (by rw[e];exact vaM _ a)),e⟩
def qon{f:Func}{s:ChangeSpec}{W W':J}{e:Array D}{i z:V (DataW H)}{a:V MemPlace}(hl:laidOutB P=T)(S:f.resultTypes=#[t])(o:P.underlying t=O .bool)(y:s.vars=[])
  (h:(s.fn H (i++z)).results=[.lit (.bool T)]/\(s.fn H (i++z)).args=i/\(s.fn H (i++z)).vars=[]) (B:∀t∈f.params.toList,P.readableRec t=T/\t<P.types.size)
  (L:DataW.Whole enc P f.params.toList s.vars Z W e.toList i z a) (R:Below W.heap.size W W'):s.post enc P f Z T Z Z W e (.bool T) W':=by
 have n:=L
 obtain⟨p,q,hA,F,rfl,_,_⟩:=L
 rw[y]at F
 obtain⟨rfl,rfl⟩:=trodVars_none F
 have A:∀x∈p,x.block<W.heap.size:=λx E=>n.lt x (by simpa using E)
 refine qdQ (pa:=p) (pv:=[]) n (λb X hd=>?_) (λX hs=>?_) (λX _=>?_) rfl R (λj t' r hj hv=>?_)
 .rw[S,h.1]
  exact trodAll_cons_mk (shut_bool o _) trodAll_mk0
 .rw[h.2.1]
  exact qd3 hl R B hA A (λx E=>hs x (by simpa using E))
 .rw[y,h.2.2];rfl
 .exact ok_one S rfl (okWide_bool_mk o _) j t' r hj hv
def qhv(a:Addr)(i:Nat)(h:a.spot=N):a.add i=⟨a.block,a.off+i,N⟩:=by
 let⟨b,o,n⟩:=a;simp only at h;subst h;unfold Addr.add;split;.rename_i e;subst e;rfl
 .rfl
end
section
variable{P:I}{a:J}
def qbK:∀{e:List (String×DataW Unit)}{i:List MemPlace}{b:String}{d:DataW Unit},DataW.LaidVars P a e i->(b,d)∈e->
  ∃g t h c p,P.globalNamed b=O g/\(P.globals[g]?).map (·.type)=O t/\a.var? P b=O h/\DataW.trod (λ_=>()) P a 0 (λ_=>T) Z c t h.toList=O (d,p)
 |[],_,_,_,_,hm=>by cases hm
 |(n,d')::r,i,b,d,⟨g,t,h,c,p,q,h1,h2,h3,h4,h5,_⟩,hm=>by cases hm with|head=>exact⟨g,t,h,c,p,h1,h2,h3,h4⟩|tail _ hm=>exact qbK h5 hm
def qi2{b:String}{g:Nat}{d:Array D}(e:P.globalNamed b=O g)(h:a.var? P b=O d):∃t fr,a.heap[g]? =O (.cells d t fr):=by
 unfold World.var? at h;rw[e]at h;simp only[hN]at h;split at h;.rename_i c t fr i;cases h;exact⟨t,fr,i⟩
 .cases h
def qg3{H:Type}(l:V ae):DataW H:=.agg (l.map λs=>.lit (.string s))
def qdr{H:Type}{r:G×D->H}{base:Nat}{sp:Nat->K}{d:K}{c:Nat}{t e:G}{n:Nat}{q:List D}{o:List ae}{p:List MemPlace}
  (ht:P.underlying t=O (.array n e)) (S:P.underlying e=O .string) (w:P.cellsOf e=1) (x:P.cellsOf t=n)
  (h:DataW.trod r P a base sp d c t q=O (qg3 o,p)):q=o.map λz=>Value.string ⟨z.toArray⟩:=by
 cases c with
 |zero=>simp[DataW.trod]at h
 | succ c =>
  simp only[DataW.trod,ht,w,x,vb0]at h
  split at h
  .rename_i hl
   let⟨A,B,hx⟩:=vaF.1 h
   have m:A.map (·.1)=o.map λz=>(DataW.lit (.string z):DataW H):=by have:=mx Prod.fst hx;simpa[qg3]using this
   have a0:A.length=n:=by simpa using Lib.mapM_length B
   have a1:o.length=n:=by have:=mx List.length m;simp at this;omega
   apply vbj
   intro i
   by_cases hi:i<n
   .let⟨b,L,X⟩:=Lib.mapM_at B i i (by simp[hi])
    obtain⟨z,R,rfl,_⟩:=DataW.trod_string S X
    have E:q[i]? =O (.string z):=by have:=mx (·[0]?) R;simpa[List.getElem?_take,vbn]using this
    have s:(A.map (·.1))[i]? =O (DataW.lit (.string z.data.toList):DataW H):=by simp[L]
    rw[m]at s
    simp only[t8,vaF,DataW.lit.injEq,Lit.string.injEq]at s
    let⟨z',y,F⟩:=s
    simp only[E,t8,y,oo,F]
   .rw[va0 (by omega),va0 (by simp;omega)]
  .cases h
def qoa{x:Nat}{c:V U}{b:Array D}{t:G}{fr:Nat×Nat}(e:a.heap[x]? =O (.cells b t fr))(d:kT 0 c)(h:b.size=c.length)(m:∀(i:Nat) p v,c[i]? =O p->b[i]? =O v->VR (P0 a) [] a p v):quF a (x,c):=⟨d,b,t,fr,e,h,m⟩
def qby{b:V (String×DataW Unit)}{name:String}{d:DataW Unit}{g:Nat}{t e:G}{n:Nat}{k:IntKind}{A:V Int}(L:laidMet P b a)(hm:(name,d)∈b)(S:d=Lib.tabData k A)
  (y:P.globalNamed name=O g) (o:(P.globals[g]?).map (·.type)=O t) (ht:P.underlying t=O (.array n e)) (X:P.underlying e=O (.int k)) (h:P.cellsOf e=1) (m:P.cellsOf t=n):quF a (g,A.map (PVal.int k)):=by
 let⟨ps,R,_⟩:=L
 let⟨g',t',cs,w,p,B,E,F,H⟩:=qbK R hm
 obtain rfl:=vbh (y.symm.trans B)
 obtain rfl:=vbh (o.symm.trans E)
 subst S
 have x:=Lib.cells_of_tab ht X h m H
 let⟨ty,fr,hh⟩:=qi2 y F
 refine qoa hh (qjk λq c=>?_) (by simpa using mx List.length x) (λi q v c r=>?_)
 .obtain⟨z,_,rfl⟩:=m8.1 c
  simp[PVal.cl]
 .rw[<-vbb,x]at r
  simp only[t8,vaF]at c r
  obtain⟨z,hz,rfl⟩:=c
  obtain⟨z',s,rfl⟩:=r
  cases hz.symm.trans s
  exact .int _ _
def qh0{b:V (String×DataW Unit)}{name:String}{d:DataW Unit}{g:Nat}{t e:G}{n:Nat}{A:V ae}(L:laidMet P b a)(hm:(name,d)∈b)(S:d=qg3 A)
  (y:P.globalNamed name=O g) (o:(P.globals[g]?).map (·.type)=O t) (ht:P.underlying t=O (.array n e)) (X:P.underlying e=O .string) (h:P.cellsOf e=1) (m:P.cellsOf t=n):quF a (g,A.map PVal.str):=by
 let⟨ps,R,_⟩:=L
 let⟨g',t',cs,w,p,B,E,F,H⟩:=qbK R hm
 obtain rfl:=vbh (y.symm.trans B)
 obtain rfl:=vbh (o.symm.trans E)
 subst S
 have x:=qdr ht X h m H
 let⟨ty,fr,hh⟩:=qi2 y F
 refine qoa hh (qjk λq c=>?_) (by simpa using mx List.length x) (λi q v c r=>?_)
 .obtain⟨z,_,rfl⟩:=m8.1 c
  simp[PVal.cl]
 .rw[<-vbb,x]at r
  simp only[t8,vaF]at c r
  obtain⟨z,hz,rfl⟩:=c
  obtain⟨z',s,rfl⟩:=r
  cases hz.symm.trans s
  exact .str _
end
def qwc(w:J)(l:V (Nat×Array D)):J:={w with heap:=l.foldl (λh x=>h.modify x.1 λ|.cells _ t fr=>.cells x.2 t fr|o=>o) w.heap}
def qC6:U->D|.int k n=>.int k n|.str s=>.string ⟨s.toArray⟩|.bool b=>.bool b|_=>undef
def quh(l:V (Nat×V U)):V (Nat×Array D):=l.map λx=>(x.1,(x.2.map qC6).toArray)
end Go.Proofs.YtibglelmlnfojaaGreatDoor
