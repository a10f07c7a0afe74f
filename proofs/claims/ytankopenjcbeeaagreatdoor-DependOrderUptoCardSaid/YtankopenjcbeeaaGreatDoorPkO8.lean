/- PROVED: a part of the proof. Conditions: none. -/
import Derived.Test.YtankopenjcbeeaaGreatDoorPkO7
import Derived.Deep.Draws
import Derived.Sort.Grow
import Derived.Lib.LaidTab
import Derived.WalkKit
import Derived.ProofKit
import Derived.OpenShut
import Derived.Below
import Derived.ChangeSame
import Derived.SliceStrings
import Derived.ChangeMaps5
import Derived.WideKeyArgs
set_option linter.unusedSimpArgs false set_option linter.defProp false
set_option linter.unusedVariables false
noncomputable section
namespace Go.Proofs.YtankopenjcbeeaaGreatDoor
open Go
open Option renaming some→O,none→N
open Go renaming TypeId→G,Value→D,Program→I,Oper→M,World→J,Code→W
open Bool renaming true→T,false→Z
open Decidable renaming decide→Y
open YtankopenjcbeeaaGreatDoor renaming PVal→U
mutual

def PVal.no(i:Nat):U->Prop|.undef|.int _ _|.bool _|.str _|.val _=>True|.agg cs=>Yr i cs|.tuple cs=>Yr i cs|.slice es=>V1 i es|.eptr cs=>Yr i cs|.bptr j _=>j≠i|.bsl j _ _=>j≠i|.mapr j=>j≠i|.nptr j _=>j≠i|.func _ f c=>Yr i f/\Yr i c
def Yr(i:Nat):List U->Prop|[]=>True|p::ps=>p.no i/\Yr i ps
def V1(i:Nat):List (List U)->Prop|[]=>True|p::ps=>Yr i p/\V1 i ps
end
mutual
def Ld(i:Nat):∀(p:U),p.cl 0->p.no i
 |.undef,_=>by simp[PVal.no]
 |.int _ _,_=>by simp[PVal.no]
 |.bool _,_=>by simp[PVal.no]
 |.str _,_=>by simp[PVal.no]
 |.val _,_=>by simp[PVal.no]
 |.agg cs,h=>by simp_all[PVal.cl,PVal.no,BB]
 |.tuple cs,h=>by simp_all[PVal.cl,PVal.no,BB]
 |.slice es,h=>by simp_all[PVal.cl,PVal.no,Oq]
 |.eptr cs,h=>by simp_all[PVal.cl,PVal.no,BB]
 |.bptr j _,h=>by simp_all[PVal.cl]
 |.bsl j _ _,h=>by simp_all[PVal.cl]
 |.mapr j,h=>by simp_all[PVal.cl]
 |.nptr j _,h=>by simp_all[PVal.cl]
 |.func _ f c,h=>by simp_all[PVal.cl,PVal.no,BB]
def BB(i:Nat):∀(l:List U),ie 0 l->Yr i l
 |[],_=>by simp[Yr]
 |p::l,h=>by simp_all[ie,Yr,Ld,BB]
def Oq(i:Nat):∀(l:List (List U)),C0 0 l->V1 i l
 |[],_=>by simp[V1]
 |p::l,h=>by simp_all[C0,V1,BB,Oq]
end
def sH{n:Nat}:∀{l:List U}{i:Nat}{p:U},Yr n l->l[i]? =O p->p.no n
 |[],i,p,_,h=>by grind
 |q::l,0,p,h,hp=>by simp_all[Yr]
 |q::l,i+1,p,h,hp=>by simp only[Yr]at h;exact sH h.2 (by simpa using hp)
def Qm{n:Nat}:∀{l:List (List U)}{i:Nat}{p:List U},V1 n l->l[i]? =O p->Yr n p
 |[],i,p,_,h=>by grind
 |q::l,0,p,h,hp=>by simp_all[V1]
 |q::l,i+1,p,h,hp=>by simp only[V1]at h;exact Qm h.2 (by simpa using hp)
def VR.noi{Γ:aS}{r o:bC}{w:J}{p:U}{v:D}{n:Nat}(h:VR Γ r w p v)(c:p.no n)
  (q:∀(i b:Nat),i≠n->r[i]? =O (O b)->o[i]? =O (O b)):VR Γ o w p v:=by
 induction h with
 |undef v=>exact .undef v
 |int k n=>exact .int k n
 |bool b=>exact .bool b
 |str l=>exact .str l
 |val v=>exact .val v
 |agg cs vs hl _ ih=>simp only[PVal.no]at c;exact .agg cs vs hl λi p v d m=>ih i p v d m (sH c d)
 |tuple cs vs hl _ ih=>simp only[PVal.no]at c;exact .tuple cs vs hl λi p v d m=>ih i p v d m (sH c d)
 |sliceNil=>exact .sliceNil
 |sliceE a cap=>exact .sliceE a cap
 |slice es b off cap n sz vals h0 hcap hg hn hsz hcc _ ih=>
  simp only[PVal.no]at c
  exact .slice es b off cap n sz vals h0 hcap hg hn hsz hcc λi e k p s d=>ih i e k p s d (sH (Qm c s) d)
 |eptrE b off=>exact .eptrE b off
 |bsl i off k x cap hcap hnil h=>simp only[PVal.no]at c;exact .bsl i off k x cap hcap hnil (h.imp_right λ⟨b,t,y⟩=>⟨b,t,q i b c y⟩)
 |eptr cs b off n vals hg hn hcc _ ih=>
  simp only[PVal.no]at c
  exact .eptr cs b off n vals hg hn hcc λk p d=>ih k p d (sH c d)
 |bptr i off b h=>simp only[PVal.no]at c;exact .bptr i off b (q i b c h)
 |mapr i b h=>simp only[PVal.no]at c;exact .mapr i b (q i b c h)
 |nptrN i z=>exact .nptrN i z
 |nptr i b z h=>simp only[PVal.no]at c;exact .nptr i b z (q i b c h)
 |func fn first cap fs cs hl hl' _ _ ih ih'=>
  simp only[PVal.no]at c
  exact .func fn first cap fs cs hl hl' (λi p v d m=>ih i p v d m (sH c.1 d)) (λi p v d m=>ih' i p v d m (sH c.2 d))
inductive Fz(i:Nat)(es:List (List PVal)):PVal->PVal->Prop where
 |u (p:PVal):Fz i es p .undef
 |k (p:PVal) (h:p.no i):Fz i es p p
 |s (n:Nat) (h:n=es.length):Fz i es (.bsl i 0 n) (.slice es)
 |b (off:Nat):Fz i es (.bptr i off) (.eptr (es.flatten.drop off))
 |f (fn:Fn) (f c f' c':List PVal) (hl:f.length=f'.length) (hl':c.length=c'.length) (h:∀(j:Nat) p q,f[j]? =some p->f'[j]? =some q->Fz i es p q) (h':∀(j:Nat) p q,c[j]? =some p->c'[j]? =some q->Fz i es p q):Fz i es (.func fn f c) (.func fn f' c')
def qeo(i:Nat)(a:List (List U)):List U->List U->Prop|[],[]=>True|p::ps,q::qs=>Fz i a p q/\qeo i a ps qs|_,_=>False
inductive qm1(i:Nat)(es:List (List PVal)):ay->ay->Prop where
 |d (B:ay):qm1 i es B .dead
 |c (cs cs':List PVal) (own:List (Nat×TypeId)) (h:qeo i es cs cs'):qm1 i es (.cells cs own) (.cells cs' own)
 |k (cs:List PVal) (own:List (Nat×TypeId)) (h:Yr i cs):qm1 i es (.cells cs own) (.cells cs own)
 |m (l:List (PVal×PVal)) (h:∀x∈l,x.1.no i/\x.2.no i):qm1 i es (.map l) (.map l)
def WS(i:Nat)(a:List (List U)):List ay->List ay->Prop|[],[]=>True|p::ps,q::qs=>qm1 i a p q/\WS i a ps qs|_,_=>False
def qeo.len{i:Nat}{a:V (V U)}:∀{l r:V U},qeo i a l r->l.length=r.length
 |[],[],_=>rfl
 |[],_::_,h=>h.elim
 |_::_,[],h=>h.elim
 |_::_,_::_,h=>by simp[qeo.len h.2]
def qeo.get{i:Nat}{a:V (V U)}:∀{l r:V U},qeo i a l r->∀{j:Nat} {p q},l[j]? =O p->r[j]? =O q->Fz i a p q
 |[],[],_,j,p,q,hp,_=>by simp_all
 |[],_::_,h,_,_,_,_,_=>h.elim
 |_::_,[],h,_,_,_,_,_=>h.elim
 |_::_,_::_,h,0,p,q,hp,hq=>by simp at hp hq;subst hp;subst hq;exact h.1
 |_::_,_::_,h,j+1,p,q,hp,hq=>qeo.get h.2 (j:=j) (by simp_all) (by simp_all)
def WS.len{i:Nat}{a:V (V U)}:∀{l r:V ay},WS i a l r->l.length=r.length
 |[],[],_=>rfl
 |[],_::_,h=>h.elim
 |_::_,[],h=>h.elim
 |_::_,_::_,h=>by simp[WS.len h.2]
def WS.get{i:Nat}{a:V (V U)}:∀{l r:V ay},WS i a l r->∀{j:Nat} {p q},l[j]? =O p->r[j]? =O q->qm1 i a p q
 |[],[],_,j,p,q,hp,_=>by simp_all
 |[],_::_,h,_,_,_,_,_=>h.elim
 |_::_,[],h,_,_,_,_,_=>h.elim
 |_::_,_::_,h,0,p,q,hp,hq=>by simp at hp hq;subst hp;subst hq;exact h.1
 |_::_,_::_,h,j+1,p,q,hp,hq=>WS.get h.2 (j:=j) (by simp_all) (by simp_all)
def FZ(m i:Nat)(a:V (V U))(b st':az):Prop:=((m % 1000<=i)/\∃sz,0<sz/\∀x∈a,x.length=sz)/\V1 i a/\(∃own,b.boxes[i]? =O (.cells a.flatten own))/\st'.boxes[i]? =O .dead/\qeo i a b.tmps st'.tmps/\WS i a b.boxes st'.boxes/\∀x∈st'.own,x∈b.own
def qeO{sz:Nat}:∀{a:List (List U)},(∀x∈a,x.length=sz)->∀{i k:Nat}{e:List U}{p:U},a[i]? =O e->e[k]? =O p->a.flatten[i * sz+k]? =O p
 |[],_,i,k,e,p,h,_=>by grind
 |x::a,hl,0,k,e,p,h,hp=>by grind
 |x::a,hl,i+1,k,e,p,h,hp=>by have b:=hl x (by simp);rw[List.flatten_cons,Lf (by grind),b,show(i+1) * sz+k - sz=i * sz+k by grind];simp_all[qeO]
def FZ.weak{P:I}{m i:Nat}{es:V (V U)}{st st':az}(h:FZ m i es st st'):yA P m st st':=by
 let⟨⟨hm,sz,a7,a5⟩,b4,be,ar,ao,a1,c1⟩:=h;let⟨c5,hB⟩:=be;have cd:=ar;intro E c9 a w ci hR;let⟨Γ,bs,ow,A,hk⟩:=hR;have bq:i<bs.length:=by rw[A.bl];grind
 obtain⟨x,hx⟩:∃x,bs[i]? =O x:=⟨_,m3 bq⟩
 have S:∀(j b:Nat),j≠i->bs[j]? =O (O b)->(bs.set i N)[j]? =O (O b):=λj b hj R=>by grind
 have F:∀{j b:Nat},(bs.set i N)[j]? =O (O b)->j≠i/\bs[j]? =O (O b):=λ{j b} R=>by grind
 obtain ⟨L,H,c2,bb,bc,an,b5⟩:∃ L:aS,Γ.Le w L w∧(∀ b n,L b = O n→∃ c t fr,w.heap[b]? = O (.cells c t fr)∧n ≤ c.size)∧(∀ b,bs[i]? ≠ O (O b)→L b = Γ b) ∧
   (∀n v,n=es.length->VR Γ bs w (.bsl i 0 n) v->VR L (bs.set i N) w (.slice es) v)/\(∀b n,Γ b=O n->L b=O n)/\(∀r v,VR Γ bs w (.bptr i r) v->VR L (bs.set i N) w (.eptr (es.flatten.drop r)) v):=by
  cases x with
  | none =>
   refine⟨Γ,.refl _ _,A.wi,λ_ _=>rfl,λn v hn X=>?_,λ_ _ h=>h,λr v X=>by cases X with|bptr _ _ b R=>simp_all⟩
   cases X with
   |bsl _ _ _ x cap hcap hnil hxb=>
    have ab:es=[]:=by simp_all
    subst ab
    have bt:n=0:=hn
    subst bt
    cases x with
    |none=>rw[hnil rfl];exact .sliceNil
    |some ad=>exact .sliceE ad cap
  | some b =>
   let⟨hg,cn,c,t,a2,bi,b1,_⟩:=A.bx i b _ hx hB
   have bm:=qbp a5
   have H:Γ.Le w (Γ.put b es.flatten.length) w:=λb' n o _=>⟨n,(Γ.put_other (λe=>by grind)).trans o,l8 _,λ_ _=>rfl⟩
   refine⟨Γ.put b es.flatten.length,H,λb' n o=>?_,λb' o=>Γ.put_other (λe=>o (by grind)),λn v hn X=>?_,λb' n o=>(Γ.put_other (λe=>by simp_all)).trans o,λr v X=>?_⟩
   .by_cases b0:b'=b
    .subst b0;rw[Γ.put_same]at o;simp_all
    .rw[Γ.put_other b0]at o;exact A.wi b' n o
   .cases X with
    | bsl _ _ _ x cap hcap hnil hxb =>
     rcases hxb with h0|⟨b',hxb,o⟩
     .subst h0
      have ab:es=[]:=IO hn.symm
      subst ab
      cases x with
      |none=>rw[hnil rfl];exact .sliceNil
      |some ad=>exact .sliceE ad cap
     .rw[hx]at o;cases o
      subst hxb;subst hn
      refine Bp a2 (Γ.put_same _ _) (by omega) a7 hcap (λi x hx=>a5 x (vaD hx)) λj x k q b7 z=>?_
      have b2:=qeO a5 b7 z
      have c7:j * sz+k<c.size:=R3 (aq b2) bi
      exact⟨c[j * sz+k],by simp,((b1 _ _ _ b2 (by simp)).noi (sH (Qm b4 b7) z) S).mono H (.refl _)⟩
   .cases X with
    | bptr _ _ b' o =>
     rw[hx]at o;cases o
     by_cases c8:r<=es.flatten.length
     .have a6:∀(k:Nat) q,(es.flatten.drop r)[k]? =O q->es.flatten[r+k]? =O q/\r+k<c.size:=λk q z=>by
       rw[vbo]at z
       grind [Nat.lt_of_lt_of_le,aq]
      refine .eptr _ b r es.flatten.length (λk=>c.getD (r+k) undef) (Γ.put_same _ _) (by simp_all) (λk q z=>?_) (λk q z=>?_)
      .let⟨h1,h2⟩:=a6 k q z
       rw[cell_of_row w b _ c t _ a2]
       simp_all
      .let⟨h1,h2⟩:=a6 k q z
       have bg:c[r+k]? =O (c.getD (r+k) undef):=by simp[vaG,h2]
       have c0:q.no i:=by let⟨y,c3,c4⟩:=Vs a7 a5 h1;exact sH (Qm b4 c3) c4
       exact((b1 _ _ _ h1 bg).noi c0 S).mono H (.refl _)
     .rw[List.drop_of_length_le (by omega)];exact .eptrE _ _
 have fz:∀{p q:U}{v:D},Fz i es p q->VR Γ bs w p v->VR L (bs.set i N) w q v:=by
  intro p q v hf;induction hf generalizing v with
  |u p=>exact λ_=>.undef _
  |k p h=>exact λX=>(X.noi h S).mono H (.refl _)
  |s n h=>simp_all
  |b r=>exact λX=>b5 r _ X
  | f fn f c f' c' hl hl' h h' ih ih' =>
   intro X;cases X with
   | func _ _ _ fs cs k1 k2 k3 k4 =>
    refine .func fn f' c' fs cs (by omega) (by omega) (λj q u z hu=>?_) (λj q u z hu=>?_);.have hj:=aq z;have hp:=m3 (l:=f) (i:=j) (by omega);exact ih j _ q hp z (k3 j _ u hp hu)
    .grind [aq]
 have a3:∀{v:D}{e:G},eI P Γ w v e->eI P L w v e:=by intro v e ho;let⟨n,xs,o1,o2⟩:=ho;exact⟨n,xs,o1,λb R=>an b _ (o2 b R)⟩
 have b3:∀y∈st'.own,y∈st.own:=c1;have a9:∀{j b:Nat},j≠i->bs[j]? =O (O b)->bs[i]? ≠O (O b):=λhj R a8=>hj (A.inj _ _ _ R a8);refine⟨L,bs.set i N,ow,?_,λj hj=>?_⟩
 .exact{
   wi:=c2
   sz:=by rw[A.sz];exact ao.len
   tm:=λt q v z X=>by have hl:=ao.len;have ht:=aq z;have hp:=m3 (l:=st.tmps) (i:=t) (by omega);exact fz (ao.get hp z) (A.tm t _ v hp X)
   bl:=by rw[vcL,A.bl];exact a1.len
   bx:=λj b C R hC=>by
    let⟨hj,R⟩:=F R;have hl:=a1.len;have br:=aq hC;have hp:=m3 (l:=st.boxes) (i:=j) (by omega);let⟨h1,h2,h3⟩:=A.bx j b _ R hp;refine⟨(bb b (a9 hj R)).trans h1,h2,?_⟩;have hf:=a1.get hp hC;generalize st.boxes[j]=B0 at hf h3;cases hf with
    |d B=>trivial
    | c cs cs' own h =>
     let⟨c,t,e1,e2,e3,e4⟩:=h3;have c6:=h.len;refine⟨c,t,e1,by rw[<-h.len];exact e2,λk q v z X=>?_,λk i2 T2 z=>?_⟩;.have hk:=aq z;have a0:=m3 (l:=cs) (i:=k) (by omega);exact fz (h.get a0 z) (e3 k _ v a0 X)
     .have hk:=aq z;have a0:=m3 (l:=cs) (i:=k) (by omega);have hz:=h.get a0 z;generalize cs[k]=p0 at a0 hz;cases hz;have:=e4 k i2 T2 a0;exact⟨this.1,by omega⟩
    |k cs own h=>let⟨c,t,e1,e2,e3,e4⟩:=h3;exact⟨c,t,e1,e2,λk q v z X=>((e3 k q v z X).noi (sH h z) S).mono H (.refl _),e4⟩
    |m l h=>let⟨c,t,e1,e2,e3,e4⟩:=h3;refine⟨c,t,e1,e2,λk q u y z hy=>?_,e4⟩;let⟨n1,n2⟩:=h _ (vaD z);let⟨v1,v2⟩:=e3 k q u y z hy;exact⟨(v1.noi n1 S).mono H (.refl _),(v2.noi n2 S).mono H (.refl _)⟩
   inj:=λj k b hj a4=>A.inj j k b (F hj).2 (F a4).2
   bn:=λj b R=>A.bn j b (F R).2
   on:=A.on
   ot:=λt k e he=>by let⟨u,v,h1,h2,h3,h4⟩:=A.ot t k e (b3 _ he);exact⟨u,v,h1,h2,a3 h3,h4⟩
   ob:=λj k e cs own b hC a4 R=>by let⟨hj,R⟩:=F R;have hl:=a1.len;have br:=aq hC;have hp:=m3 (l:=st.boxes) (i:=j) (by omega);have hf:=a1.get hp hC;generalize cg:st.boxes[j]=B0 at hf hp;cases hf with|c cs0 _ _ h=>let⟨v,h1,h2,h3⟩:=A.ob j k e cs0 own b hp a4 R;exact⟨v,h1,a3 h2,h3⟩|k _ _ h=>let⟨v,h1,h2,h3⟩:=A.ob j k e cs own b hp a4 R;exact⟨v,h1,a3 h2,h3⟩
   gl:=λg cs hg=>((A.gl g cs hg).mono H (.refl _)).restrict (n:=0) (by simp only[PVal.cl];exact A.gc g cs hg) (λi b hi _=>absurd hi (w0 _))
   gc:=A.gc
   gx:=A.gx
   step:={A.step with
    keep:=λb R hT=>by
     let⟨k1,k2⟩:=A.step.keep b R hT;refine⟨k1,(bb b λa8=>?_).trans k2⟩;rcases A.bn i b a8 with h1|h1;.exact hT h1
     .omega
    le:=A.step.le.trans H}}
 .rw[Pi (by omega)];exact hk j hj
def qqw(i:Nat)(c:V (V U)):U->(U->Prop)->Prop
 |.undef,k=>k .undef
 |.int a n,k=>k (.int a n)
 |.bool b,k=>k (.bool b)
 |.str s,k=>k (.str s)
 |.val v,k=>k (.val v)
 |.bptr j off,k=>match j==i with|true=>bA (c.flatten.drop off) λl=>k (.eptr l)|false=>k (.bptr j off)
 | .bsl j off n,k => match j == i with
  |true=>match off with|0=>n=c.length/\k (.slice c)|_+1=>False
  |false=>k (.bsl j off n)
 |.mapr j,k=>match j==i with|true=>False|false=>k (.mapr j)
 |.nptr j d,k=>match j==i with|true=>False|false=>k (.nptr j d)
 |p,k=>p.no i/\k p
def ZK(i:Nat)(a:List (List U)):List U->(List U->Prop)->Prop
 |[],k=>k []
 |p::ps,k=>match p with
  |.func fn f c=>fzF i a f λd=>fzF i a c λb=>ZK i a ps λl=>k (.func fn d b::l)
  |p=>qqw i a p λq=>ZK i a ps λl=>k (q::l)
where
 fzF (i:Nat) (a:List (List U)):List U->(List U->Prop)->Prop
  |[],k=>k []
  |p::ps,k=>qqw i a p λq=>fzF i a ps λl=>k (q::l)
def qoX(i:Nat)(a:List (List U))(b:List Nat):Nat->List U->(List U->Prop)->Prop
 |_,[],k=>k []
 | n,p :: ps,k => match b.contains n with
  |true=>match p with|.func fn f c=>ZK.fzF i a f λe=>ZK.fzF i a c λd=>qoX i a b (n+1) ps λl=>k (.func fn e d::l)|p=>qqw i a p λq=>qoX i a b (n+1) ps λl=>k (q::l)
  |false=>qoX i a b (n+1) ps λl=>k (.undef::l)
def qlg(i:Nat)(a:List (List U))(b:List Nat):Nat->List ay->(List ay->Prop)->Prop
 |_,[],k=>k []
 | n,B :: Bs,k => match n == i with
  |true=>qlg i a b (n+1) Bs λl=>k (.dead::l)
  | false => match B with
   |.dead=>qlg i a b (n+1) Bs λl=>k (.dead::l)
   |.cells cs own=>match b.contains n with|true=>Yr i cs/\qlg i a b (n+1) Bs λl=>k (.cells cs own::l)|false=>ZK i a cs λc=>qlg i a b (n+1) Bs λl=>k (.cells c own::l)
   |.map m=>(∀x∈m,x.1.no i/\x.2.no i)/\qlg i a b (n+1) Bs λl=>k (.map m::l)
def qiG(a:V (V U)):ay->Prop|.cells cs _=>cs=a.flatten|_=>False
def qiH{a:V (V U)}{H:V ay}{i:Nat}(h:oP H i (qiG a)):∃own,H[i]? =O (.cells a.flatten own):=by let⟨B,b,h⟩:=eU h;unfold qiG at h;grind
def qdt(m:Nat):List It->az->(List It->az->Prop)->Prop
 |.fz i es lv rk::sc',st,k=>((m % 1000<=i)/\∃sz,0<sz/\∀x∈es,x.length=sz)/\V1 i es/\oP st.boxes i (qiG es)/\qoX i es lv 0 st.tmps λtm=>qlg i es rk 0 st.boxes λH=>bA (st.own.filter λx=>lv.contains x.1.1) λa=>qdt m sc' ⟨tm,H,a⟩ k
 |.sh t kk e::sc',st,k=>zm st.tmps t λp=>match p,Y (0<kk)&&Y (((t,0),e)∈st.own)with|.slice _,T=>bA (((t,kk),e)::st.own.filter λx=>x.1 !=(t,0)) λa=>qdt m sc' ⟨st.tmps,st.boxes,a⟩ k|_,_=>False
 |sc,st,k=>k sc st
def qdu{i:Nat}{d:V (V U)}{p:U}{k:U->Prop}(h:qqw i d p k):∃q,Fz i d p q/\k q:=by
 unfold qqw at h;split at h;.exact⟨_,.u _,h⟩
 .exact⟨_,.k _ (by simp[PVal.no]),h⟩
 .exact⟨_,.k _ (by simp[PVal.no]),h⟩
 .exact⟨_,.k _ (by simp[PVal.no]),h⟩
 .exact⟨_,.k _ (by simp[PVal.no]),h⟩
 .rename_i j c;split at h;.rename_i a;simp only[vbf]at a;subst a;rw[aN]at h;exact⟨_,.b _,h⟩
  .rename_i a;exact⟨_,.k _ (by simp_all[PVal.no]),h⟩
 .rename_i j c n;split at h
  .rename_i a;simp only[vbf]at a;subst a;split at h;.exact⟨_,.s _ h.1,h.2⟩
   simp_all
  .rename_i a;exact⟨_,.k _ (by simp_all[PVal.no]),h⟩
 .rename_i j;split at h;.simp_all
  .rename_i a;exact⟨_,.k _ (by simp_all[PVal.no]),h⟩
 .rename_i j e;split at h;.simp_all
  .rename_i a;exact⟨_,.k _ (by simp_all[PVal.no]),h⟩
 .exact⟨_,.k _ h.1,h.2⟩
def Vu{i:Nat}{a:List (List U)}:∀{l:List U}{k:List U->Prop},ZK.fzF i a l k->∃r,qeo i a l r/\k r
 |[],k,h=>⟨[],hV,h⟩
 |p::ps,k,h=>by unfold ZK.fzF at h;let⟨q,b,c⟩:=qdu h;let⟨r,d,e⟩:=Vu c;exact⟨q::r,⟨b,d⟩,e⟩
def Fz.fn{i:Nat}{b:V (V U)}(fn:Fn){f c d a:V U}(h:qeo i b f d)(o:qeo i b c a):Fz i b (.func fn f c) (.func fn d a):=.f fn f c d a h.len o.len (λ_ _ _ e m=>h.get e m) (λ_ _ _ e m=>o.get e m)
def ZM{i:Nat}{e:List (List U)}:∀{l:List U}{k:List U->Prop},ZK i e l k->∃r,qeo i e l r/\k r
 |[],k,h=>⟨[],hV,h⟩
 | p :: ps,k,h => by
  unfold ZK at h;split at h;.let⟨t,a,b⟩:=Vu h;let⟨s,c,d⟩:=Vu b;let⟨r,m,o⟩:=ZM d;exact⟨_::r,⟨.fn _ a c,m⟩,o⟩
  .let⟨q,a,b⟩:=qdu h;let⟨r,c,d⟩:=ZM b;exact⟨q::r,⟨a,c⟩,d⟩
def ZJ{i:Nat}{e:List (List U)}{s:List Nat}:∀{n:Nat}{l:List U}{k:List U->Prop},qoX i e s n l k->∃r,qeo i e l r/\k r
 |_,[],k,h=>⟨[],hV,h⟩
 | n,p :: ps,k,h => by
  unfold qoX at h;split at h
  .split at h;.let⟨w,c,d⟩:=Vu h;let⟨t,a,b⟩:=Vu d;let⟨r,m,o⟩:=ZJ b;exact⟨_::r,⟨.fn _ c a,m⟩,o⟩
   .let⟨q,c,d⟩:=qdu h;let⟨r,a,b⟩:=ZJ d;exact⟨q::r,⟨c,a⟩,b⟩
  .let⟨r,a,b⟩:=ZJ h;exact⟨.undef::r,⟨.u _,a⟩,b⟩
def qit{i:Nat}{o:List (List U)}{t:List Nat}:∀{n:Nat}{l:List ay}{k:List ay->Prop},qlg i o t n l k->∃r,WS i o l r/\(∀j B,l[j]? =O B->n+j=i->r[j]? =O .dead)/\k r
 |_,[],k,h=>⟨[],hV,by simp,h⟩
 | n,B :: Bs,k,h => by
  have go:∀{b:ay}{q:List ay->Prop},qm1 i o B b->(n=i->b=.dead)->qlg i o t (n+1) Bs q->(∀r,q r->k (b::r))->∃r,WS i o (B::Bs) r/\(∀j C,(B::Bs)[j]? =O C->n+j=i->r[j]? =O .dead)/\k r:=by intro b q p s y z;let⟨r,A,P,E⟩:=qit y;refine⟨b::r,⟨p,A⟩,λj C F H=>?_,z r E⟩;grind
  unfold qlg at h;split at h;.exact go (.d _) (λ_=>rfl) h (λ_ x=>x)
  .rename_i L;have a:n≠i:=by simp_all
   split at h;.exact go (.d _) (λ_=>rfl) h (λ_ x=>x)
   .split at h;.exact go (.k _ _ h.1) (λe=>absurd e a) h.2 (λ_ x=>x)
    .let⟨w,p,s⟩:=ZM h;exact go (.c _ _ _ p) (λe=>absurd e a) s (λ_ x=>x)
   .exact go (.m _ h.1) (λe=>absurd e a) h.2 (λ_ x=>x)
theorem Og{P:I}{m:Nat}:∀{sc:V It}{p:az}{k:V It->az->Prop},qdt m sc p k->∃c st',yA P m p st'/\k c st'
 |[],p,k,h=>⟨[],p,.refl _,by simp_all[qdt]⟩
 | x :: sc,p,k,h => by
  unfold qdt at h;split at h;.rename_i i X lv rk c b;cases b;obtain⟨h1,h2,h3,h4⟩:=h;obtain⟨own,B⟩:=qiH h3;obtain⟨tm,t1,h5⟩:=ZJ h4;obtain⟨H,F,L,A⟩:=qit h5;rw[aN]at A;obtain⟨d,o,z,q⟩:=Og A;exact⟨d,o,yA.trans (FZ.weak (st':=⟨tm,H,_⟩) ⟨h1,h2,⟨own,B⟩,L i _ B (by omega),t1,F,λx hx=>(vaX.1 hx).1⟩) z,q⟩
  .rename_i t kk e c b;cases b;rw[gW]at h;split at h
   .rename_i X he s;simp only[ne,oy]at s;rw[aN]at h;obtain⟨d,o,z,q⟩:=Og h
    exact⟨d,o,yA.trans (λE S a w hb ⟨Γ,R,ow,hS,hk⟩=>by
     obtain⟨y,r⟩:=hS.shiftOwn s.1 s.2 he;exact⟨Γ,R,y,r,hk⟩) z,q⟩
   simp_all
  .exact⟨_,_,.refl _,h⟩
section
variable{P:I}{Q Q1:Exit->Act->J->Prop}
def qhu{o:M}{a:Act}{q:Act->J->Prop}{r:Result Next}(m:∀e a w,Q1 e a w->e=.normal)(h:o.upon P a q Q1 r):o.upon P a q Q r:=by
 have b:∀c a w,¬Q1 (.panic c) a w:=λc a w h=>by grind
 have d:¬LetsOut Q1:=by rintro⟨a,w,h⟩;grind
 cases r with
 | ok x w' =>
  cases x<;>simp only[Oper.upon]at h ⊢<;>first
   |omega
   |exact Calls.mono h (λe i p=>by grind)
 |halt x w'=>cases x<;>simp only[Oper.upon]at h ⊢<;>exact absurd h (b _ _ _)
theorem qmh{o:M}{a:Act}{w:J}{c:Act->J->Prop}(b:∀e a w,Q1 e a w->e=.normal)(h:o.wp P a w c Q1):o.wp P a w c Q:=qhu b h
def qhy{c:Array M}{o:M}{i:Nat}{a:Act}{w:J}{B:Act->J->Prop}(z:∀e a w,Q1 e a w->e=.normal)(p:i<c.size)
  (r:∀(x:M) j b,c[i]? =O x->x.guard=O (j,b)->j<c.size) (h:wpOp P c Q1 i B a w):wpOp P (c.push o) Q i B a w:=by
 have t:¬LetsOut Q1:=by rintro⟨a,w,h⟩;grind
 have d:∀k,k<c.size->(c.push o)[k]? =c[k]?:=λk A=>by grind
 unfold wpOp at h ⊢
 rw[d i p]
 rw[vaM p]at h ⊢
 simp only at h ⊢
 have y:Region.wanted c[i] (yielded (c.push o) a.tmps)=Region.wanted c[i] (yielded c a.tmps):=by unfold Region.wanted;cases m:c[i].guard with|none=>rfl|some x=>let⟨j,b⟩:=x;have s:=r _ j b (vaM p) m;simp only[yielded,d j s]
 rw[y]
 split
 .rename_i q
  rw[l7 q]at h
  grind [qmh,absurd]
 simp_all
def YT{ops:Array M}{o:M}
  (m:∀a w,Q1 .normal a w->wpOp P (ops.push o) Q ops.size (Q .normal) a w)
  (X:∀(k:Nat)(x:M),ops[k]? =O x->∀e∈x.after.toList,Region.binds .any e=T->e.on<k)
  (ho:∀e∈o.after.toList,Region.binds .any e=T->e.on<ops.size) {l0 l1:Array K} {a:Act} {w:J}
  (h0:l0.size=ops.size) (h1:l1.size=ops.size+1) (hl:∀i,i<ops.size->l1.getD i Z=l0.getD i Z) (hn:l1.getD ops.size Z=Z)
  (hr:Region.ready .any ops l0=[]) (y:Q1 .normal a w) (n:Nat):wpAny P .any (ops.push o) Q (n+1) l1 a w:=by
 have R:∀k,k<ops.size->(ops.push o)[k]? =ops[k]?:=λk hk=>by grind
 have E:(ops.push o)[ops.size]? =O o:=by simp
 have q:∀j,j<ops.size->du l0 j:=by
  intro j;induction j using Nat.strongRecOn with
  | _ j ih =>
   intro H;by_cases L:du l0 j;.omega
   .exfalso;have s:ops[j]? =O ops[j]:=by simp
    have:j∈Region.ready .any ops l0:=mem_ready.2 ⟨by simp_all[du],_,s,λe B A=>by
     have p:=X j _ s e (by simp_all) A;exact ih e.on p (by omega)⟩
    simp_all
 have b:∀j,j<ops.size->l1.getD j Z=true:=λj H=>by rw[hl j H];exact q j H
 have a0:ops.size<l1.size:=by omega
 have r:ops.size∈Region.ready .any (ops.push o) l1:=mem_ready.2 ⟨by simp_all,o,E,λe B A=>b _ (ho e (by simp_all) A)⟩
 have t:∀i∈Region.ready .any (ops.push o) l1,i=ops.size:=by intro i d;let⟨z,x,L,k2⟩:=mem_ready.1 d;grind
 have c:Region.ready .any (ops.push o) (l1.setIfInBounds ops.size T)=[]:=by
  apply vbA.2;intro i d;let⟨z,x,L,k2⟩:=mem_ready.1 d;have p:=(vh.1 L).1;have S:i<l1.size:=by grind
  by_cases F:i=ops.size;.simp_all
  .have:=b i (by simp at p;omega);simp[S,vbJ,Ne.symm F]at z this;rw[this]at z;cases z
 unfold wpAny
 refine⟨λh=>(by rw[h]at r;cases r),λi d=>?_⟩
 rw[t i d]
 refine wpOp_mono (λa w y=>?_) (m a w y)
 cases n with
 |zero=>exact⟨c,y⟩
 |succ n=>exact⟨λ_=>y,λi d=>by rw[c]at d;cases d⟩
def qek{ops:Array M}{o:M}(hQ:∀e a w,Q1 e a w->e=.normal)
  (t:∀a w,Q1 .normal a w->wpOp P (ops.push o) Q ops.size (Q .normal) a w)
  (hg:∀(i:Nat)(x:M) j b,ops[i]? =O x->x.guard=O (j,b)->j<ops.size)
  (he:∀(k:Nat)(x:M),ops[k]? =O x->∀e∈x.after.toList,Region.binds .any e=T->e.on<k)
  (ho:∀e∈o.after.toList,Region.binds .any e=T->e.on<ops.size)
  (hb:∀i,i<ops.size->(jX (NQ ops.toList) o).testBit i=T):
  ∀(d:Nat)(l0 l1:Array K)(a:Act)(w:J),l0.size=ops.size->l1.size=ops.size+1->(∀i,i<ops.size->l1.getD i Z=l0.getD i Z)->l1.getD ops.size Z=Z->qmZ ops l0->
   wpAny P .any ops Q1 d l0 a w->wpAny P .any (ops.push o) Q (d+1) l1 a w:=by
 have s:∀k,k<ops.size->(ops.push o)[k]? =ops[k]?:=λk S=>by grind
 have a7:(ops.push o)[ops.size]? =O o:=by simp
 intro d
 induction d with
 |zero=>
  intro l0 l1 a w h0 h1 F hn hd h
  exact YT t he ho h0 h1 F hn (by unfold wpAny at h;grind) (by unfold wpAny at h;grind) 0
 | succ d ih =>
  intro l0 l1 a w h0 h1 F hn hd h
  by_cases hr:Region.ready .any ops l0=[]
  .exact YT t he ho h0 h1 F hn hr (by unfold wpAny at h;simp_all) (d+1)
  .unfold wpAny at h ⊢
   have a3:∀i,i∈Region.ready .any (ops.push o) l1->i<ops.size/\i∈Region.ready .any ops l0:=by
    intro i hi;let⟨k1,x,z,k2⟩:=mem_ready.1 hi;have a4:i≠ops.size:=by
     intro a8;subst a8;rw[a7]at z;cases z;apply hr;have X:∀j,j<ops.size->du l0 j:=by
      intro j B;let⟨e,r,A,e3⟩:=Pv (hb j B);have L:=ho e r A;have H:du l0 e.on:=by unfold du;rw[<-F e.on L];exact k2 e (by simpa using r) A
      rcases e3 with rfl|e3;.exact H
      .exact Rj hd e.on _ (vaM L) (hd e.on _ (vaM L) H) j e3
     apply vbA.2;intro j B;let⟨q1,y,R,_⟩:=mem_ready.1 B;have E:=(vh.1 R).1;have:=X j E;unfold du at this;have a1:j<l0.size:=by omega
     simp[a1]at q1 this;grind
    have q:i<ops.size:=by have:=(vh.1 z).1;simp at this;omega
    refine⟨q,mem_ready.2 ⟨?_,x,by rw[<-s i q];exact z,λe m p=>?_⟩⟩
    .have r:i<l1.size:=by omega
     have A:i<l0.size:=by omega
     have:=F i q;simp[r,A]at k1 this ⊢;rw[<-this];exact k1
    .have a2:=he i x (by rw[<-s i q];exact z) e (by simpa using m) p;rw[<-F e.on (by omega)];exact k2 e m p
   have a4:Region.ready .any (ops.push o) l1≠[]:=by
    intro a5;apply hr;apply vbA.2;intro j B;let⟨q1,y,R,q2⟩:=mem_ready.1 B;have E:=(vh.1 R).1;have:j∈Region.ready .any (ops.push o) l1:=mem_ready.2 ⟨by
      have r:j<l1.size:=by omega
      have A:j<l0.size:=by omega
      have:=F j E;simp[r,A]at q1 this ⊢;rw[this];exact q1,y,by rw[s j E];exact R,λe m p=>by
      have a2:=he j y R e (by simpa using m) p;rw[F e.on (by omega)];exact q2 e m p⟩
    rw[a5]at this;cases this
   refine⟨λh=>absurd h a4,λi hi=>?_⟩
   let⟨q,a0⟩:=a3 i hi
   let⟨q1,y,R,q2⟩:=mem_ready.1 a0
   refine wpOp_mono (λa w hh=>ih (l0.setIfInBounds i T) (l1.setIfInBounds i T) a w (by simpa using h0) (by simpa using h1) (λk S=>?_) ?_ ?_ hh) (qhy hQ q (λx j b z=>hg i x j b z) (h.2 i a0))
   .by_cases c:k=i
    .subst c
     have r:k<l1.size:=by omega
     have A:k<l0.size:=by omega
     simp[r,A]
    .have:=F k S
     have r:k<l1.size:=by omega
     have A:k<l0.size:=by omega
     simp[r,A,vbJ,Ne.symm c]at this ⊢
     exact this
   .have r:ops.size<l1.size:=by omega
    have c:¬i=ops.size:=by omega
    simp[r,vbJ,c]at hn ⊢
    exact hn
   .intro j x z B e m p
    have a6:∀k,du (l0.setIfInBounds i T) k↔(k=i\/du l0 k):=λk=>by
     unfold du;by_cases S:k<l0.size
     .by_cases c:k=i;.subst c;simp[S]
      .simp[S,vbJ,Ne.symm c,c]
     .simp[S];intro c;subst c;omega
    rw[a6]at B ⊢
    rcases B with rfl|B
    .rw[R]at z;cases z
     exact .inr (q2 e (by simpa using m) p)
    .exact .inr (hd j x z B e m p)
end
def qdA(l:V M)(a:V Nat)(o:M):K:=(eD o&&(!aD o.op&&o.guard.isNone))&&(o.after.all (λe=>!Region.binds .any e||decide (e.on<l.length))&& ((List.range l.length).all (λi=>(jX a o).testBit i)&&l.all λx=>match x.guard with|some (j,_)=>Y (j<l.length)|none=>T))
section
variable{P:I}{GE:V (Nat×V U)}{A:V Nat}
def AN{c:Nat->Q (Nat×ay)}{rw:List Nat}{d:Array M}{t s:List (List Rs)->az->Prop}(e:∀a b,t a b->s a b):∀(L:List M)(id:Nat)(a:List (List Rs))(b:az),oK P GE c rw d t L id a b->oK P GE c rw d s L id a b
 |[],_,a,b,h=>e a b h
 | o :: L,id,a,b,h => by
  unfold oK at h ⊢;split at h;.let⟨r,q,i,m⟩:=h;exact⟨r,q,i,AN e L _ _ _ m⟩
  .split at h;.refine⟨λp=>?_,λp=>AN e L _ _ _ (h.2 p)⟩;let⟨r,q,i,m⟩:=h.1 p;exact⟨r,q,i,AN e L _ _ _ m⟩
   omega
def uV{c:Array M}{i e:az->Prop}(d:∀a,i a->e a):∀(L:List M)(id:Nat)(a:az),cK P GE A c i L id a->cK P GE A c e L id a
 |[],_,a,h=>d a h
 | o :: L,id,a,h => by
  unfold cK at h ⊢;split at h;.exact yV (λa b=>uV d L _ a b) h
  .split at h;.exact⟨λb=>yV (λa b=>uV d L _ a b) (h.1 b),λb=>uV d L _ _ (h.2 b)⟩
   omega
def qan{o:M}(h:aD o.op=Z):gG P [o]=[]:=by grind [Jk,cG]
def dz.drawL{m:Nat}(hf:P.follows .mixedOrders=T){id:Nat}{ops:Array M}{o:M}{an:V Nat}{X:V ay}{br:V (Nat×Nat)}{rw:V Nat}{Q:Exit->az->Prop}{st:az}(a3:ops.toList.all eD=T)(L:qdA ops.toList an o=T)
  (h:qah P GE ops an X br rw (λc=>cK P GE A #[o] (Q .normal) [o] c.boxes.length c) st):dz P GE m (.region id (ops.push o) T) Q st:=by
 unfold qdA at L
 simp only[ne,va4,Option.isNone_iff_eq_none,vaE,vbF,vbh,oy,vbu]at L
 let⟨⟨l1,l2,l3⟩,l4,l5,l6⟩:=L
 intro ro E q a w hE B hR
 obtain⟨rfl,_,_,_⟩:=hE
 let⟨hD,a0⟩:=Vk h.1
 refine gD (KN (Q:=λe d p=>e=.normal/\UH P E q a.defers Q .normal d p) hf (by simp_all) (by rintro⟨_,_,h,_⟩;grind) ?_) λe d p hq=>by simp_all
 have a4:=qek (P:=P) (ops:=ops) (o:=o) (Q:=λe d p=>e=.normal/\UH P E q a.defers Q .normal d p)
  (Q1:=λe d p=>e=.normal/\d.defers=a.defers/\∃c,Y5 P E q c d p/\cK P E.GE A #[o] (Q .normal) [o] c.boxes.length c)
  (λe a w h=>h.1) (λa1 w1 hq=>?_) (λi x j b S hg=>?_) (λk x S e he B=>hD.f2 k x S e he B) (λe he B=>?_) (λi hi=>?_)
  ops.size (Array.replicate ops.size Z) (Array.replicate (ops.size+1) Z) a {w with drawn:=w.drawn+1} (by simp) (by simp) (λi hi=>by rw[B4,B4]) (by simp) (λj x S hj=>?_) ?_
 .simp_all
 .let⟨_,F,c,r,hp⟩:=hq
  have R:cK P E.GE A #[o] (Q .normal) (#[o]:Array M).toList c.boxes.length {c with boxes:=c.boxes++gG P (#[o]:Array M).toList}:=by simp_all[qan,vbR]
  have t:=NE (Q:=λe d p=>e=.normal/\UH P E q a.defers Q .normal d p) r r.len (λd p y H s z=>⟨rfl,H.trans F,y,s,z⟩) R
  rw[show List.range (#[o]:Array M).size=[0]from rfl,wpOps_cons]at t
  unfold wpOp at t ⊢
  rw[show((#[o]:Array M)[0]?)=O o from rfl]at t
  rw[show(ops.push o)[ops.size]? =O o by simp]
  simp only[Region.wanted,l3,if_true]at t ⊢
  refine t.imp_left (Oper.wp_mono λa2 w2 h2=>?_)
  exact⟨hV,h2.2⟩
 .grind
 .grind
 .simp_all
 .grind [du,B4]
 .exact PO hR hR.len (λd p c F r z=>⟨rfl,F,c,r,z⟩) h
def qf4{a:Array M}{d:V Nat}{X:V ay}{e:V (Nat×Nat)}{rw:V Nat}{m:V It->az->Prop}{sc:V It}{st:az}
  (h:N9 P GE A a d X e rw m sc st):a.toList.all eD=T/\qah P GE a d X e rw (λst=>∃sc,m sc st) st:=by
 unfold N9 at h
 split at h
 .rename_i b
  rw[ne,ne]at b
  let⟨c,b⟩:=b
  unfold TJ at h
  rw[aN]at h
  split at h
  .rename_i i
   rw[aN]at h
   refine⟨c,b.1,by simp_all,?_⟩
   grind [AO]
  simp_all
 simp_all
def Zv(P:I)(GE:V (Nat×V U))(A:V Nat)(a:Array M)(c:V Nat)(X:V ay)(d:V (Nat×Nat))(rw:V Nat)(e:V It->az->Prop)(sc:V It)(b:az):Prop:=match a.toList.getLast? with
 |some o=>match qdA a.toList.dropLast c o with|true=>N9 P GE A a.toList.dropLast.toArray c X d rw (λsc b=>PQ P GE A #[o] e [o] 0 b.boxes.length sc b) sc b|false=>False
 |none=>False
theorem W4{m:Nat}(r:P.follows .mixedOrders=T){id:Nat}{a:Array M}{p:V Nat}{X:V ay}{q:V (Nat×Nat)}{rw:V Nat}{B:V It->az->Prop}{sc:V It}{st:az}{Q:Exit->az->Prop}(w:∀st,(∃sc,B sc st)->Q .normal st)
  (h:Zv P GE A a p X q rw B sc st):dz P GE m (.region id a T) Q st:=by
 unfold Zv at h
 split at h
 .rename_i o y
  split at h
  .rename_i x
   have c:a=a.toList.dropLast.toArray.push o:=by grind
   let⟨d,i⟩:=qf4 h
   have:=dz.drawL (P:=P) (GE:=GE) (A:=A) (m:=m) (id:=id) r (Q:=λe st=>e=.normal/\∃sc,B sc st) d (by omega) (o:=o) (by
    refine⟨i.1,i.2.1,?_⟩;refine AN (λz t b=>⟨b.1,?_⟩) _ _ _ _ i.2.2;let⟨s,b⟩:=b.2;refine uV (λst b=>⟨rfl,b⟩) _ _ _ (w9 _ _ _ _ _ b))
   rw[c]
   exact this.imp λe st b=>by grind
  simp_all
 simp_all
end
def FG(b a:az):Prop:=Vq b.tmps a.tmps=a.tmps/\qaH b.boxes a.boxes=a.boxes/\(a.own.all λx=>Y (x∈b.own))=T
def fr(a:az):a.tmps=a.tmps/\a.boxes=a.boxes/\T=true:=⟨rfl,rfl,rfl⟩
def FG.weak{P:I}{m:Nat}{st st0:az}(h:FG st st0):yA P m st st0:=by let⟨a,b,c⟩:=h;have:=yA.forget (P:=P) (m:=m) (st:=st) st0.tmps st0.boxes st0.own (λx d=>by simp_all);simp_all
def Rc(P:I)(GE:List (Nat×List U))(A:List Nat)(m:Nat):W->List It->az->(Exit->List It->az->Prop)->Prop
 |.skip,sc,d,i=>i .normal sc d
 |.label _,sc,d,i=>i .normal sc d
 | .region _ ops draw,sc,d,i => match draw with
  |false=>match ops.toList.all eD with
   |true=>TJ d.boxes (gG P ops.toList) λH=>PQ P GE A ops (i .normal) ops.toList 0 d.boxes.length sc ⟨d.tmps,H,d.own⟩
   |false=>False
  |true=>match sc with
   |.dr an::sc'=>N9 P GE A ops an [] [] [] (i .normal) sc' d
   |.dx an X br rw::sc'=>N9 P GE A ops an X br rw (i .normal) sc' d
   |.k::.dx an X br rw::sc'=>Zv P GE A ops an X br rw (i .normal) sc' d
   |_=>False
 | .seq a b,sc,d,i =>
  let h (e:Exit) (sc:List It) (d:az):Prop:=match e with
   |.normal=>qdt m sc d λsc d=>Rc P GE A m b sc d i
   |e=>i e sc d
  match sc with
  |.pa 0::.pc st0 e st1::sc'=>FG d st0/\dz P GE m a (EX e st1) st0/\h e sc' st1
  |.pa (n+1)::sc'=>Rc P GE A m a (.pa n::sc') d h
  |sc=>Rc P GE A m a sc d h
 | .cond c a b,sc,d,i => rD GE d.tmps c fun v => match v with
  | .bool t => match sc with
   |.k::sc'=>match t with
    |true=>qdt m sc' d λsc d=>Rc P GE A m a sc d i
    |false=>qdt m sc' d λsc d=>Rc P GE A m b sc d i
   |.g _ x::sc'=>t=x/\match x with
    |true=>qdt m sc' d λsc d=>Rc P GE A m a sc d i
    |false=>qdt m sc' d λsc d=>Rc P GE A m b sc d i
   |_=>False
  |_=>False
 |.block id c,sc,d,i=>Rc P GE A m c sc d λe sc d=>match e with
  |.exit id'=>if id'=id then i .normal sc d else i (.exit id') sc d
  |e=>i e sc d
 |.exit id,sc,d,i=>i (.exit id) sc d
 |.ret,sc,d,i=>i .ret sc d
 |.loop c,sc,d,i=>match sc with
  |.pc st0 e st1::sc'=>FG d st0/\dz P GE m (.loop c) (EX e st1) st0/\i e sc' st1
  |_=>False
 |_,_,_,_=>False
section
variable{P:I}{GE:V (Nat×V U)}{A:V Nat}{m:Nat}
def jB(q:P.follows .mixedOrders=T):∀(c:W)(sc:List It)(st:az)(R:Exit->List It->az->Prop),Rc P GE A m c sc st R->dz P GE m c (λe i=>∃d,R e d i) st
 |.skip,sc,st,R,h=>dz.skip ⟨sc,h⟩
 |.label _,sc,st,R,h=>dz.label ⟨sc,h⟩
 | .region id ops draw,sc,st,R,h => by
  simp only[Rc]at h;cases draw with
  | false =>
   simp only at h;split at h;.rename_i L;simp only[TJ,aN]at h;exact dz.text L (w9 _ _ _ _ _ h)
   simp_all
  |true=>grind [Zw,W4]
 | .seq a b,sc,st,R,h => by
  have r:∀(e:Exit)(d:List It)(i:az),(match e with|.normal=>qdt m d i (λsc st=>Rc P GE A m b sc st R)|e=>R e d i)->(match e with|.normal=>dz P GE m b (λe i=>∃d,R e d i) i|e=>∃d,R e d i):=by intro e d i o;cases e with|normal=>let⟨s,y,H,o⟩:=Og (P:=P) o;exact dz.weak H (jB q b s y R o)|exit id=>grind|goto l=>grind|ret=>grind|panic c=>grind|outgrown=>grind
  simp only[Rc]at h;refine dz.seq ?_;split at h;.rename_i E e w d;let⟨p,z,B⟩:=h;refine dz.weak p.weak (EX.of z ?_);have:=r e d w B;omega
  .exact(jB q a _ st _ h).imp λe i o=>by let⟨d,o⟩:=o;have:=r e d i o;omega
  .exact(jB q a _ st _ h).imp λe i o=>by let⟨d,o⟩:=o;have:=r e d i o;omega
 | .cond c a b,sc,st,R,h => by
  simp only[Rc,bY]at h;have go:∀{x:W}(o:∀(sc:List It)(st:az),Rc P GE A m x sc st R->dz P GE m x (λe i=>∃d,R e d i) st){sc:List It},qdt m sc st (λsc st=>Rc P GE A m x sc st R)->dz P GE m x (λe i=>∃d,R e d i) st:=by intro x o sc h;let⟨s,y,H,h⟩:=Og (P:=P) h;grind [dz.weak]
  split at h
  .rename_i t F;split at h
   .rename_i d;refine dz.cond F (λp=>?_) (λp=>?_);.subst p;exact go (λsc st=>jB q a sc st R) h
    .subst p;exact go (λsc st=>jB q b sc st R) h
   .rename_i j x d;obtain⟨rfl,h⟩:=h;refine dz.cond F (λp=>?_) (λp=>?_);.subst p;exact go (λsc st=>jB q a sc st R) h
    .subst p;exact go (λsc st=>jB q b sc st R) h
   simp_all
  simp_all
 | .block id c,sc,st,R,h => by simp only[Rc]at h;refine dz.block ((jB q c _ st _ h).imp λe i o=>?_);let⟨d,o⟩:=o;cases e with|exit id'=>simp only[Zc];grind|normal=>exact⟨d,o⟩|goto l=>exact⟨d,o⟩|ret=>exact⟨d,o⟩|panic c=>exact⟨d,o⟩|outgrown=>exact⟨d,o⟩
 |.exit id,sc,st,R,h=>dz.exit ⟨sc,h⟩
 |.ret,sc,st,R,h=>dz.ret ⟨sc,h⟩
 | .loop c,sc,st,R,h => by
  simp only[Rc]at h;split at h;.rename_i E e w d;let⟨p,z,B⟩:=h;exact dz.weak p.weak (EX.of z ⟨d,B⟩)
  simp_all
 |.rangeFunc ..,_,_,_,h=>by grind [Rc]
 |.scope _,_,_,_,h=>by grind [Rc]
 |.goto _,_,_,_,h=>by grind [Rc]
 |.refuse _,_,_,_,h=>by grind [Rc]
def FN(b:Exit)(a:az):Exit->V It->az->Prop:=λe _ c=>b=e/\FG c a
def piece(e:P.follows .mixedOrders=T){c:W}{d:Exit}{a st:az}(sc:V It)(h:Rc P GE A m c sc st (FN d a)):dz P GE m c (EX d a) st:=
 (jB e c sc st _ h).mono λ_ _ b=>by let⟨_,b⟩:=b;exact⟨a,b.2.weak,b.1.symm,rfl⟩
def Mw(a:V ResultVar)(b:V (Nat×G))(c:az):K:=b.all (λx=>Y ((dX a x.1,x.2)∈c.own)&&(match a with|[.tmp _]=>T|[_]=>Z|a=>match a[x.1]? with|some (.tmp t)=>(c.tmps.getD t .undef).isSlice|_=>Z))&&b.all (λx=>b.all λy=>!Y (dX a x.1=dX a y.1)||decide (x.1=y.1))
def PVal.isAgg:U->K|.agg _=>T|_=>Z
def qas(P:I)(h:V ResultVar)(r:U)(c:V (Nat×G))(d:az):Prop:=∃(t:Tmp)(ty:G)(i a:Nat)(b:V U)(own:V (Nat×G))(l:V U),h=[.cell t ty]/\(∃e,P.underlying ty=O (.struct e))/\d.tmps.getD t .undef=.bptr i a/\d.boxes[i]? =O (.cells b own)/\ r=.agg l/\cO P ty (b.drop a)=O (.agg l)/\r.cl 0/\(∀x∈c,(a+x.1,x.2)∈own/\x.1<l.length)/\(c.map (·.1)).Nodup
def qfm(P:I)(b:V ResultVar)(r:U)(a:V (Nat×G))(e:Exit)(c:az):Prop:=qrd P b r a [] e c\/((e=.normal\/e=.ret)/\qas P b r a c)
def qfk(P:I)(c:V ResultVar)(a:V (Nat×G))(b:az):K:=match c with
 | [.cell t ty] => match P.underlying ty with
  | some (.struct _) => match b.tmps.getD t .undef with
   |.bptr i off=>match b.boxes[i]? with|some (.cells _ own)=>a.all (λx=>Y ((off+x.1,x.2)∈own)&&Y (x.1<P.cellsOf ty))&&uR (a.map (·.1))|_=>Z
   |_=>Z
  |_=>Z
 |_=>Z
section
variable{P:I}{E:qy}{Γ:aS}{bs:bC}{c:Nat->Q kg}{w:J}{a:Array D}{st:az}
def SR.pushed(h:SR P E Γ bs c w a st){v:D}{p:U}(F:VR Γ bs w p v):SR P E Γ bs c w (a.push v) {st with tmps:=st.tmps++[p]}:=
 { h with
  sz:=by simp[h.sz]
  tm:=λt q u b i=>by
   by_cases s:t<a.size;.rw[Array.getElem?_push_lt s]at i;simp only at b;rw[B2 (by rw[<-h.sz];omega)]at b;exact h.tm t q u b (by simp_all)
   .have r:t<(a.push v).size:=(vh.1 i).1;have d:t=a.size:=by grind
    subst d;simp only at b;rw[Lf (by rw[h.sz];simp),h.sz]at b;simp_all
  ot:=λt k e o=>by let⟨u,H,x,y,z,B⟩:=h.ot t k e o;grind}
def SR.finishCell(h:SR P E Γ bs c w a st){fn:Func}{r:U}{ro:V (Nat×G)}(hr:qas P fn.results.toList r ro st):∃v q,(results fn a).run P w=.ok v w/\SR P E Γ [] q w #[v] ⟨[r],[],ro.map λx=>((0,x.1),x.2)⟩:=by
 obtain⟨t,ty,i,off,cs,own,l,S,⟨fs,L⟩,ht,F,rfl,hp,H,o,R⟩:=hr;have X:OO P st fn.results.toList=O (.agg l):=by rw[S];show mt P ty (st.tmps.getD t .undef) st.boxes=_;simp_all[mt]
 let⟨v,e1,e2,_⟩:=p7 h X;have p:=h.getD t;rw[ht]at p;generalize a3:a.getD t undef=vt at p;cases p with|bptr _ _ b hb=>
 let⟨B,q1,q2,q3⟩:=On h hb F hp;have a0:B=v:=by
  have z:fn.results=#[.cell t ty]:=by grind
  have a1:(results fn a).run P w=.ok B w:=by simp[results,z,asAddr];simp_all
  simp_all
 subst a0;have g1:=h.pushed e2;let⟨q,g2⟩:=SR.takeOwns (off:=off) (d:=a.size) (u:=B) hb (by simp) ro g1 F (λx s=>(o x s).1) R λx s=>by have:=q3 ⟨_,L,hV⟩ x.1 (o x s).2;let⟨v',z1,_⟩:=h.ob i (off+x.1) x.2 cs own b F (o x s).1 hb;exact⟨v',this.trans z1,z1⟩
 refine⟨B,B3 (λk=>(a.size,k)) ro q,e1,?_⟩;have hf:=g2.finish (H':=[]) (src:=λk=>(a.size,k)) (ro:=ro) e2 H (by unfold eu;simp) (λx s=>⟨?_,λu v' hu a2=>?_⟩) (λx _ y _ e=>by simpa using e);.simpa using hf
 .exact va7 _ (vb3.2 (l9.2 ⟨x,s,rfl⟩))
 simp_all
end
def qo8(P:I)(a:V ResultVar)(r:U)(c:V (Nat×G))(b:az):Prop:=match Mw a c b with
 |true=>match OO P b a with|some p=>p=r/\r.cl 0|none=>False
 | false => match qfk P a c b with
  |true=>match OO P b a with|some p=>p=r/\r.cl 0/\r.isAgg=T|none=>False
  |false=>False
def FR(P:I)(b:V ResultVar)(r:U)(a:V (Nat×G)):Exit->V It->az->Prop:=λe _ c=>match e with|.normal=>qo8 P b r a c|.ret=>qo8 P b r a c|_=>False
def C.ofSat{f:FuncId}{fn:Func}{c:W}{args:V U}{r:U}{ro:V (Nat×G)}
  (R:∀F w,(callFunc f F).run P w=.ok (.enter f F) w) (a6:P.funcs[f]? =O fn) (H:fn.body=O c)
  (s:dz P GE 0 c (qfm P fn.results.toList r ro) ⟨args++List.replicate (fn.ntmps - args.length) .undef,[],[]⟩):C P GE f args [] [] r ro []:=by
 refine⟨R,λΓ bs ow w F h=>calls_of_wp a6 H ?_⟩
 have a5:bs.length=0:=h.bl
 obtain rfl:bs=[]:=IO a5
 have h0:SR P ⟨GE,Γ,w,λ_=>False⟩ Γ [] (λ_=>N) w (F++Array.replicate (fn.ntmps - F.size) undef) ⟨args++List.replicate (fn.ntmps - args.length) .undef,[],[]⟩:=by
  have a8:F.size=args.length:=h.sz
  exact{
   wi:=h.wi
   sz:=by simp_all
   tm:=λt p v s hv=>by
    simp only at s;by_cases ht:t<args.length;.rw[B2 ht]at s;rw[va3 (by omega)]at hv;exact h.tm t p v s hv
    .rw[Lf (by omega),vaW]at s;split at s<;>cases s;exact .undef v
   bl:=rfl
   bx:=λi b B hi=>by simp
   inj:=λi j b hi=>by simp
   bn:=λi b hi=>by simp_all
   on:=λb L hL=>by grind
   ot:=λt k e he=>by simp_all
   ob:=λi j e cs own b hB=>by simp
   gl:=h.gl
   gc:=h.gc
   gx:=λg cs hg=>⟨(h.gx g cs hg).1,λz=>z,(h.gx g cs hg).2.2⟩
   step:=.refl _ _ _ _}
 have hE:th GE 0 ⟨GE,Γ,w,λ_=>False⟩:={
  ge:=rfl
  low:=λb n H=>h.lt_of_ghost H
  nt:=λ_ _ z=>z
  gl:=h.gl}
 have a7:=s N ⟨GE,Γ,w,λ_=>False⟩ [] ⟨F++Array.replicate (fn.ntmps - F.size) undef,[]⟩ w hE rfl ⟨Γ,[],_,h0,λi _=>rfl⟩
 refine wp_mono a7 λe a X hq=>?_
 let⟨hd,st,⟨a3,a4,a2,d,hk⟩,o⟩:=hq
 have hS:SR P ⟨GE,Γ,w,aV [] ow⟩ a3 a4 a2 X a.tmps st:={d with
  bn:=λi b H=>(d.bn i b H).elim False.elim .inr
  on:=λb L hL=>⟨(d.on b L hL).1,(d.on b L hL).2.elim False.elim .inr⟩
  gx:=h.gx
  step:={d.step with keep:=λb H _=>d.step.keep b H (λz=>z)}}
 have a1:(OO P st fn.results.toList=O r/\r.cl 0/\eu 0 st.boxes []/\(∀x∈ro,(dX fn.results.toList x.1,x.2)∈st.own/\vB st fn.results.toList x.1)/\
   (∀x∈ro,∀y∈ro,dX fn.results.toList x.1=dX fn.results.toList y.1->x.1=y.1))->
   a.defers=[]/\∃v,(results fn a.tmps).run P X=.ok v X/\∃S a0 q,Ending.returned v=.returned S/\SR P ⟨GE,Γ,w,aV [] ow⟩ a0 [] q X #[S] ⟨[r],[],ro.map λx=>((0,x.1),x.2)⟩:=by
  rintro⟨k1,k2,k3,k4,k5⟩
  let⟨v,e1,e2,e3⟩:=p7 hS k1
  refine⟨hd,v,e1,v,a3,B3 (dX fn.results.toList) ro a2,rfl,?_⟩
  have hf:=hS.finish (H':=[]) (src:=dX fn.results.toList) (ro:=ro) e2 k2 k3 (λx z=>⟨(k4 x z).1,λu S=>e3 x.1 u S (k4 x z).2⟩) k5
  simp_all
 have E:qas P fn.results.toList r ro st->
   a.defers=[]/\∃v,(results fn a.tmps).run P X=.ok v X/\∃S a0 q,Ending.returned v=.returned S/\SR P ⟨GE,Γ,w,aV [] ow⟩ a0 [] q X #[S] ⟨[r],[],ro.map λx=>((0,x.1),x.2)⟩:=by
  intro hc
  let⟨v,q,e1,e2⟩:=hS.finishCell hc
  grind
 rcases o with o|⟨he,o⟩
 .cases e with
  |normal=>exact a1 o
  |ret=>exact a1 o
  |exit id=>exact o.elim
  |goto l=>exact o.elim
  |panic c=>exact o.elim
  |outgrown=>exact o.elim
 .rcases he with rfl|rfl
  .exact E o
  .exact E o
def Ww{rs:V ResultVar}{r:U}{ro:V (Nat×G)}{st:az}(c:Mw rs ro st=T)(h:OO P st rs=O r)(d:r.cl 0):OO P st rs=O r/\r.cl 0/\eu 0 st.boxes []/\(∀x∈ro,(dX rs x.1,x.2)∈st.own/\vB st rs x.1)/\
      (∀x∈ro,∀y∈ro,dX rs x.1=dX rs y.1->x.1=y.1):=by
  unfold Mw at c
  rw[ne]at c
  let⟨e,p⟩:=c
  refine⟨h,d,by simp[eu,hV],λx i=>?_,λx i y s q=>?_⟩
  . have:=vaE.1 e x i
    rw[ne]at this
    refine⟨by simp_all,?_⟩
    have b:=this.2
    clear h this e p
    rcases rs with _|⟨y,_|⟨z,rs⟩⟩
    .simp_all
    . cases y with
      |tmp t=>trivial
      |cell t ty=>cases b
    . have a:∀ o:Q ResultVar,(match o with
        |some (.tmp t)=>(st.tmps.getD t .undef).isSlice
        |_=>Z)=T->(match o with
        |some (.tmp t)=>(st.tmps.getD t .undef).isSlice=T
        |_=>False):=by grind
      cases y with
      |tmp t=>exact a _ b
      |cell t ty=>exact a _ b
  grind
def qo8.to{E:V ResultVar}{r:U}{B:V (Nat×G)}{st:az}{e:Exit}(y:e=.normal\/e=.ret)(h:qo8 P E r B st):qfm P E r B e st:=by
 unfold qo8 at h;split at h
 .rename_i a;split at h;.rename_i p q;obtain⟨rfl,b⟩:=h;have:=Ww a q b;rcases y with rfl|rfl<;>exact .inl this
  simp_all
 .split at h
  .rename_i a;split at h
   .rename_i p q;obtain⟨rfl,b,c⟩:=h;refine .inr ⟨y,?_⟩;unfold qfk at a;split at a
    .rename_i t ty _;split at a
     .rename_i H o;split at a
      .rename_i i d S;split at a
       .rename_i w own L;rw[ne]at a;let⟨X,F⟩:=a;have s:cO P ty (w.drop d)=O p:=by have R:mt P ty (st.tmps.getD t .undef) st.boxes=O p:=q;simp_all[mt]
        cases p<;>simp only[PVal.isAgg]at c<;>first|simp_all|skip
        rename_i l;have z:l.length=P.cellsOf ty:=by grind [cO,List.length_take]
        refine⟨t,ty,i,d,w,own,l,rfl,⟨H,o⟩,S,L,rfl,s,b,λx hx=>?_,n8 F⟩;grind
       simp_all
      simp_all
     simp_all
    simp_all
   simp_all
  simp_all
def FR.to{b:V ResultVar}{r:U}{a:V (Nat×G)}{e:Exit}{sc:V It}{st:az}(h:FR P b r a e sc st):qfm P b r a e st:=by
 unfold FR at h;split at h;.exact h.to (.inl rfl)
 .exact h.to (.inr rfl)
 simp_all
def C.ev(s:P.follows .mixedOrders=T){f:FuncId}{fn:Func}{c:W}{a:V U}{r:U}{ro:V (Nat×G)}
  (b:∀p w,(callFunc f p).run P w=.ok (.enter f p) w) (i:P.funcs[f]? =O fn) (q:fn.body=O c) (d:ie 0 a) (sc:V It)
  (h:Rc P GE A 0 c sc ⟨a++List.replicate (fn.ntmps - a.length) .undef,[],[]⟩ (FR P fn.results.toList r ro)):CC P GE f a r ro:=
 ⟨d,C.ofSat b i q ((jB s c sc _ _ h).imp λe x o=>by let⟨t,o⟩:=o;exact o.to)⟩
end
abbrev aa:=V UInt8
abbrev dc(n:Int):Int:=IntKind.i64.wrap n
def cS(s:aa):V U:=[.str s]
def cI(k:IntKind)(n:Int):V U:=[.int k n]
def cB(b:K):V U:=[.bool b]
def sl{α:Type}(c:α->V U)(l:V α):U:=.slice (l.map c)
def cL{α:Type}(c:α->V U)(l:V α):V U:=[sl c l]
def lO(s:aa)(i:Int):Q Int:=(cJ s i).map λc=>(c.toNat:Int)
def bd:Q Int->Nat->Q Nat|none,d=>O d|some i,_=>if 0<=i then O i.toNat else N
def SB{α:Type}(l:V α)(lo c:Q Int):Q (V α):=match bd lo 0,bd c l.length with|some a,O b=>if a<=b/\b<=l.length then O ((l.take b).drop a)else N|_,_=>N
def app{α:Type}(l r:V α):Q (V α):=if l.length+r.length<=bO then O (l++r)else N
def oe{α:Type}(m:V (aa×α))(k:aa):Q α:=(m.find? λe=>k==e.1).map (·.2)
def mq{α:Type}(m:List (aa×α))(k:aa)(v:α):List (aa×α):=match m with|[]=>[(k,v)]|e::r=>if k==e.1 then(k,v)::r else e::mq r k v
def bU{α:Type}(f:α->U)(m:V (aa×α)):V (U×U):=m.map λe=>(.str e.1,f e.2)
def NG:TypeDesc->K|.struct _=>Z|.array _ _=>Z|_=>T
def cX{P:I}{t:G}(h:(P.underlying t).any NG=T)(p:U)(r:V U):cO P t (p::r)=O p:=by
 unfold cO;split;.rename_i a;rw[a]at h;cases h
 .rename_i a;rw[a]at h;cases h
 .rfl
 .rename_i a;rw[a]at h;cases h
structure Ku{α:Type}(P:Program)(T e:TypeId)(c:α->List PVal):Prop where
 hu:P.underlying T=some (.slice e)
 hc:∀x,(c x).length=P.cellsOf e
 hi:(P.info? e).isSome=true
 hp:0<P.cellsOf e
 hz:(eR P e).map (·.length)=some (P.cellsOf e)
 hb:P.bytesOf e<=65536
 ho:∀x,∀q∈c x,q.one=true
 cl:∀x,ie 0 (c x)
def cw{α:Type}{c:α->V U}(h:∀x,ie 0 (c x))(l:V α):(sl c l).cl 0:=by unfold sl;simp only[PVal.cl];exact qew λp a=>by obtain⟨x,_,rfl⟩:=l9.1 a;exact h x
def J3(s:aa):ie 0 (cS s):=⟨hV,hV⟩
def qvk(k:IntKind)(n:Int):ie 0 (cI k n):=⟨hV,hV⟩
def qwv(b:K):ie 0 (cB b):=⟨hV,hV⟩
def qtU{α:Type}{c:α->V U}(h:∀x,ie 0 (c x))(l:V α):ie 0 (cL c l):=⟨cw h l,hV⟩
def K3{α:Type}{l:V α}{i:Int}{x:α}(h:cJ l i=O x):0<=i/\l[i.toNat]? =O x:=by
 unfold cJ at h;split at h;.exact⟨‹_›,h⟩
 .cases h
def aI{a b:Prop}(h:a)(c:b):a/\b:=⟨h,c⟩
def rP(p:U):p=p:=rfl
def lf{β:Type}{a r:β}(h:O a=O r):a=r:=vbp h
abbrev u:U:=.undef
def qon(x:aa):bF (.str x)=O (cS x):=rfl
def qwP(x:K):bF (.bool x)=O (cB x):=rfl
def qqW{α:Type}(c:α->V U)(x:V α):bF (sl c x)=O (cL c x):=rfl
def qwO(l:V U):bF (.agg l)=O l:=rfl
def quw(x:aa):∀q∈cS x,q.one=true:=by intro q a;simp[cS]at a;subst a;rfl
def quv(k:IntKind)(x:Int):∀q∈cI k x,q.one=true:=by intro q a;simp[cI]at a;subst a;rfl
def aE:W->List K->W
 |c,[]=>c
 |.seq a b,x::l=>match x with|false=>aE a l|true=>aE b l
 |.cond _ a b,x::l=>match x with|false=>aE a l|true=>aE b l
 |.block _ c,_::l=>aE c l
 |.loop c,_::l=>aE c l
 |c,_=>c
section
variable{P:I}{T e:G}{α:Type}{c:α->V U}
def Ku.ia(s:Ku P T e c){l:V α}{i:Int}{x:α}(h:cJ l i=O x):nn P T (sl c l) (.int .i64 i)=O (.eptr (c x)):=by let⟨a,b⟩:=K3 h;unfold sl nn;simp only[s.hu,l7 a,o8,b,or];rw[l7 ⟨s.hc x,s.hi⟩]
def Ku.ln(s:Ku P T e c)(l:V α):∀H,Oy P T (sl c l) H=O (.int .i64 (l.length:Int)):=λH=>by unfold sl Oy;simp only[s.hu,va0]
def Uk{o:Q Int}{d n:Nat}{k:IntKind}(h:bd o d=O n):Sq (o.map (PVal.int k)) d=O n:=by cases o with|none=>exact h|some i=>exact h
def Ku.sc(s:Ku P T e c){l r:V α}{lo m:Q Int}(h:SB l lo m=O r):xo P T (sl c l) (lo.map (PVal.int .i64)) (m.map (PVal.int .i64)) N=O (sl c r):=by
 unfold SB at h;split at h
 .rename_i a b o p;split at h
  .rename_i i;cases h;unfold sl xo;simp only[s.hu,Uk o];rw[show(l.map c).length=l.length by simp,Uk p];simp only;have d:∀x∈(l.map c).take 1,x.length=P.cellsOf e:=λx d=>by obtain⟨y,_,rfl⟩:=l9.1 (vcP d);exact s.hc y
   rw[l7 ⟨i.1,i.2,s.hi,d⟩,List.map_drop,List.map_take]
  .cases h
 .cases h
def Ku.ap(s:Ku P T e c){l r z:V α}(h:app l r=O z):ji P T (l.map c) (r.map c)=O (sl c z):=by
 unfold app at h;split at h
 .cases h;unfold ji sl;simp only[s.hu,va0];have b:∀x∈l.map c,x.length=P.cellsOf e:=λx a=>by obtain⟨y,_,rfl⟩:=l9.1 a;exact s.hc y
  have d:∀x∈r.map c,x.length=P.cellsOf e/\∀q∈x,q.one=true:=λx a=>by obtain⟨y,_,rfl⟩:=l9.1 a;exact⟨s.hc y,s.ho y⟩
  rw[l7 ⟨‹_›,s.hb,s.hp,s.hz,b,d⟩,va5]
 .cases h
def Yx{v:α->U}{sz:Nat}(b:∀x,bF (v x)=O (c x))(a:∀x,(c x).length=sz):∀(l:List α)(i:Nat),Li sz i ((l.map v).zipIdx i|>.map λx=>(x.2,x.1))=O (l.map c)
 |[],i=>by simp[Li]
 |x::l,i=>by have d:=Yx b a l (i+1);simp only[ox,List.zipIdx_cons,Li,b x];simp[d,a x]
def Ku.mk'(s:Ku P T e c){v:α->U}(b:∀x,bF (v x)=O (c x))(l:V α)(n:Nat)(a:(Y (l.length=n)&&Y (n * P.cellsOf e<=16777216))=true):gu P T n ((l.map v).zipIdx 0|>.map λx=>(x.2,x.1))=O (sl c l):=by
 simp only[ne,oy]at a;unfold gu sl;simp only[s.hu,Yx b s.hc];have d:(eR P e).isSome=true:=by
  cases h:eR P e with
  |none=>have:=s.hz;rw[h]at this;cases this
  |some z=>rfl
 rw[l7 ⟨by simpa using a.1,d,s.hp,a.2,s.hz⟩]
def wP{t:G}(h:P.underlying t=O .string){s:aa}{i x:Int}(a:lO s i=O x):Ia P t (.str s) (.int .i64 i)=O (.int .u8 x):=by
 unfold lO at a;cases d:cJ s i with
 |none=>rw[d]at a;cases a
 |some b=>rw[d]at a;cases a;let⟨m,o⟩:=K3 d;unfold Ia;simp only[h,l7 m,o,or]
def qpL{β:Type}{t e:G}{n:Nat}{v:β->U}{l:V β}(h:P.underlying t=O (.array n e))(m:P.cellsOf e=1)(o:(P.info? e).isSome=true)(p:(P.underlying e).any NG=true)(q:Y (l.length=n)=true)
  {k:IntKind} {i:Int} {x:β} (b:cJ l i=O x):Ia P t (.agg (l.map v)) (.int k i)=O (v x):=by
 let⟨d,b⟩:=K3 b
 have a:i.toNat<l.length:=(vbO.1 b).1
 have r:l.length=n:=by simpa using q
 unfold Ia
 simp only[h]
 rw[l7 ⟨d,by omega,o⟩,m,vbv,vaN (by simpa using a)]
 rw[cX p]
 simp only[vcH]
 rw[m3 a]at b
 cases b;rfl
def LF{t:G}(h:P.underlying t=O .string)(s:aa):∀H,Oy P t (.str s) H=O (.int .i64 (s.length:Int)):=λH=>by unfold Oy;simp only[h]
def qmR{t:G}(p:P.underlying t=O .string){l r:aa}{lo d:Q Int}(h:SB l lo d=O r):xo P t (.str l) (lo.map (PVal.int .i64)) (d.map (PVal.int .i64)) N=O (.str r):=by
 unfold SB at h;split at h
 .rename_i a b i m;split at h;.rename_i o;cases h;unfold xo;simp only[p,Uk i,Uk m];rw[l7 o]
  .cases h
 .cases h
def qvn{s d:G}{k a:IntKind}(b:P.underlying s=O (.int k))(h:P.underlying d=O (.int a))(n:Int):Yw P s d (.int k n)=O (.int a (a.wrap n)):=by simp only[Yw,b,h]
def ru:List Int->Q aa|[]=>O []|n::r=>if 0<=n/\n<256 then(ru r).map (UInt8.ofNat n.toNat::·)else N
def Ch{f:α->U}(k:aa):∀(m:List (aa×α))(i:Nat),Lj (.str k) (bU f m) i=O (match oe m k with
  |none=>N
  |some v=>O (i+(m.findIdx λe=>k==e.1),f v))
 |[],i=>by simp[bU,Lj,oe]
 | e :: m,i => by
  have a:=Ch (f:=f) k m (i+1);unfold bU at a ⊢;simp only[ox,Lj,qaj];unfold oe at a ⊢;by_cases h:(k==e.1)=true;.simp[h,vbS]
  .have b:(k==e.1)=false:=by simpa using h
   simp only[b,List.find?_cons,a,vbS];cases d:(List.find? (λe=>k==e.1) m)with|none=>simp|some v=>simp;omega
def RO{t b a:G}{f:α->U}(d:P.underlying t=O (.map b a))(h:P.underlying b=O .string){z:α}(i:LA P a=O (f z))(m:V (aa×α))(k:aa):Oz P t (bU f m) (.str k) Z=O (f ((oe m k).getD z)):=by unfold Oz;simp only[d,h,oQ,if_true,Ch];cases oe m k with|none=>simp[i]|some v=>simp
def qlA{t b a:G}{f:α->U}(d:P.underlying t=O (.map b a))(h:P.underlying b=O .string){z:α}(i:LA P a=O (f z))(m:V (aa×α))(k:aa):Oz P t (bU f m) (.str k) true=O (.tuple [f ((oe m k).getD z),.bool (oe m k).isSome]):=by unfold Oz;simp only[d,h,oQ,if_true,Ch];cases oe m k with|none=>simp[i]|some v=>simp
def qe2(f:α->U)(k:aa)(v:α):∀(m:List (aa×α)),bU f (mq m k v)=match oe m k with
  |none=>bU f m++[(.str k,f v)]
  |some _=>(bU f m).set (m.findIdx λe=>k==e.1) (.str k,f v)
 |[]=>by simp[mq,oe,bU]
 | e :: m => by
  have a:=qe2 f k v m;unfold oe at a ⊢;unfold bU at a ⊢;by_cases h:(k==e.1)=true;.simp[mq,h,vbS]
  .have b:(k==e.1)=false:=by simpa using h
   simp only[mq,b,List.find?_cons,vbS,ox];simp only[vaF,if_false,ox,a];cases(List.find? (λe=>k==e.1) m)with|none=>simp|some v=>simp
def RP{t a b:G}{f:α->U}(d:P.underlying t=O (.map a b))(h:P.underlying a=O .string)(m:V (aa×α))(k:aa)(v:α):Yy P t (bU f m) (.str k) (f v)=O (bU f (mq m k v)):=by unfold Yy;simp only[d,h,oQ,if_true,Ch,qe2];cases oe m k with|none=>simp|some w=>simp
end
structure qfA(w w':World):Prop where
 os:w'.os=w.os
 tape:w'.tape=w.tape
 output:w'.output=w.output
 size:w.heap.size<=w'.heap.size
 drawn:dr w<=dr w'
 keep:∀b,b<w.heap.size->w'.heap[b]? =w.heap[b]?
def qfA.of_grow(w:J)(k:Nat)(os:Array Obj):qfA w (Sort.grow (w.drewN k) os):={
 os:=rfl
 tape:=rfl
 output:=rfl
 size:=by show w.heap.size<=(w.heap++os).size;simp
 drawn:=DY (vbq _ _)
 keep:=λb a=>by show(w.heap++os)[b]? =_;rw[va3 a]}
section
variable{P:I}{GE:V (Nat×V U)}
def qoI{E:qy}{Γ:aS}{x:bC}{B:Nat->Q kg}{w:J}{a:Array D}{F:az}(h:SR P E Γ x B w a F){g:Nat}{k:IntKind}{zs:V Int}{b:String}
  (r:(g,zs.map (PVal.int k))∈E.GE) (z:P.globalNamed b=O g):Lib.TabIs P w b k zs:=by
 let⟨_,_,_,c,t,fr,o,p⟩:=h.gnow r
 have s:=h.gl g _ r
 unfold Lib.TabIs World.var?
 rw[z]
 simp only[eJ,o]
 congr 1
 refine Array.ext_getElem? λi=>?_
 generalize d:zs.map (PVal.int k)=cs at s
 cases s with
 |eptrE _ _=>
  have A:zs=[]:=by simpa using d
  subst A
  have e:c.size=0:=p
  rw[vbV (by omega),vbV (by simp)]
 | eptr _ _ _ n vals hg' hn' hc hvv =>
  subst d
  by_cases m:i<zs.length
  .have e:=hc i _ (by simp[m]:(zs.map (PVal.int k))[i]? =O (.int k zs[i]))
   have q:=hvv i _ (by simp[m]:(zs.map (PVal.int k))[i]? =O (.int k zs[i]))
   rw[s7]at e
   have y:w.cell? ⟨g,i,N⟩=c[i]?:=cell_of_row w g i c t fr o
   rw[y]at e
   rw[e]
   generalize vals i=vi at q
   cases q
   simp[m]
  .rw[va0]at p
   rw[vbV (by omega),vbV (by simp;omega)]
def CC.grownIS{f:FuncId}{n:Int}{s:aa}{k:IntKind}(x:∀y w,(callFunc f y).run P w=.ok (.enter f y) w)
  (h:∀E Γ z F w a st,E.GE=GE->SR P E Γ z F w a st->Calls P f #[.int k n] w λe w'=>e=.returned (.string ⟨s.toArray⟩)/\qfA w w'):CC P GE f [.int k n] (.str s) []:=by
 refine⟨⟨hV,hV⟩,x,λΓ z F w y d=>?_⟩
 have a0:y=#[.int k n]:=by
  have A:=d.sz;simp at A;have H:y[0]? =O y[0]:=by simp[A]
  have h3:=d.tm 0 _ _ rfl H;refine Array.ext (by simp[A]) λi hi S=>?_;have:i=0:=by simp at S;omega
  subst this;generalize y[0]=v at h3;cases h3;rfl
 subst a0
 refine(h _ Γ z F w _ _ rfl d).mono λe w' R=>?_
 obtain⟨rfl,q⟩:=R
 have L:z.length=0:=d.bl
 obtain rfl:z=[]:=IO L
 have hW:=d.world (Γ':=Γ) (w':=w') (λ_=>False) (λb m r _=>⟨m,r,l8 _,λo _=>bE (q.keep b (d.lt_of_ghost r)) o⟩)
  (λb m r=>by
   let⟨c,t,fr,A,H⟩:=d.wi b m r;exact⟨c,t,fr,(q.keep b (d.lt_of_ghost r)).trans A,H⟩) q.os q.tape q.output q.size (λb r _=>⟨q.keep b r,rfl⟩) (λ_ B=>B.elim) (λ_ _ _ B=>B) (λ_ _ _ B=>B) q.drawn
 refine⟨_,Γ,F,rfl,{hW with
  sz:=rfl
  tm:=λt p v X hv=>by cases t with|zero=>simp at X hv;subst X;subst hv;exact .str s|succ t=>simp at X
  ot:=λt k e R=>by simp at R}⟩
structure qhI(P:Program)(g:FuncId)(e:TypeId)(enc:aa->Value)(f:List aa->List aa)(R:Option Addr->Nat->Nat->Value):Prop where
 call:∀vs w,(callFunc g vs).run P w=.ok (.enter g vs) w
 row:∀(w:World)(b cap:Nat)(cur:Array Value)(l:List aa),w.heap[b]? =some (.cells cur e (0,0))->cur.size=cap->l.length<=cap->cap<=maxLen->l.length<=bO->cur.toList.take l.length=l.map enc->
  Calls P g #[.slice (some ⟨b,0,none⟩) l.length cap] w λr w'=>r=.returned (R (some ⟨b,0,none⟩) (f l).length cap)/\(f l).length<=cap/\w'.os=w.os/\w'.tape=w.tape/\w'.output=w.output/\(w.heap.size<=w'.heap.size/\w.drawn<=w'.drawn)/\
   (∀b',b'<w.heap.size->b'≠b->w'.heap[b']? =w.heap[b']?)/\∃cur',w'.heap[b]? =some (.cells cur' e (0,0))/\cur'.size=cap/\cur'.toList.take (f l).length=(f l).map enc
 none:∀w:World,f []=[]/\Calls P g #[.slice none 0 0] w λr w'=>r=.returned (R none 0 0)/\w'=w
def qip:∀{l l':List U},l.length=l'.length->(∀(i:Nat) q,l'[i]? =O q->q=.undef\/l[i]? =O q)->Vq l l'=l'
 |[],[],_,_=>rfl
 |[],_::_,h,_=>by simp at h
 |_::_,[],h,_=>by simp at h
 | p :: l,q :: l',h,hq => by
  have b:=qip (l:=l) (l':=l') (by simpa using h) λi x c=>by simpa using hq (i+1) x (by simpa using c)
  have a:=hq 0 q rfl;simp only[List.getElem?_cons_zero,FS]at a;rcases a with rfl|rfl;.simp only[Vq,b]
  .cases p<;>simp only[Vq,b]
def fJ(n t:Nat)(l:V aa)(e:G):az:=⟨(List.replicate n .undef).set t (sl cS l),[],[((t,0),e)]⟩
def V8{n t:Nat}{p:U}{i:Nat}{l:V aa}(h:((List.replicate n .undef).set t (sl cS l))[i]? =O p):p=.undef\/(i=t/\p=sl cS l):=by
 rw[vbP]at h;split at h
 .rename_i a;split at h;.cases h;exact .inr ⟨a.symm,rfl⟩
  .cases h
 .rw[vaW]at h;split at h;.cases h;exact .inl rfl
  .cases h
def Sl{E:qy}{Γ:aS}{bs:bC}{ow:Nat->Q kg}{w w':J}{a:Array D}{st:az}(h:SR P E Γ bs ow w a st)(hE:th GE 0 E)(a6:bs=[]){e:G}(he:P.cellsOf e=1){n t ts:Nat}{a':Array D}(hn:a'.size=n)(ar:ts<n)
  {f:V aa} {v:D} (hv:a'[ts]? =O v) (a9:w'.os=w.os) (ab:w'.tape=w.tape) (a3:w'.output=w.output) (S:w.heap.size<=w'.heap.size/\w.drawn<=w'.drawn)
  (a4:(v=.slice N 0 0/\f=[]/\w'=w)\/∃b cap r,v=.slice (O ⟨b,0,N⟩) f.length cap/\ow b=O (.tmp t 0)/\f.length<=cap/\cap<=maxLen/\(∀b',b'<w.heap.size->b'≠b->w'.heap[b']? =w.heap[b']?)/\w'.heap[b]? =O (.cells r e (0,0))/\r.size=cap/\r.toList.take f.length=f.map λs=>Value.string ⟨s.toArray⟩):
  ∃an ad,SR P E an [] ad w' a' (fJ n ts f e):=by
 subst a6
 rcases a4 with⟨rfl,rfl,rfl⟩|⟨b,cap,r,rfl,hob,hfc,hcm,hkeep,hcur,hcs,htake⟩
 .refine⟨Γ,λ_=>.none,{h with
   sz:=by simp[fJ,hn]
   tm:=λi p u hp hu=>by
    rcases V8 hp with rfl|⟨rfl,rfl⟩;.exact .undef u
    .rw[hv]at hu;cases hu;exact .sliceNil
   bl:=rfl
   bx:=λi b B z=>by simp at z
   inj:=λi j b z=>by simp at z
   bn:=λi b z=>by simp at z
   on:=λb L hL=>by cases hL
   ot:=λt' k e' A=>by simp[fJ]at A;obtain⟨⟨rfl,rfl⟩,rfl⟩:=A;exact⟨_,_,hv,rfl,⟨0,[],World.ownsRow_nil _ _ _ _,λb hb=>by simp[Value.ownBlock]at hb⟩,λb hb=>by simp[Value.ownBlock]at hb⟩
   ob:=λi j e' cs own b hB=>by simp[fJ]at hB}⟩
 .have a2:=(h.on b _ hob)
  have X:=a2.1
  have a5:E.w.heap.size<=b:=a2.2.resolve_left (hE.nt rfl b)
  have ao:r.toList.length=cap:=by simpa using hcs
  have a0:∀i,i<f.length->r[i]? =O (.string ⟨(f[i]!).toArray⟩):=by
   intro i z;have R:(r.toList.take f.length)[i]? =(f.map λs=>Value.string ⟨s.toArray⟩)[i]?:=by rw[htake]
   rw[vay z]at R;simp only[vaK,o8]at R;rw[R];simp[z]
  have a1:E.Γ.Le E.w (Γ.put b f.length) w':=λx m d a8=>by
   let⟨m',R,h2,h3⟩:=h.step.le x m d a8;have F:x≠b:=λy=>by have:=hE.low x m d;omega
   refine⟨m',(Γ.put_other F).trans R,h2,λo ho=>?_⟩;rw[<-h3 o ho];exact bE (hkeep x (h.lt_of_ghost R) F) o
  refine⟨Γ.put b f.length,λx=>if x=b then O (.tmp ts 0)else Option.none,{
   wi:=λx m d=>by
    by_cases y:x=b;.subst y;rw[Γ.put_same]at d;cases d;exact⟨r,e,(0,0),hcur,by omega⟩
    .rw[Γ.put_other y]at d;let⟨c,t',fr,R,h2⟩:=h.wi x m d;exact⟨c,t',fr,(hkeep x (h.lt_of_ghost d) y).trans R,h2⟩
   sz:=by simp[fJ,hn]
   tm:=λi p u hp hu=>by
    rcases V8 hp with rfl|⟨rfl,rfl⟩;.exact .undef u
    .rw [hv] at hu; cases hu
     have:=VR.slice (Γ:=Γ.put b f.length) (bs:=[]) (w:=w') (f.map cS) b 0 cap f.length 1 (λi _=>.string ⟨(f[i]!).toArray⟩) (by decide) (by simpa using hfc) (Γ.put_same _ _) (by simp)
      (λi x d=>by rw[o8]at d;cases H:f[i]? with
       |none=>rw[H]at d;cases d
       |some s=>rw[H]at d;cases d;rfl)
      (λi x k q d hq=>by
       rw[o8]at d;cases H:f[i]? with
       |none=>rw[H]at d;cases d
       |some s=>
        rw[H]at d;cases d;have a7:=aq H;have hk:k=0:=by have:=aq hq;simp[cS]at this;exact this
        subst hk;rw[show 0+i * 1+0=i by omega,cell_of_row w' b i r e _ hcur];exact a0 i a7)
      (λi x k q d hq=>by
       rw[o8]at d;cases H:f[i]? with
       |none=>rw[H]at d;cases d
       |some s=>
        rw[H]at d;cases d;have hk:k=0:=by have:=aq hq;simp[cS]at this;exact this
        subst hk;simp[cS]at hq;subst hq;have:f[i]! =s:=by rw[vcb,H];rfl
        rw[this];exact .str s)
     rw[va0]at this;exact this
   bl:=rfl
   bx:=λi b B z=>by simp at z
   inj:=λi j b z=>by simp at z
   bn:=λi b z=>by simp at z
   on:=λx L hL=>by
    split at hL;.rename_i y;subst y;exact⟨R3 X S.1,.inr a5⟩
    .cases hL
   ot:=λt' k e' A=>by
    simp[fJ]at A;obtain⟨⟨rfl,rfl⟩,rfl⟩:=A;refine⟨_,_,hv,rfl,⟨f.length,f.map λs=>Value.string ⟨s.toArray⟩,⟨by simp[he],.inr ⟨b,cap,r,rfl,s5 _,hcur,hfc,hcm,by rw[he];omega,by rw[he,vbv];exact htake⟩⟩,λx d=>?_⟩,λx d=>?_⟩;.simp[Value.ownBlock]at d;subst d;rw[he,vbv];exact Γ.put_same _ _
    .simp[Value.ownBlock]at d;subst d;simp
   ob:=λi j e' cs own b hB=>by simp[fJ]at hB
   gl:=λg cs hg=>(hE.gl g cs (by rw[<-hE.ge];exact hg)).mono a1 (.refl _)
   gc:=h.gc
   gx:=h.gx
   step:={
    os:=a9.trans h.step.os
    tape:=ab.trans h.step.tape
    output:=a3.trans h.step.output
    size:=m0 h.step.size S.1
    drawn:=m0 h.step.drawn (DY S.2)
    keep:=λx d hT=>by
     have F:x≠b:=λy=>by omega
     let⟨k1,k2⟩:=h.step.keep x d hT;exact⟨(hkeep x (R3 d h.step.size) F).trans k1,(Γ.put_other F).trans k2⟩
    le:=a1}}⟩
def Ef(x:Q Addr)(n c:Nat):jz (.slice x n c) 0=O (.slice x n c):=rfl
def P2{g:FuncId}{e:G}{f:V aa->V aa}{R:Q Addr->Nat->Nat->D}(hI:qhI P g e (λs=>Value.string ⟨s.toArray⟩) f R)(he:P.cellsOf e=1){F:Array M}{H:V Nat}{y B:M}{n t z L ts:Nat}{l:V aa}{bl:Array G}
  (ao:l.length<=bO) (b5:F[0]? =O y) (b7:F[1]? =O B)
  (h1:y.op=.move (.tmp t)) (ab:y.dst=O z) (b2:y.guard=N) (h2:B.op=.call {callee:=.value (.func g),args:=#[.tmp z],argTypes:=bl}) (b3:B.dst=O L) (b4:B.guard=N)
  (hn:t<n/\z<n/\L<n/\t≠z/\t≠L/\z≠L) (a0:(ts=t/\(f l).length=l.length)\/(ts=L/\∀x k c,R x k c=.slice x k c))
  {E:qy} {a:Act} {w:J} {bm:Exit->Act->J->Prop} (hE:th GE 0 E) (hR:Y5 P E [] (fJ n t l e) a w)
  (an:∀a' w',a'.defers=a.defers->(∃a9 a8,SR P E a9 [] a8 w' a'.tmps (fJ n ts (f l) e))->wpOps P F bm H a' w'):wpOps P F bm (0::1::H) a w:=by
 let⟨n1,n2,n3,n4,n5,n6⟩:=hn
 let⟨Γ,bs,ow,h,hk⟩:=hR
 have a3:bs=[]:=IO h.bl
 have a6:a.tmps.size=n:=by rw[h.sz];simp[fJ]
 let⟨u,v,hu,X,a2,ar⟩:=h.ot t 0 e (by simp[fJ])
 have a7:=h.tm t (sl cS l) u (by simp[fJ,n1]) hu
 have bc:a.eval (.tmp t)=u:=bu hu
 rw[wpOps_cons]
 unfold wpOp
 rw[b5]
 simp only
 rw[l7 (by simp[Region.wanted,b2])]
 refine .inl ?_
 unfold Oper.wp
 rw[show(execOp a.eval y).run P w=.ok (.value u) w by simp[execOp,h1,bc],Oper.upon_value]
 rw[wpOps_cons]
 unfold wpOp
 rw[b7]
 simp only
 rw[l7 (by simp[Region.wanted,b4])]
 refine .inl ?_
 unfold Oper.wp
 have be:(a.put y.dst u).eval (.tmp z)=u:=by refine bu ?_;rw[ab];show(a.tmps.setIfInBounds z u)[z]? =O u;simp[a6,n2]
 rw[show(execOp (a.put y.dst u).eval B).run P w=.ok (.enter g #[u]) w by
  simp only[execOp,h2];simp[resolve,Act.eval,Deferred.ofValue,invoke,hI.call];have b1:(a.put y.dst u).tmps.getD z undef=u:=be;rw[vaG]at b1;exact b1,Oper.upon_enter]
 have d:∀r:D,(((a.put y.dst u).put B.dst r).tmps)[t]? =O u/\(((a.put y.dst u).put B.dst r).tmps)[L]? =O r/\(((a.put y.dst u).put B.dst r).tmps).size=n:=by
  intro r;rw[ab,b3];show((a.tmps.setIfInBounds z u).setIfInBounds L r)[t]? =O u/\((a.tmps.setIfInBounds z u).setIfInBounds L r)[L]? =O r/\((a.tmps.setIfInBounds z u).setIfInBounds L r).size=n;refine⟨?_,?_,by simp[a6]⟩;.rw[vaI n5.symm,vaI n4.symm];exact hu
  .rw[Array.getElem?_setIfInBounds_self_of_lt (by simp[a6,n3])]
 have ad:∀r:D,((a.put y.dst u).put B.dst r).defers=a.defers:=λr=>(aW _ _ _).trans (aW _ _ _)
 have fin:∀(r:D)(w':J),(∃a9 a8,SR P E a9 [] a8 w' ((a.put y.dst u).put B.dst r).tmps (fJ n ts (f l) e))->wpOps P F bm H ((a.put y.dst u).put B.dst r) w':=
  λr w' hS=>an _ _ (ad r) hS
 have a5:ts<n:=by rcases a0 with⟨rfl,_⟩|⟨rfl,_⟩<;>assumption
 unfold sl at a7
 generalize S:l.map cS=es at a7
 cases a7 with
 | sliceNil =>
  have hl:l=[]:=by cases l with
   |nil=>rfl
   |cons x l=>simp at S
  subst hl
  refine(hI.none w).2.mono λr w' hr=>?_
  obtain⟨rfl,rfl⟩:=hr
  refine fin _ _ (Sl h hE a3 he (t:=t) (d _).2.2 a5 (v:=.slice N 0 0) ?_ rfl rfl rfl ⟨l8 _,l8 _⟩ (.inl ⟨rfl,(hI.none w').1,rfl⟩))
  rcases a0 with⟨rfl,_⟩|⟨rfl,hR⟩
  .exact(d _).1
  .rw[(d _).2.1,hR]
 | sliceE x cap =>
  have hl:l=[]:=by cases l with
   |nil=>rfl
   |cons x l=>simp at S
  subst hl
  rw[Ef]at X
  cases X
  let⟨k,xs,⟨bg,o⟩,bi⟩:=a2
  rcases o with⟨o,_⟩|⟨g',cap',cur,o,_,hheap,hkc,hcm,hcs,htake⟩
  .cases o
  .cases o
   rw[he,vbv]at hcs
   have p:=hI.row w g' cap cur [] hheap hcs (s5 _) hcm ao (by simp)
   refine p.mono λr w' hr=>?_
   obtain⟨rfl,q1,q2,q3,q4,q5,q6,A,q7,q8,q9⟩:=hr
   refine fin _ _ (Sl h hE a3 he (t:=t) (d _).2.2 a5 (v:=.slice (O ⟨g',0,N⟩) (f []).length cap) ?_ q2 q3 q4 q5 (.inr ⟨g',cap,A,rfl,ar g' rfl,q1,hcm,q6,q7,q8,q9⟩))
   rcases a0 with⟨rfl,a4⟩|⟨rfl,hR⟩
   .rw[(d _).1,a4];rfl
   .rw[(d _).2.1,hR]
 | slice _ b off cap m sz vals hz0 hcap hg hm hszs hc hv =>
  rw[Ef]at X
  cases X
  let⟨k,xs,⟨bg,o⟩,bi⟩:=a2
  rcases o with⟨o,_⟩|⟨g',cap',cur,o,_,hheap,hkc,hcm,hcs,htake⟩
  .cases o
  .cases o
   rw[he,vbv]at hcs htake
   have a1:es.length=l.length:=by rw[<-S];simp
   have b0:cur.toList.take l.length=l.map λs=>Value.string ⟨s.toArray⟩:=by
    refine va2 λi=>?_;by_cases hi:i<l.length
    .rw[vay hi];simp only[vaK,o8,m3 hi,or];have hx:es[i]? =O (cS l[i]):=by rw[<-S];simp[hi]
     have bb:sz=1:=by have:=hszs i _ hx;simp[cS]at this;exact this.symm
     subst bb;have e1:=hc i _ 0 (.str l[i]) hx rfl;have e2:=hv i _ 0 (.str l[i]) hx rfl;rw[show 0+i * 1+0=i by omega,cell_of_row w b i cur e _ hheap]at e1;rw[e1];generalize vals i 0=q at e2;cases e2;rfl
    .rw[vaU (by simp;omega),vaU (by simp;omega)]
   have p:=hI.row w b cap cur l hheap hcs (by omega) hcm ao b0
   rw[<-a1]at p
   refine p.mono λr w' hr=>?_
   obtain⟨rfl,q1,q2,q3,q4,q5,q6,A,q7,q8,q9⟩:=hr
   refine fin _ _ (Sl h hE a3 he (t:=t) (d _).2.2 a5 (v:=.slice (O ⟨b,0,N⟩) (f l).length cap) ?_ q2 q3 q4 q5 (.inr ⟨b,cap,A,rfl,ar b rfl,q1,hcm,q6,q7,q8,q9⟩))
   rcases a0 with⟨rfl,a4⟩|⟨rfl,hR⟩
   .rw[(d _).1,a4,a1]
   .rw[(d _).2.1,hR]
section
variable{g:FuncId}{e:G}{f:V aa->V aa}{R:Q Addr->Nat->Nat->D}{id:Nat}{d m o:M}{n t d1 d2 b ts:Nat}{l:V aa}{tys:Array G}
def dz.inplace(hI:qhI P g e (λs=>Value.string ⟨s.toArray⟩) f R)(he:P.cellsOf e=1)(F:l.length<=bO)
  (X:d.op=.move (.tmp t)) (q:d.dst=O d1) (r:d.guard=N) (h2:m.op=.call {callee:=.value (.func g),args:=#[.tmp d1],argTypes:=tys}) (y:m.dst=O d2) (z:m.guard=N)
  (hn:t<n/\d1<n/\d2<n/\t≠d1/\t≠d2/\d1≠d2) (H:(ts=t/\(f l).length=l.length)\/(ts=d2/\∀x k c,R x k c=.slice x k c)):
  dz P GE 0 (.region id #[d,m] Z) (EX .normal (fJ n ts (f l) e)) (fJ n t l e):=by
 intro ro E p a w hE hb hR
 have B:p=[]:=IO hb
 subst B
 refine nc (by simp[eD,X,h2]) (by rintro⟨_,_,_,_,_,h,_⟩;cases h) ?_
 show wpOps P #[d,m] _ [0,1] a w
 refine P2 (ts:=ts) hI he F rfl rfl X q r h2 y z hn H hE hR λa' w' hd A=>?_
 let⟨S,L,A⟩:=A
 exact⟨hd,_,⟨S,[],L,A,λi hi=>absurd hi (w0 _)⟩,rfl,rfl⟩
def dz.inplace3(hI:qhI P g e (λs=>Value.string ⟨s.toArray⟩) f R)(he:P.cellsOf e=1)(a8:l.length<=bO)
  (h1:d.op=.move (.tmp t)) (B:d.dst=O d1) (F:d.guard=N) (h2:m.op=.call {callee:=.value (.func g),args:=#[.tmp d1],argTypes:=tys}) (H:m.dst=O d2) (L:m.guard=N)
  (hn:t<n/\d1<n/\d2<n/\t≠d1/\t≠d2/\d1≠d2) (a1:∀x k c,R x k c=.slice x k c) (S:o.op=.assign (.tmp d2)) (X:o.dst=O b) (a0:o.guard=N) (r:b<n) (a6:b≠d2):
  dz P GE 0 (.region id #[d,m,o] Z) (EX .normal (fJ n b (f l) e)) (fJ n t l e):=by
 intro ro E z a w hE hb hR
 have a4:z=[]:=IO hb
 subst a4
 refine nc (by simp[eD,h1,h2,S]) (by rintro⟨_,_,_,_,_,h,_⟩;cases h) ?_
 show wpOps P #[d,m,o] _ [0,1,2] a w
 refine P2 (ts:=d2) hI he a8 rfl rfl h1 B F h2 H L hn (.inr ⟨rfl,a1⟩) hE hR λa' w' hd hS=>?_
 let⟨ao,ad,hS⟩:=hS
 rw[wpOps_cons]
 unfold wpOp
 rw[show(#[d,m,o]:Array M)[2]? =O o from rfl]
 simp only
 rw[l7 (by simp[Region.wanted,a0])]
 refine .inl ?_
 refine Oper.wp_mono (λa2 w2 hA=>?_) (H4 (id:=0) (bs:=[]) (K:=λst=>yA P 0 st (fJ n b (f l) e)) hS (.inl S) X (by simpa[fJ]using r) ?_ _)
 .let⟨a5,ab,A,a9,an,a3,hW,p⟩:=hA
  have:A=[]:=by
   rcases p with rfl|⟨hm,_⟩;.rfl
   .simp[S,aD]at hm
  subst this
  have y:=hW E [] a2 w2 rfl ⟨ab,[],a9,a3,λi hi=>absurd hi (w0 _)⟩
  exact⟨a5.trans hd,_,y,rfl,rfl⟩
 .have hg:(fJ n d2 (f l) e).tmps.getD d2 .undef=sl cS (f l):=by
   simp[fJ,vav,hn.2.2.1]
  rw[hg]
  refine yA.trans (yA.forget (fJ n b (f l) e).tmps [] [((b,0),e)] ?_) ?_
  .intro x hx
   simp at hx
   subst hx
   simp[fJ,ls,bI,Ne.symm a6]
  .have a7:Vq ((fJ n d2 (f l) e).tmps.set b (sl cS (f l))) (fJ n b (f l) e).tmps=(fJ n b (f l) e).tmps:=by
    refine qip (by simp[fJ]) λi q hq=>?_
    rcases V8 hq with rfl|⟨rfl,rfl⟩
    .exact .inl rfl
    .exact .inr (by simp[fJ,r])
   show yA P 0 ⟨Vq ((fJ n d2 (f l) e).tmps.set b (sl cS (f l))) (fJ n b (f l) e).tmps,qaH [] [],_⟩ _
   rw[a7]
   exact .refl _
end
end
open Go Go.RowKit Go.WideShapes Go.ChangeShapes Go.ChangeAt
def Kx(a:J):aS:=λb=>match a.heap[b]? with|some (.cells c _ _)=>O c.size|_=>N
def XK{a:J}{b:Nat}{c:Array D}{t:G}{fr:Nat×Nat}(h:a.heap[b]? =O (.cells c t fr)):Kx a b=O c.size:=by unfold Kx;rw[h]
def qo9(a:J)(x:Nat×V U):Prop:=ie 0 x.2/\∃c t fr,a.heap[x.1]? =O (.cells c t fr)/\c.size=x.2.length/\∀(i:Nat) p v,x.2[i]? =O p->c[i]? =O v->VR (Kx a) [] a p v
section
variable{P:I}{GE:V (Nat×V U)}
def qcv{k:FuncId}{pargs:V U}{a:Array D}{a2:J}{b:K}(S:C P GE k pargs [] [] (.bool b) [] [])(hl:a.size=pargs.length)
  (hv:∀(i:Nat) p v,pargs[i]? =O p->a[i]? =O v->VR (Kx a2) [] a2 p v) (A:∀x∈GE,qo9 a2 x):Calls P k a a2 λe W'=>e=.returned (.bool b)/\Below a2.heap.size a2 W':=by
 have hS:SR P ⟨GE,Kx a2,a2,aV [] λ_=>N⟩ (Kx a2) [] (λ_=>N) a2 a ⟨pargs,[],[]⟩:={
  wi:=λb n y=>by
   unfold Kx at y;split at y;.rename_i c t fr hh;cases y;exact⟨c,t,fr,hh,l8 _⟩
   .cases y
  sz:=hl
  tm:=hv
  bl:=rfl
  bx:=λi b B h=>by simp at h
  inj:=λi j b h=>by simp at h
  bn:=λi b h=>by simp at h
  on:=λb L X=>by cases X
  ot:=λt k e E=>by simp at E
  ob:=λi j e w own b R=>by simp at R
  gl:=λg w r=>by
   let⟨_,c,t,fr,o,q,H⟩:=A _ r;refine .eptr w g 0 c.size (λk=>c.getD k undef) (XK o) (by simp only at q;omega) (λk p z=>?_) (λk p z=>?_)
   .have s:k<c.size:=by have:=aq z;simp only at q;omega
    rw[s7,cell_of_row a2 g k c t fr o];simp[vaG,s]
   .have s:k<c.size:=by have:=aq z;simp only at q;omega
    exact H k p _ z (by simp[vaG,s])
  gc:=λg w r=>(A _ r).1
  gx:=λg w r=>by
   let⟨_,c,t,fr,o,q,_⟩:=A _ r;refine⟨(vh.1 o).1,λm=>?_,c,t,fr,o,q⟩;rcases m with⟨i,h⟩|m;.simp at h
   .exact m rfl
  step:=.refl _ _ _ _}
 refine(S.2 (Kx a2) [] (λ_=>N) a2 a hS).mono λe W' E=>?_
 obtain⟨v,a1,a0,rfl,d⟩:=E
 have F:=d.tm 0 (.bool b) v rfl rfl
 cases F
 refine⟨rfl,d.step.os,d.step.tape,d.step.output,d.step.size,λk s=>(d.step.keep k s λm=>?_).1⟩
 rcases m with⟨i,h⟩|m
 .simp at h
 .exact m rfl
end
section
variable{H:Type}{enc:G×D->H}{P:I}{w:J}{base:Nat}{c:Nat->K}{m:K}{t:G}{d:Nat}
def Xv{f:Func}{s:ChangeSpec}{a fresh h again:K}{W W':J}{e:Array D}{v:D}{B E:V (DataW H)}{before pa pv:V MemPlace}
    (S:DataW.Whole enc P f.params.toList s.vars a W e.toList B E before)
    (z:∀(b:Nat)(A:Nat->K)(hd:K),DataW.TrodAll enc P W' b A hd f.resultTypes.toList (v.resultList f.resultTypes.size) (s.fn H (B++E)).results [])
    (i:∀A:Nat->K,(∀p∈before,A p.block=T)->DataW.TrodAll enc P W' 0 A T f.params.toList e.toList (s.fn H (B++E)).args pa)
    (q:∀A:Nat->K,(∀p∈before,A p.block=T)->DataW.TrodVars enc P W' A s.vars (s.fn H (B++E)).vars pv)
    (x:before=pa++pv) (hb:Below W.heap.size W W')
    (X:∀(j:Nat)(t:G)(r:D),f.resultTypes[j]? =O t->(v.resultList f.resultTypes.size)[j]? =O r->Value.okWide P W' .any 0 t r):
    s.post enc P f a fresh h again W e v W':=by
  have L:∀p∈before,p.block<W.heap.size:=λp o=>S.lt p o
  have y:∀p∈before,(λb=>Y (b<W.heap.size)) p.block=true:=λp o=>by simpa using L p o
  refine⟨B,E,before,[],pa,pv,S,z _ _ _,i _ y,q _ y,World.keptBut_mono (λp o=>⟨o,?_⟩) (hb.frame (·∈before)),λ_=>?_⟩
  . rw [x,vz] at o
    exact Or.inr o
  . obtain ⟨_,_,_,_,_,hz,hn⟩:=S
    refine⟨X,_,_,([]++pa)++pv,⟨[]++pa,pv,trodAll_append (i _ (λ_ _=>rfl)) (z _ _ _),q _ (λ_ _=>rfl),rfl,?_,?_⟩,?_⟩
    . intro b R o
      have F:MemPlace.cell b R∈before:=by rw[x];simpa using o
      rw[hb.frozen (L _ F)]
      exact hz b R F
    . intro ha
      have:=hn ha
      rw[x]at this
      simpa using this
    . intro p o _
      rw[x]
      simpa using o
def XM(y:laidOutB P=T){B o:J}(s:Below B.heap.size B o){z:Nat->K}:∀{ts:List G}{A:List D}{r:List (DataW H)}{b:List MemPlace},(∀t∈ts,P.readableRec t=T/\t<P.types.size)->
  DataW.TrodAll enc P B 0 (λ_=>T) T ts A r b->(∀p∈b,p.block<B.heap.size)->(∀p∈b,z p.block=T)->DataW.TrodAll enc P o 0 z T ts A r b
 |[],[],[],_,_,h,_,_=>h
 | t :: _,_ :: _,_ :: _,_,ht,⟨p,q,h1,h2,e⟩,hlt,hs =>
  ⟨p,q,WideElems.Trod_stays y (ht t (by simp)).1 (ht t (by simp)).2 h1 (λx a=>s.same (hlt x (by rw[e];exact va7 _ a))) (λx a=>hs x (by rw[e];exact va7 _ a)),
   XM y s (λt i=>ht t (by simp[i])) h2 (λx a=>hlt x (by rw[e];exact vaZ _ a)) (λx a=>hs x (by rw[e];exact vaZ _ a)),e⟩
def qiL{f:Func}{s:ChangeSpec}{W W':J}{e:Array D}{i A:V (DataW H)}{a:V MemPlace}(hl:laidOutB P=T)(X:f.resultTypes=#[t])(y:P.underlying t=O .bool)(z:s.vars=[])
  (h:(s.fn H (i++A)).results=[.lit (.bool T)]/\(s.fn H (i++A)).args=i/\(s.fn H (i++A)).vars=[]) (E:∀t∈f.params.toList,P.readableRec t=T/\t<P.types.size)
  (R:DataW.Whole enc P f.params.toList s.vars Z W e.toList i A a) (S:Below W.heap.size W W'):s.post enc P f Z T Z Z W e (.bool T) W':=by
 have o:=R
 obtain⟨p,q,hA,L,rfl,_,_⟩:=R
 rw[z]at L
 obtain⟨rfl,rfl⟩:=trodVars_none L
 have B:∀x∈p,x.block<W.heap.size:=λx F=>o.lt x (by simpa using F)
 refine Xv (pa:=p) (pv:=[]) o (λb sp hd=>?_) (λsp hs=>?_) (λsp _=>?_) rfl S (λj t' r hj hv=>?_)
 .rw[X,h.1]
  exact trodAll_cons_mk (shut_bool y _) trodAll_mk0
 .rw[h.2.1]
  exact XM hl S E hA B (λx F=>hs x (by simpa using F))
 .rw[z,h.2.2];rfl
 .exact ok_one X rfl (okWide_bool_mk y _) j t' r hj hv
def qaS(a:Addr)(i:Nat)(h:a.spot=N):a.add i=⟨a.block,a.off+i,N⟩:=by
 let⟨b,o,p⟩:=a;simp only at h;subst h;unfold Addr.add;split;.rename_i e;subst e;rfl
 .rfl
end
end Go.Proofs.YtankopenjcbeeaaGreatDoor
