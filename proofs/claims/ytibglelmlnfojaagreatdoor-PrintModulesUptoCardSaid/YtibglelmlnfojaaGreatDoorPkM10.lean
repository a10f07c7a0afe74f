/- PROVED: a part of the proof. Conditions: none. -/
import Derived.Test.YtibglelmlnfojaaGreatDoorPkM9
import Derived.Test.YtibglelmlnfojaaGreatDoorPkM8
import Derived.Test.YtibglelmlnfojaaGreatDoorPkM7
import Derived.Test.YtibglelmlnfojaaGreatDoorPkM3
import Derived.Shelf.SlicesE.Clone
import Derived.RangeFuncRecord
import Derived.RangeFuncSeq
import Derived.Test.YtibglelmlnfojaaGreatDoorProg
import Derived.Shelf.Lays
import Derived.Shelf.LaysM
import Derived.Shelf.Strconv.Itoa3
set_option linter.unusedSimpArgs false set_option linter.defProp false
set_option linter.unusedVariables false
noncomputable section
namespace Go.Proofs.YtibglelmlnfojaaGreatDoor
open Go Go.Proofs.Tryz
open Option renaming some→O,none→N
open Go renaming TypeId→G,Value→D,Program→I,Oper→M,World→J,Code→W
open Bool renaming true→T,false→Z
open Decidable renaming decide→Y
open Go.Proofs.YtibglelmlnfojaaGreatDoor renaming PVal→U
set_option linter.unusedVariables false
set_option linter.defProp false
set_option maxRecDepth 100000
def Bw:∀n,(∀l,Sh Pg n 28 l->∃x,l=ag x):=by intro n;induction n using Nat.strongRecOn with| ind n ih =>cases n with|zero=>exact λl h=>h.elim| succ n =>exact λl h=>by unfold Sh at h;rw[underlying28]at h;obtain⟨r,y,rfl,_,a,s,z,rfl,_,b,t,A,rfl,_,d,w,B,rfl,_,e,rfl⟩:=h;obtain⟨i,rfl⟩:=(ql8 underlying25) n _ a;obtain⟨o,rfl⟩:=(vA underlying9) n _ b;obtain⟨p,rfl⟩:=(ql8 underlying3) n _ d;obtain⟨q,rfl⟩:=qh2 underlying26 (c:=ag) (λm E=>(ih m (by omega))) _ e;exact⟨(⟨i,o,p,q⟩:ah),by rw[bP];rfl⟩
def JT:∀n,(∀l,Sh Pg n 30 l->∃x,l=al x):=by intro n;induction n using Nat.strongRecOn with| ind n ih =>cases n with|zero=>exact λl h=>h.elim| succ n =>exact λl h=>by unfold Sh at h;rw[underlying30]at h;obtain⟨y,H,rfl,_,a,z,L,rfl,_,b,A,P,rfl,_,d,B,R,rfl,_,e,E,b4,rfl,_,i,F,S,rfl,_,o,rfl⟩:=h;obtain⟨p,rfl⟩:=(ql8 underlying22) n _ a;obtain⟨q,rfl⟩:=(vA underlying9) n _ b;obtain⟨r,rfl⟩:=qh2 underlying23 (c:=al) (λm X=>(ih m (by omega))) _ d;obtain⟨s,rfl⟩:=(xm underlying24 (vA underlying9)) n _ e;obtain⟨t,rfl⟩:=Bw n _ i;obtain⟨w,rfl⟩:=(xm underlying26 Bw) n _ o;exact⟨(⟨p,q,r,s,t,w⟩:am),by rw[cY];(try simp only[bP]);rfl⟩
def qmb:∀n,(∀l,Sh Pg n 114 l->∃x,l=bk x):=by intro n;induction n using Nat.strongRecOn with| ind n ih =>cases n with|zero=>exact λl h=>h.elim| succ n =>exact λl h=>by unfold Sh at h;rw[underlying114]at h;obtain⟨e,m,rfl,_,a,i,o,rfl,_,b,rfl⟩:=h;obtain⟨c,rfl⟩:=(vA underlying9) n _ a;obtain⟨d,rfl⟩:=JT n _ b;exact⟨(⟨c,d⟩:bO),by rw[pb];(try simp only[cY]);(try simp only[bP]);rfl⟩
def qge:∀n,(∀l,Sh Pg n 36 l->∃x,l=ak x)/\(∀l,Sh Pg n 116 l->∃x,l=bL x):=by
 intro n;induction n using Nat.strongRecOn with
 | ind n ih =>
  cases n with
  |zero=>exact⟨λl h=>h.elim,λl h=>h.elim⟩
  | succ n =>
   exact⟨(λl h=>by
    unfold Sh at h;rw[underlying36]at h;obtain⟨p,s,rfl,_,a,q,t,rfl,_,b,r,w,rfl,_,d,R,b3,rfl,_,y,S,b4,rfl,_,z,X,b5,rfl,_,A,a6,b6,rfl,_,B,rfl⟩:=h;obtain⟨e,rfl⟩:=(ql8 underlying31) n _ a;obtain⟨i,rfl⟩:=(vA underlying9) n _ b;obtain⟨o,rfl⟩:=(ql8 underlying3) n _ d;obtain⟨F,rfl⟩:=qh2 underlying32 (c:=ak) (λm E=>(ih m (by omega)).1) _ y;obtain⟨H,rfl⟩:=(xm underlying33 qmb) n _ z;obtain⟨L,rfl⟩:=qh2 underlying34 (c:=bL) (λm E=>(ih m (by omega)).2) _ A;obtain⟨P,rfl⟩:=(xm underlying23 JT) n _ B;exact⟨(⟨e,i,o,F,H,L,P⟩:aj),by rw[cO];rfl⟩),(λl h=>by
    unfold Sh at h;rw[underlying116]at h;obtain⟨p,s,rfl,_,a,q,t,rfl,_,b,r,w,rfl,_,d,rfl⟩:=h;obtain⟨e,rfl⟩:=(vA underlying9) n _ a;obtain⟨i,rfl⟩:=(xm underlying24 (vA underlying9)) n _ b;obtain⟨o,rfl⟩:=(ih n (vcI n)).1 _ d;exact⟨(⟨e,i,o⟩:cH),by rw[xk];(try simp only[cO]);rfl⟩)⟩
def qoe:In Pg 36 ak:=λn=>(qge n).1
def qgg:∀n,(∀l,Sh Pg n 143 l->∃x,l=cp x):=by intro n;induction n using Nat.strongRecOn with| ind n ih =>cases n with|zero=>exact λl h=>h.elim| succ n =>exact λl h=>by unfold Sh at h;rw[underlying143]at h;obtain⟨e,m,rfl,_,a,i,o,rfl,_,b,rfl⟩:=h;obtain⟨c,rfl⟩:=(vA underlying9) n _ a;obtain⟨d,rfl⟩:=(vA underlying100) n _ b;exact⟨(⟨c,d⟩:pG),by rw[ZZ];rfl⟩
def qrl:∀n,(∀l,Sh Pg n 127 l->∃x,l=ef x):=by intro n;induction n using Nat.strongRecOn with| ind n ih =>cases n with|zero=>exact λl h=>h.elim| succ n =>exact λl h=>by unfold Sh at h;rw[underlying127]at h;obtain⟨m,q,rfl,_,a,o,r,rfl,_,b,p,s,rfl,_,c,rfl⟩:=h;obtain⟨d,rfl⟩:=(vA underlying9) n _ a;obtain⟨e,rfl⟩:=(xm underlying24 (vA underlying9)) n _ b;obtain⟨i,rfl⟩:=(xm underlying23 JT) n _ c;exact⟨(⟨d,e,i⟩:tH),by rw[U6];rfl⟩
def qod:∀n,(∀l,Sh Pg n 92 l->∃x,l=cq x):=by intro n;induction n using Nat.strongRecOn with| ind n ih =>cases n with|zero=>exact λl h=>h.elim| succ n =>exact λl h=>by unfold Sh at h;rw[underlying92]at h;obtain⟨p,t,rfl,_,a,q,w,rfl,_,b,r,y,rfl,_,c,s,z,rfl,_,d,rfl⟩:=h;obtain⟨e,rfl⟩:=(vA underlying9) n _ a;obtain⟨i,rfl⟩:=(xm underlying24 (vA underlying9)) n _ b;obtain⟨m,rfl⟩:=(xm underlying89 qgg) n _ c;obtain⟨o,rfl⟩:=(xm underlying90 qrl) n _ d;exact⟨(⟨e,i,m,o⟩:jE),by rw[P8];rfl⟩
def qjy:∀n,(∀l,Sh Pg n 134 l->∃x,l=dg x):=by intro n;induction n using Nat.strongRecOn with| ind n ih =>cases n with|zero=>exact λl h=>h.elim| succ n =>exact λl h=>by unfold Sh at h;rw[underlying134]at h;obtain⟨e,m,rfl,_,a,i,o,rfl,_,b,rfl⟩:=h;obtain⟨c,rfl⟩:=(vA underlying9) n _ a;obtain⟨d,rfl⟩:=JT n _ b;exact⟨(⟨c,d⟩:om),by rw[nW];(try simp only[cY]);(try simp only[bP]);rfl⟩
def qma:∀n,(∀l,Sh Pg n 97 l->∃x,l=ce x):=by intro n;induction n using Nat.strongRecOn with| ind n ih =>cases n with|zero=>exact λl h=>h.elim| succ n =>exact λl h=>by unfold Sh at h;rw[underlying97]at h;obtain⟨m,q,rfl,_,a,o,r,rfl,_,b,p,s,rfl,_,c,rfl⟩:=h;obtain⟨d,rfl⟩:=(vA underlying9) n _ a;obtain⟨e,rfl⟩:=(vA underlying9) n _ b;obtain⟨i,rfl⟩:=(xm underlying95 qjy) n _ c;exact⟨(⟨d,e,i⟩:fI),by rw[JQ];rfl⟩
def qh4:∀n,(∀l,Sh Pg n 159 l->∃x,l=cr x):=by intro n;induction n using Nat.strongRecOn with| ind n ih =>cases n with|zero=>exact λl h=>h.elim| succ n =>exact λl h=>by unfold Sh at h;rw[underlying159]at h;obtain⟨e,m,rfl,_,a,i,o,rfl,_,b,rfl⟩:=h;obtain⟨c,rfl⟩:=(vA underlying9) n _ a;obtain⟨d,rfl⟩:=(vA underlying9) n _ b;exact⟨(⟨c,d⟩:iP),by rw[U7];rfl⟩
def qrk:∀n,(∀l,Sh Pg n 166 l->∃x,l=fP x):=by intro n;induction n using Nat.strongRecOn with| ind n ih =>cases n with|zero=>exact λl h=>h.elim| succ n =>exact λl h=>by unfold Sh at h;rw[underlying166]at h;obtain⟨e,m,rfl,_,a,i,o,rfl,_,b,rfl⟩:=h;obtain⟨c,rfl⟩:=(vA underlying9) n _ a;obtain⟨d,rfl⟩:=(vA underlying100) n _ b;exact⟨(⟨c,d⟩:G1),by rw[ZY];rfl⟩
def ql9:∀n,(∀l,Sh Pg n 168 l->∃x,l=bU x):=by intro n;induction n using Nat.strongRecOn with| ind n ih =>cases n with|zero=>exact λl h=>h.elim| succ n =>exact λl h=>by unfold Sh at h;rw[underlying168]at h;obtain⟨p,t,rfl,_,a,q,w,rfl,_,b,r,y,rfl,_,c,s,z,rfl,_,d,rfl⟩:=h;obtain⟨e,rfl⟩:=(vA underlying9) n _ a;obtain⟨i,rfl⟩:=(xm underlying89 qgg) n _ b;obtain⟨m,rfl⟩:=Bw n _ c;obtain⟨o,rfl⟩:=Bw n _ d;exact⟨(⟨e,i,m,o⟩:fi),by rw[iZ];(try simp only[bP]);rfl⟩
def qrm:∀n,(∀l,Sh Pg n 56 l->∃x,l=cu x):=by intro n;induction n using Nat.strongRecOn with| ind n ih =>cases n with|zero=>exact λl h=>h.elim| succ n =>exact λl h=>by unfold Sh at h;rw[underlying56]at h;obtain⟨t,E,rfl,_,a,w,F,rfl,_,b,y,H,rfl,_,c,z,L,rfl,_,d,A,b4,rfl,_,e,B,P,rfl,_,i,rfl⟩:=h;obtain⟨m,rfl⟩:=(xm underlying24 (vA underlying9)) n _ a;obtain⟨o,rfl⟩:=(xm underlying52 qh4) n _ b;obtain⟨p,rfl⟩:=(xm underlying53 qrk) n _ c;obtain⟨q,rfl⟩:=(xm underlying54 ql9) n _ d;obtain⟨r,rfl⟩:=JT n _ e;obtain⟨s,rfl⟩:=(xm underlying26 Bw) n _ i;exact⟨(⟨m,o,p,q,r,s⟩:iQ),by rw[lk];(try simp only[cY]);(try simp only[bP]);rfl⟩
def qgd:∀n,(∀l,Sh Pg n 58 l->∃x,l=aV x):=by intro n;induction n using Nat.strongRecOn with| ind n ih =>cases n with|zero=>exact λl h=>h.elim| succ n =>exact λl h=>by unfold Sh at h;rw[underlying58]at h;obtain⟨t,E,rfl,_,a,w,F,rfl,_,b,y,H,rfl,_,c,z,L,rfl,_,d,A,b4,rfl,_,e,B,P,rfl,_,i,rfl⟩:=h;obtain⟨m,rfl⟩:=(vA underlying9) n _ a;obtain⟨o,rfl⟩:=(xm underlying24 (vA underlying9)) n _ b;obtain⟨p,rfl⟩:=qoe n _ c;obtain⟨q,rfl⟩:=(ql8 underlying51) n _ d;obtain⟨r,rfl⟩:=(qzM underlying4) n _ e;obtain⟨s,rfl⟩:=qrm n _ i;exact⟨(⟨m,o,p,q,r,s⟩:d5),by rw[fl];(try simp only[cO]);(try simp only[lk]);(try simp only[cY]);(try simp only[bP]);rfl⟩
def qgf:∀n,(∀l,Sh Pg n 88 l->∃x,l=aX x):=by intro n;induction n using Nat.strongRecOn with| ind n ih =>cases n with|zero=>exact λl h=>h.elim| succ n =>exact λl h=>by unfold Sh at h;rw[underlying88]at h;obtain⟨p,t,rfl,_,a,q,w,rfl,_,b,r,y,rfl,_,c,s,z,rfl,_,d,rfl⟩:=h;obtain⟨e,rfl⟩:=(vA underlying9) n _ a;obtain⟨i,rfl⟩:=JT n _ b;obtain⟨m,rfl⟩:=(xm underlying52 qh4) n _ c;obtain⟨o,rfl⟩:=(xm underlying48 qgd) n _ d;exact⟨(⟨e,i,m,o⟩:cW),by rw[eT];(try simp only[cY]);(try simp only[bP]);rfl⟩
def qoc:∀n,(∀l,Sh Pg n 138 l->∃x,l=eE x):=by intro n;induction n using Nat.strongRecOn with| ind n ih =>cases n with|zero=>exact λl h=>h.elim| succ n =>exact λl h=>by unfold Sh at h;rw[underlying138]at h;obtain⟨m,q,rfl,_,a,o,r,rfl,_,b,p,s,rfl,_,c,rfl⟩:=h;obtain⟨d,rfl⟩:=(vA underlying9) n _ a;obtain⟨e,rfl⟩:=(xm underlying24 (vA underlying9)) n _ b;obtain⟨i,rfl⟩:=Bw n _ c;exact⟨(⟨d,e,i⟩:BM),by rw[P7];(try simp only[bP]);rfl⟩
def qh3:∀n,(∀l,Sh Pg n 103 l->∃x,l=aZ x):=by intro n;induction n using Nat.strongRecOn with| ind n ih =>cases n with|zero=>exact λl h=>h.elim| succ n =>exact λl h=>by unfold Sh at h;rw[underlying103]at h;obtain⟨r,z,rfl,_,a,s,A,rfl,_,b,t,B,rfl,_,c,w,E,rfl,_,d,y,b4,rfl,_,e,rfl⟩:=h;obtain⟨i,rfl⟩:=(vA underlying9) n _ a;obtain⟨m,rfl⟩:=(vA underlying9) n _ b;obtain⟨o,rfl⟩:=(vA underlying100) n _ c;obtain⟨p,rfl⟩:=(xm underlying101 qoc) n _ d;obtain⟨q,rfl⟩:=Bw n _ e;exact⟨(⟨i,m,o,p,q⟩:dq),by rw[eR];(try simp only[bP]);rfl⟩
def qof:∀n,(∀l,Sh Pg n 106 l->∃x,l=cX x):=by intro n;induction n using Nat.strongRecOn with| ind n ih =>cases n with|zero=>exact λl h=>h.elim| succ n =>exact λl h=>by unfold Sh at h;rw[underlying106]at h;obtain⟨m,q,rfl,_,a,o,r,rfl,_,b,p,s,rfl,_,c,rfl⟩:=h;obtain⟨d,rfl⟩:=(vA underlying9) n _ a;obtain⟨e,rfl⟩:=(xm underlying89 qgg) n _ b;obtain⟨i,rfl⟩:=Bw n _ c;exact⟨(⟨d,e,i⟩:lG),by rw[oE];(try simp only[bP]);rfl⟩
def qjz:∀n,(∀l,Sh Pg n 50 l->∃x,l=bo x):=by intro n;induction n using Nat.strongRecOn with| ind n ih =>cases n with|zero=>exact λl h=>h.elim| succ n =>exact λl h=>by unfold Sh at h;rw[underlying50]at h;obtain⟨t,E,rfl,_,a,w,F,rfl,_,b,y,H,rfl,_,c,z,L,rfl,_,d,A,b4,rfl,_,e,B,P,rfl,_,i,rfl⟩:=h;obtain⟨m,rfl⟩:=(xm underlying43 qod) n _ a;obtain⟨o,rfl⟩:=(xm underlying44 qma) n _ b;obtain⟨p,rfl⟩:=(xm underlying45 qgf) n _ c;obtain⟨q,rfl⟩:=(xm underlying46 qh3) n _ d;obtain⟨r,rfl⟩:=(xm underlying47 qof) n _ e;obtain⟨s,rfl⟩:=(xm underlying48 qgd) n _ i;exact⟨(⟨m,o,p,q,r,s⟩:dt),by rw[qbu];rfl⟩
open Go
def dj{n:Int}(a: -9223372036854775808<=n)(b:n<9223372036854775808):cz n=n:=qup a b
def aC{α:Type}(l:V α)(i:Nat)(h:i<l.length):bY l (i:Int)=O l[i]:=by unfold bY;rw[hU (by omega)];simp[h]
def qP(l:ae)(i:Nat)(h:i<l.length):lq l (i:Int)=O (l[i].toNat:Int):=by unfold lq;rw[aC l i h];rfl
def mT(c:UInt8)(l:ae):lq (c::l) 0=O (c.toNat:Int):=by have:=qP (c::l) 0 (by simp);simpa using this
def dI{α:Type}(c:α)(l:V α):bY (c::l) 0=O c:=by have:=aC (c::l) 0 (by simp);simpa using this
def qj6{α:Type}(l:V α)(i:Nat)(h:i<=l.length):XK l N (O (i:Int))=O (l.take i):=by simp[XK,bd,h]
def Kz{α:Type}(l:V α)(i:Nat)(h:i<=l.length):XK l (O (i:Int)) N=O (l.drop i):=by simp[XK,bd,h]
def qE{α:Type}{l r:V α}(h:l.length+r.length<=1073741824):app l r=O (l++r):=hU h
def iH{l r:ae}(h:l.length+r.length<=4611686018427387904):UT l r=O (l++r):=hU h
def mV{σ X:Type}{body:σ->Q (σ⊕X)}{s s':σ}(h:body s=O (.inl s')):loop body s=loop body s':=by rw[ls,h]
def dW{σ X:Type}{body:σ->Q (σ⊕X)}{s:σ}{x:X}(h:body s=O (.inr x)):loop body s=O x:=by rw[ls,h]
def xP{α σ X:Type}(f:Nat->α->σ->σ⊕X)(e:σ->X):List α->Nat->σ->X|[],_,s=>e s|x::r,i,s=>match f i x s with|.inl s'=>xP f e r (i+1) s'|.inr y=>y
def FB{α σ τ X:Type}(l:List α)(w:l.length<9223372036854775808)(mk:Int->σ->τ)(a:τ->Q (τ⊕X))(x:Nat->σ->Prop)(f:Nat->α->σ->σ⊕X)(e:σ->X)
  (m:∀(i:Nat)(h:i<l.length) s,x i s->a (mk i s)=O (match f i l[i] s with|.inl b=>.inl (mk (cz ((i:Int)+1)) b)|.inr y=>.inr y)/\∀b,f i l[i] s=.inl b->x (i+1) b)
  (c:∀s,x l.length s->a (mk l.length s)=O (.inr (e s))):∀(i:Nat)(s:σ),i<=l.length->x i s->loop a (mk i s)=O (xP f e (l.drop i) i s):=by
 intro i s r n
 obtain⟨k,t⟩:∃k,k+i=l.length:=⟨l.length - i,by omega⟩
 induction k generalizing i s with
 |zero=>
  have:i=l.length:=by omega
  subst this
  rw[ls,c s n,vbP]
  rfl
 | succ k ih =>
  have d:i<l.length:=by omega
  let⟨o,p⟩:=m i d s n
  rw[ls,o,vaD d]
  unfold xP
  cases q:f i l[i] s with
  |inl b=>
   simp only
   rw[dj (by omega) (by omega)]
   have:=ih (i+1) b (by omega) (p b q) (by omega)
   rw[show((i:Int)+1)=((i+1:Nat):Int) by omega]
   exact this
  |inr y=>rfl
def qiS{α X:Type}(p:α->K)(y e:X):∀(l:List α)(i:Nat),xP (λ_ x (_:Unit)=>if p x then Sum.inr y else .inl ()) (λ_=>e) l i ()=if l.any p then y else e
 |[],i=>by simp[xP]
 | x :: l,i => by
  have a:=qiS p y e l (i+1);unfold xP;by_cases h:p x=T;.simp[h]
  .simp only[h,if_false,a,List.any_cons,vb6,m5]
def qQ{α X:Type}(l:V α)(m:l.length<9223372036854775808)(a:Int->Q (Int⊕X))(p:α->K)(y e:X)
  (c:∀(i:Nat)(h:i<l.length),a i=O (if p l[i] then .inr y else .inl (cz ((i:Int)+1)))) (b:a l.length=O (.inr e)) (i:Nat) (d:i<=l.length):
  loop a (i:Int)=O (if(l.drop i).any p then y else e):=by
 have:=FB l m (λi (_:Unit)=>i) a (λ_ _=>True) (λ_ x _=>if p x then Sum.inr y else .inl ()) (λ_=>e) (λi h s _=>⟨?_,λ_ _=>trivial⟩) (λs _=>b) i () d md
 .rw[this,qiS]
 .rw[c i h]
  by_cases n:p l[i]=T<;>simp[n]
def qeV{α X:Type}(p:α->K)(y:Nat->X)(e:X):∀(l:List α)(i:Nat),xP (λj x (_:Unit)=>if p x then Sum.inr (y j)else .inl ()) (λ_=>e) l i ()=match l.findIdx? p with|some j=>y (i+j)|none=>e
 |[],i=>by simp[xP]
 | x :: l,i => by
  have a:=qeV p y e l (i+1);unfold xP;rw[vc2];by_cases h:p x=T;.simp[h]
  .simp only[h,if_false,a,m5];cases l.findIdx? p with|none=>rfl|some j=>simp only[oo];congr 1;omega
def qex{α X:Type}(l:V α)(m:l.length<9223372036854775808)(a:Int->Q (Int⊕X))(p:α->K)(y:Nat->X)(e:X)
  (d:∀(i:Nat)(h:i<l.length),a i=O (if p l[i] then .inr (y i)else .inl (cz ((i:Int)+1)))) (c:a l.length=O (.inr e)):
  loop a (0:Int)=O (match l.findIdx? p with|some j=>y j|none=>e):=by
 have:=FB l m (λi (_:Unit)=>i) a (λ_ _=>True) (λj x _=>if p x then Sum.inr (y j)else .inl ()) (λ_=>e) (λi h s _=>⟨?_,λ_ _=>trivial⟩) (λs _=>c) 0 () (w0 _) trivial
 .simp only[Int.ofNat_zero,vbl]at this
  have b:=qeV p y e l 0
  simp only[ve]at b
  rw[<-b]
  exact this
 .rw[d i h]
  by_cases n:p l[i]=T<;>simp[n]
def jV{α:Type}(o:Q α)(b:α->Prop):Prop:=∃a,o=O a/\b a
section
variable{α β σ τ X d:Type}
def av{a:α}{Q:α->Prop}(h:Q a):jV (O a) Q:=⟨a,rfl,h⟩
def qj8{o:Option α}{a:α}{Q:α->Prop}(e:o=O a)(h:Q a):jV o Q:=⟨a,e,h⟩
def qp0{o:Option α}{f:α->Option β}{Q:β->Prop}(h:jV o (λa=>jV (f a) Q)):jV (o.bind f) Q:=by obtain⟨a,rfl,h⟩:=h;exact h
def aG{o:Option α}{f:α->Option β}{R:α->Prop}{Q:β->Prop}(h:jV o R)(b:∀a,R a->jV (f a) Q):jV (o.bind f) Q:=by obtain⟨a,rfl,h⟩:=h;exact b a h
def fj{o:Option α}{a:α}{f:α->Option β}{Q:β->Prop}(e:o=O a)(h:jV (f a) Q):jV (o.bind f) Q:=by rw[e];exact h
def jV.mono{o:Q α}{c R:α->Prop}(h:jV o c)(b:∀a,c a->R a):jV o R:=by let⟨a,e,h⟩:=h;exact⟨a,e,b a h⟩
def aQ{c:Prop}[Decidable c]{a b:Option α}{Q:α->Prop}(e:c->jV a Q)(i:¬c->jV b Q):jV (if c then a else b) Q:=by
 by_cases h:c;.rw[hU h];exact e h
 .rw[hG h];exact i h
def qrZ{o:Q α}{a:α}:jV o (λx=>x=a)↔o=O a:=by
 constructor;.rintro⟨x,e,rfl⟩;exact e
 .intro e;exact⟨a,e,rfl⟩
def Gs{F:(X->Q d)->X->Q d}(μ:X->Nat)(P:X->Prop)(o:X->d->Prop)(h:∀(R:X->Q d) x,P x->(∀y,μ y<μ x->P y->jV (R y) (o y))->jV (F R x) (o x))(x:X)(b:P x)(e:μ x<qjf):jV (rT F x) (o x):=by
 have c:∀n x,μ x<n->P x->jV (qc0 F n x) (o x):=by intro n;induction n with|zero=>intro x b;omega|succ n ih=>intro x b i;exact h _ x i λy m a=>ih y (by omega) a
 exact c _ x e b
def KN(l:List α)(z:l.length<9223372036854775808)(mk:Int->σ->τ){a:τ->Option (τ⊕X)}(A:Nat->σ->Prop){Q:X->Prop}
  (p:∀(i:Nat)(h:i<l.length) s,A i s->jV (a (mk i s)) (λr=>match r with|.inl t=>∃m,t=mk (cz ((i:Int)+1)) m/\A (i+1) m|.inr y=>Q y))
  (b:∀s,A l.length s->jV (a (mk l.length s)) (λr=>match r with|.inl _=>False|.inr y=>Q y)):∀s,A 0 s->jV (loop a (mk 0 s)) Q:=by
 have q:∀k i s,k+i=l.length->A i s->jV (loop a (mk (i:Int) s)) Q:=by
  intro k;induction k with
  |zero=>
   intro i s w n;have:i=l.length:=by omega
   subst this;let⟨r,e,c⟩:=b s n;rw[ls,e];cases r with|inl _=>exact c.elim|inr y=>exact⟨y,rfl,c⟩
  | succ k ih =>
   intro i s w n;let⟨r,e,c⟩:=p i (by omega) s n;rw[ls,e];cases r with
   |inl t=>obtain⟨m,rfl,o⟩:=c;simp only;rw[dj (by omega) (by omega),show((i:Int)+1)=((i+1:Nat):Int) by omega];exact ih (i+1) m (by omega) o
   |inr y=>exact⟨y,rfl,c⟩
 exact λs x=>q l.length 0 s (by omega) x
end
section
variable{α β σ τ X a:Type}
def qjE(l:List α)(r:l.length<9223372036854775808)(mk:Int->σ->τ)(b:τ->Q (τ⊕X))(k:Int->σ->α->Q (τ⊕X))(w:Nat->σ->Prop)(g:α->σ->σ)(e:σ->X)(d:σ)(q:w 0 d)
  (p:∀(i:Int)(s:σ),b (mk i s)=if Y (i<(l.length:Int))then(bY l i).bind (k i s)else O (.inr (e s)))
  (c:∀(i:Nat)(h:i<l.length) s,w i s->k i s l[i]=O (.inl (mk (cz ((i:Int)+1)) (g l[i] s)))/\w (i+1) (g l[i] s)):loop b (mk 0 d)=O (e (l.foldl (λs x=>g x s) d)):=by
 have:=FB l r mk b w (λ_ x s=>.inl (g x s)) e (λi h s m=>⟨?_,λt n=>by cases n;exact(c i h s m).2⟩) (λs m=>by rw[p,hG (by simp)]) 0 d (w0 _) q
 .rw[vbl,show((0:Nat):Int)=0 from rfl]at this
  rw[this]
  have o:∀(l:List α)(i:Nat)(s:σ),xP (λ_ x (s:σ)=>(Sum.inl (g x s):σ⊕X)) e l i s=e (l.foldl (λs x=>g x s) s):=by intro l;induction l with|nil=>intro i s;rfl|cons x l ih=>intro i s;unfold xP;simp only;rw[ih];rfl
  rw[o]
 .rw[p,hU (by simp;omega),aC l i h]
  simp only[hN]
  exact(c i h s m).1
def qe3(l:V α)(p:l.length<9223372036854775808)(mk:Int->σ->τ){b:τ->Option (τ⊕X)}(k:Int->σ->α->Option (τ⊕X))(e:σ->X)(q:Nat->σ->Prop){Q:X->Prop}
  (n:∀(i:Int)(s:σ),b (mk i s)=if Y (i<(l.length:Int))then(bY l i).bind (k i s)else O (.inr (e s)))
  (d:∀(i:Nat)(h:i<l.length) s,q i s->jV (k i s l[i]) (λr=>match r with|.inl t=>∃o,t=mk (cz ((i:Int)+1)) o/\q (i+1) o|.inr y=>Q y))
  (c:∀s,q l.length s->Q (e s)):∀s,q 0 s->jV (loop b (mk 0 s)) Q:=
 KN l p mk q (λi h s m=>by
  rw[n,hU (by simp;omega),aC l i h];exact d i h s m) (λs m=>by
  rw[n,hG (by simp)];exact⟨_,rfl,c s m⟩)
def qm0(l:List α)(p:l.length<9223372036854775808){b:Int->Option (Int⊕X)}(k:Int->α->Option (Int⊕X))(e:X)(w:Nat->Prop){Q:X->Prop}
  (o:∀(i:Int),b i=if Y (i<(l.length:Int))then(bY l i).bind (k i)else O (.inr e))
  (d:∀(i:Nat)(h:i<l.length),w i->jV (k i l[i]) (λr=>match r with|.inl t=>t=cz ((i:Int)+1)/\w (i+1)|.inr y=>Q y))
  (c:w l.length->Q e) (n:w 0):jV (loop b 0) Q:=
 qe3 l p (λi (_:Unit)=>i) (λi _=>k i) (λ_=>e) (λi _=>w i) (λi _=>o i) (λi h s q=>(d i h q).mono λr m=>by
  cases r with
  |inl t=>exact⟨(),m.1,m.2⟩
  |inr y=>exact m) (λ_ h=>c h) () n
end
abbrev qfB(GE:V (Nat×V U))(Γ:ca)(w:J):BP:=⟨GE,Γ,w,λ_=>False⟩
structure qe8(GE:List (Nat×List PVal))(Γ:ca)(w:World):Prop where
 wi:∀b n,Γ b=some n->∃c t fr,w.heap[b]? =some (.cells c t fr)/\n<=c.size
 gl:∀g cs,(g,cs)∈GE->VR Γ [] w (.eptr cs) (.pointer (some ⟨g,0,none⟩))
 gc:∀g cs,(g,cs)∈GE->kT 0 cs
 gx:∀g cs,(g,cs)∈GE->g<w.heap.size/\∃c t fr,w.heap[g]? =some (.cells c t fr)/\c.size=cs.length
def VR.clo{Γ:ca}{c a:cF}{w:J}{p:U}{v:D}(h:VR Γ c w p v)(d:p.cl 0):VR Γ a w p v:=h.restrict (n:=0) d λi b e _=>absurd e (va3 _)
section
variable{P:I}{E:BP}{Γ:ca}{bs:cF}{d:Nat->Q rI}{w:J}{a:Array D}{st:aF}
def SR.base(h:SR P E Γ bs d w a st):qe8 E.GE Γ w where
 wi:=h.wi
 gl:=λg c b=>(h.gl g c b).clo (by simp only[PVal.cl];exact h.gc g c b)
 gc:=h.gc
 gx:=λg c b=>⟨(h.gnow b).1,(h.gnow b).2.2.2⟩
def qe8.good{GE:V (Nat×V U)}(e:qe8 GE Γ w):qag GE 0 (qfB GE Γ w) where
 ge:=rfl
 low:=λb n h=>by let⟨c,t,fr,i,_⟩:=e.wi b n h;exact(vao.1 i).1
 nt:=λ_ _ m=>m
 gl:=e.gl
def qe8.fresh{GE:V (Nat×V U)}(o:qe8 GE Γ w)(k:Nat){tmps:V U}(z:a.size=tmps.length)(A:∀(t:Nat) p v,tmps[t]? =O p->a[t]? =O v->VR Γ [] w p v):SR P (qfB GE Γ w) Γ (List.replicate k N) (λ_=>N) w a ⟨tmps,List.replicate k .dead,[]⟩:=by
 have c:∀(i b:Nat),(List.replicate k (N:Q Nat))[i]? =O (O b)->False:=λi b h=>by rw[va7]at h;split at h<;>simp at h
 exact{
  wi:=o.wi
  sz:=z
  tm:=λt p v y r=>(A t p v y r).mono (.refl _ _) (λi b h=>by simp at h)
  bl:=by simp
  bx:=λi b B m=>(c i b m).elim
  inj:=λi j b m=>(c i b m).elim
  bn:=λi b m=>(c i b m).elim
  on:=λb L s=>by cases s
  ot:=λt k e x=>by simp at x
  ob:=λi j e n own b _ _ m=>(c i b m).elim
  gl:=λg n q=>(o.gl g n q).mono (.refl _ _) (λi b h=>by simp at h)
  gc:=o.gc
  gx:=λg n q=>⟨(o.gx g n q).1,λh=>h,(o.gx g n q).2⟩
  step:=.refl _ _ _ _}
def SR.again(h:SR P E Γ bs d w a st)(m:kT 0 st.tmps){GE:V (Nat×V U)}{b:ca}{w':J}(i:qe8 GE b w')(c:Γ.Le w b w')(k:Nat):SR P (qfB GE b w') b (List.replicate k N) (λ_=>N) w' a ⟨st.tmps,List.replicate k .dead,[]⟩:=i.fresh k h.sz λt p v e n=>((h.tm t p v e n).clo (xg m e)).mono c (.refl _)
def SR.aside(h:SR P E Γ bs d w a st){GE:V (Nat×V U)}{i:ca}{m:cF}{ow':Nat->Q rI}{w':J}{n:Array D}{st':aF}(c:SR P (qfB GE Γ w) i m ow' w' n st'):SR P E i bs d w' a st:=h.world (λ_=>False) c.step.le c.wi c.step.os c.step.tape c.step.output c.step.size (λb o _=>c.step.keep b o id) (λ_ e=>e.elim) (λ_ _ _ e=>e) (λ_ _ _ e=>e) c.step.drawn
def SR.putOther(h:SR P E Γ bs d w a st){l:Nat}{o:Obj}(r:¬cG bs d l)(y:E.T l\/E.w.heap.size<=l)(A:∀c t fr,w.heap[l]? ≠O (.cells c t fr)):SR P E Γ bs d (w.putObj l o) a st/\Γ.Le w Γ (w.putObj l o):=by
 have s:∀b n,Γ b=O n->b≠l:=λb n m e=>by let⟨c,t,fr,q,_⟩:=h.wi b n m;exact A c t fr (e▸q)
 have p:Γ.Le w Γ (w.putObj l o):=λb n m _=>⟨n,m,m7 _,λk _=>dQ (World.putObj_heap_other (s b n m)) k⟩
 refine⟨h.world (λb=>b=l) p (λb n m=>?_) rfl rfl rfl (by simp) (λb _ m=>⟨World.putObj_heap_other m,rfl⟩) (λb m=>m▸y) (λi b m e=>r (.inl ⟨i,e▸m⟩)) (λb L z e=>r (.inr (by rw[<-e,z];simp))),p⟩;let⟨c,t,fr,q,x⟩:=h.wi b n m;exact⟨c,t,fr,(World.putObj_heap_other (s b n m)).trans q,x⟩
def SR.rebase(h:SR P E Γ bs d w a st):SR P ⟨E.GE,Γ,w,cG bs d⟩ Γ bs d w a st:=
 { h with
  bn:=λi b m=>.inl (.inl ⟨i,m⟩)
  on:=λb L e=>⟨(h.on b L e).1,.inl (.inr (by rw[e];simp))⟩
  gx:=λg t n=>by
   let⟨p,q,r,s⟩:=h.gnow n;refine⟨p,λc=>?_,s⟩;rcases c with⟨i,o⟩|c;.exact q i g o rfl
   .exact c r
  step:=.refl _ _ _ _}
def SR.touchE(h:SR P E Γ bs d w a st){b:Nat}(c:cG bs d b):E.T b\/E.w.heap.size<=b:=by
 rcases c with⟨i,m⟩|c;.exact h.bn i b m
 .cases e:d b with|none=>exact absurd e c|some L=>exact(h.on b L e).2
def SR.unbase(h:SR P E Γ bs d w a st){o:ca}{m:cF}{ow':Nat->Q rI}{w':J}{r:Array D}{st':aF}(c:SR P ⟨E.GE,Γ,w,cG bs d⟩ o m ow' w' r st'):SR P E o m ow' w' r st':=by
 have t:∀b,cG bs d b\/w.heap.size<=b->E.T b\/E.w.heap.size<=b:=λb e=>e.elim h.touchE λe=>.inr (n3 h.step.size e);exact{c with
  bn:=λi b e=>t b (c.bn i b e)
  on:=λb L s=>⟨(c.on b L s).1,t b (c.on b L s).2⟩
  gx:=h.gx
  step:={
   os:=c.step.os.trans h.step.os
   tape:=c.step.tape.trans h.step.tape
   output:=c.step.output.trans h.step.output
   size:=n3 h.step.size c.step.size
   drawn:=n3 h.step.drawn c.step.drawn
   keep:=λb e n=>by have p:b<w.heap.size:=vaT e h.step.size;have x:¬cG bs d b:=λq=>(h.touchE q).elim n λq=>absurd q (vcx.2 e);let⟨y,z⟩:=c.step.keep b p x;let⟨A,B⟩:=h.step.keep b e n;exact⟨y.trans A,z.trans B⟩
   le:=h.step.le.trans c.step.le}}
def fx.on{m:Nat}{c:W}{a0:Exit->aF->Prop}(hS:fx P E.GE m c a0 st)(hm:m≠0)(h:SR P E Γ bs d w a st)(hl:m % 1000<=bs.length)(L:Q Nat)(A:V Deferred):qec L P c (λe z x=>z.defers=A/\∃r o p q,SR P E r o p x z.tmps q/\a0 e q/\(∀i:Nat,i<m % 1000->o[i]? =bs[i]?)/\Γ.Le w r x/\w.heap.size<=x.heap.size/\
   ∀b,b<w.heap.size->¬cG bs d b->x.heap[b]? =w.heap[b]?/\¬cG o p b) ⟨a,A⟩ w:=by
 have S:qag E.GE m ⟨E.GE,Γ,w,cG bs d⟩:={
  ge:=rfl
  low:=λb n y=>h.lt_of_ghost y
  nt:=λR=>absurd R hm
  gl:=h.base.gl}
 have t:(bs.take (m % 1000)).length=m % 1000:=by simp;omega
 refine xh (hS L ⟨E.GE,Γ,w,cG bs d⟩ (bs.take (m % 1000)) ⟨a,A⟩ w S t ⟨Γ,bs,d,h.rebase,λi H=>?_⟩) λe z x hq=>?_
 .rw[vaG (by omega)]
 let⟨hd,q,⟨r,o,p,s,hk⟩,X⟩:=hq
 refine⟨hd,r,o,p,q,h.unbase s,X,λi H=>?_,s.step.le,s.step.size,λb y F=>⟨(s.step.keep b y F).1,λB=>?_⟩⟩
 .rw[hk i (by omega),vaG H]
 .exact(s.touchE B).elim F λB=>absurd B (vcx.2 y)
def fx.wide{GE:V (Nat×V U)}{c:W}{L:Exit->aF->Prop}{q:aF}(A:fx P GE 0 c L q)(y:qe8 GE Γ w){d:Nat->Q rI}{bs:cF}(h:SR P (qfB GE Γ w) Γ bs d w a q)(n:Nat)(s:V Deferred):c.wpIn Fence.wide n P (λe r t=>r.defers=s/\∃p m o b,SR P (qfB GE Γ w) p m o t r.tmps b/\L e b) ⟨a,s⟩ w:=
 wpIn_wide.2 (wp_mono (A N (qfB GE Γ w) [] ⟨a,s⟩ w y.good rfl ⟨Γ,bs,d,h,λi F=>absurd F (va3 _)⟩) λe r t H=>by
  let⟨B,b,⟨p,m,o,x,_⟩,z⟩:=H;exact⟨B,p,m,o,b,x,z⟩)
def fx.wideE{GE:V (Nat×V U)}{c:W}{H:Exit->aF->Prop}(z:fx P GE 0 c H st)(x:qag GE 0 E)(h:SR P E Γ bs d w a st)(n:Nat)(r:V Deferred):c.wpIn Fence.wide n P (λe q s=>q.defers=r/\∃p m o b,SR P E p m o s q.tmps b/\H e b) ⟨a,r⟩ w:=
 wpIn_wide.2 (wp_mono (z N E [] ⟨a,r⟩ w x rfl ⟨Γ,bs,d,h,λi B=>absurd B (va3 _)⟩) λe q s F=>by
  let⟨A,b,⟨p,m,o,t,_⟩,y⟩:=F;exact⟨A,p,m,o,b,t,y⟩)
def SR.allocO(h:SR P E Γ bs d w a st)(o:Obj):SR P E Γ bs d (w.alloc o) a st/\Γ.Le w Γ (w.alloc o):=by
 have m:∀b n,Γ b=O n->b<w.heap.size:=λb n e=>h.lt_of_ghost e;have i:Γ.Le w Γ (w.alloc o):=λb n e _=>⟨n,e,m7 _,λk _=>dQ (alloc_old w o (m b n e)) k⟩
 refine⟨h.world (λ_=>False) i (λb n e=>?_) rfl rfl rfl (by simp[World.size_alloc]) (λb e _=>⟨alloc_old w o e,rfl⟩) (λ_ p=>p.elim) (λ_ _ _ p=>p) (λ_ _ _ p=>p),i⟩;let⟨c,t,fr,q,r⟩:=h.wi b n e;exact⟨c,t,fr,(alloc_old w o (m b n e)).trans q,r⟩
def SR.forgetT(h:SR P E Γ bs d w a st){tm:V U}(b:qeg st.tmps tm=tm):SR P E Γ bs d w a {st with tmps:=tm}:=
 { h with
  sz:=by rw[h.sz,<-qf6 (l:=st.tmps) (bs:=tm),b]
  tm:=λt p v c e=>by
   rw[<-b]at c;rcases qf5 c with rfl|hp';.exact .undef v
   .exact h.tm t p v hp' e}
def SR.back(h:SR P E Γ bs d w a st)(R:st.own=[]){m:ca}{bs':cF}{ow':Nat->Q rI}{w':J}{H:Array D}{st':aF}{H':V aJ}(z:SR P E m bs' ow' w' H st')(s:Γ.Le w m w')
  (o:∀i:Nat,i<bs.length->bs'[i]? =bs[i]?) (A:eO H'.length st'.boxes H') (hl:H'.length=bs.length):
  ∃c,SR P E m bs c w' a {st with boxes:=H'}/\∀b,cG bs c b->cG bs' ow' b:=by
 have F:=z.finish (H':=H') (v:=undef) (r:=.undef) (src:=λk=>(0,k)) (ro:=[]) (.undef _) trivial A (λx y=>by simp at y) (λx y=>by simp at y)
 have n:bs'.take H'.length=bs:=by
  let⟨L,_⟩:=ui A;have h2:H'.length<=bs'.length:=by rw[z.bl];exact L
  refine vbj λi=>?_;by_cases q:i<H'.length;.rw[vaG q];exact o i (by omega)
  .rw[vco (by omega),va0 (by omega)]
 rw[n]at F
 refine⟨_,{F with
  sz:=h.sz
  tm:=λt p v S X=>(h.tm t p v S X).mono s (.refl _)
  ot:=λt k e B=>by simp only[R]at B;simp at B},λb n=>?_⟩
 rcases n with⟨i,q⟩|n
 .exact .inl ⟨i,(o i (ax q)).trans q⟩
 .refine .inr λe=>n ?_
  simp[SJ,e]
end
section
variable{P:I}{n:Nat}{a:Act}{w:J}{next:Act->J->Prop}{Q:Exit->Act->J->Prop}
def qmw{o:M}(d:iv o=T)(h:o.wp P a w next Q):o.wpIn Fence.wide n P a w next Q:=by
 refine⟨λ_ _=>trivial,?_⟩;have p:o.semAt (Fence.wide).round a.eval=execOp a.eval o:=Oper.semAt_eq _ _ _ λc m=>by unfold iv at d;rw[m]at d;cases d
 rw[p];unfold Oper.wp at h;generalize (execOp a.eval o).run P w=r at *;have b:(Fence.wide).depth.isSome=T->1<=n:=λh=>by simp[Fence.wide]at h
 cases r with
 | ok x e =>
  cases x<;>simp only[Oper.upon]at h<;>simp only[Oper.uponIn]<;>first
   |exact h.elim
   |exact h
   |exact⟨b,callsIn_wide.2 h⟩
   | exact ⟨b,fun c i _ => by
     let⟨v,e,r,s⟩:=h c i;exact⟨v,e,r,stepsIn_wide.2 s⟩⟩
 |halt x e=>cases x<;>simp only[Oper.upon]at h<;>simp only[Oper.uponIn]<;>exact h
def qlQ{o:M}{f:Operand}{args:Array Operand}{m:Array G}(p:o.op=.call {callee:=.value f,args:=args,argTypes:=m}){g:FuncId}{fs cs:Array D}(s:a.eval f=.func (.func g) fs cs)
  (d:∀q w,(callFunc g q).run P w=.ok (.enter g q) w) {R:Ending->J->Prop} (h:CallsIn Fence.wide (n - 1) P g (fs++args.map a.eval++cs) w R) (r:∀e i,R e i->∃v,e=.returned v/\next (a.put o.dst v) i):o.wpIn Fence.wide n P a w next Q:=by
 refine⟨λ_ _=>trivial,?_⟩
 have x:o.semAt (Fence.wide).round a.eval=execOp a.eval o:=Oper.semAt_eq _ _ _ λc d=>by rw[p]at d;cases d
 have b:(execOp a.eval o).run P w=.ok (.enter g (fs++args.map a.eval++cs)) w:=by simp[execOp,p,resolve,s,Deferred.ofValue,invoke,d]
 rw[x,b,Oper.uponIn_enter]
 refine⟨λh=>by simp[Fence.wide]at h,h.mono λe i t=>?_⟩
 obtain⟨v,rfl,y⟩:=r e i t
 exact y
def qkd{o:M}{f:Operand}{args:Array Operand}{r:Array G}(t:o.op=.call {callee:=.value f,args:=args,argTypes:=r}){l:Nat}(y:a.eval f=.func (.yield l) #[] #[])
  {R:Ending->J->Prop} (h:YieldAt Fence.wide (n - 1) P l (args.map a.eval) w R) (x:∀e p,R e p->∃v,e=.returned v/\next (a.put o.dst v) p):o.wpIn Fence.wide n P a w next Q:=by
 refine⟨λ_ _=>trivial,?_⟩
 have z:o.semAt (Fence.wide).round a.eval=execOp a.eval o:=Oper.semAt_eq _ _ _ λc s=>by rw[t]at s;cases s
 let⟨fn,m,b,d,B,q⟩:=h
 have i:(execOp a.eval o).run P w=.ok (.round l fn m b d) w:=by simp[execOp,t,resolve,y,Deferred.ofValue,invoke,B]
 rw[z,i,Oper.uponIn_round]
 refine⟨λh=>by simp[Fence.wide]at h,q.mono λe p q=>?_⟩
 obtain⟨v,rfl,A⟩:=x e p q
 exact A
def TD{c:Array M}{i:Nat}{b:V Nat}{o:M}(e:c[i]? =O o)(d:o.guard=N)(h:o.wpIn Fence.wide n P a w (wpOpsIn Fence.wide n P c Q b) Q):wpOpsIn Fence.wide n P c Q (i::b) a w:=by unfold wpOpsIn;simp only[e,Region.wanted,d,if_true];exact h
def Rb{E:BP}{A:List Nat}{b:Array M}{K:aF->Prop}{c:List Nat}{q:List Deferred}
  (F:∀Γ e m a w d,SR P E Γ e m w a d->K d->wpOpsIn Fence.wide n P b Q c ⟨a,q⟩ w):
  ∀(L:List M)(is:List Nat)(Γ:ca)(e:cF)(m:Nat->Option rI)(a:Array D)(w:J)(d:aF),is.map (λi=>b[i]?)=L.map O->
   (∀o∈L,o.guard=N/\iv o=T/\aR o.op=Z)->SR P E Γ e m w a d->dJ P E.GE A b K L 0 d->wpOpsIn Fence.wide n P b Q (is++c) ⟨a,q⟩ w
 |[],[],Γ,e,m,a,w,d,_,_,h,hp=>F Γ e m a w d h hp
 |o::L,i::is,Γ,e,m,a,w,d,hi,hg,h,hp=>by let⟨x,g2,y⟩:=hg o (by simp);unfold dJ at hp;simp only[x]at hp;simp only[ox,vbI]at hi;refine TD hi.1 x (qmw g2 (Oper.wp_mono (λS w' hA=>?_) (VP (a:=⟨a,q⟩) h (λR=>by rw[y]at R;cases R) hp Q)));let⟨H,t,p,r,s,z,B,_⟩:=hA;let⟨X,a0⟩:=S;simp only at H z;subst H;refine Rb (A:=A) F L is t p r X w' s hi.2 (λo ho=>hg o (vaP _ ho)) z ?_;rw[y]at B;exact B
end
def uo:W->Array M|.region _ ops _=>ops|_=>#[]
def qxb:W->Nat|.region id _ _=>id|_=>0
def qk2(c:W)(i:Nat):M:=(uo c)[i]?.getD default
def qul(o:M):Array G:=match o.op with|.call c=>c.argTypes|_=>#[]
def qcj(o:M):K:=o.guard.isNone&&iv o&&!aR o.op
def Xs{L:V M}(h:L.all qcj=T):∀o∈L,o.guard=N/\iv o=T/\aR o.op=false:=λo a=>by have:=oR.1 h o a;simpa[qcj,and_assoc]using this
def Az{P:I}{GE:List (Nat×List U)}{A:List Nat}{c:Array M}{i e:aF->Prop}(d:∀a,i a->e a):∀(L:List M)(id:Nat)(a:aF),dJ P GE A c i L id a->dJ P GE A c e L id a
 |[],_,a,h=>d a h
 | o :: L,id,a,h => by
  unfold dJ at h ⊢;split at h;.exact BJ (λa b=>Az d L _ a b) h
  .split at h;.exact⟨λb=>BJ (λa b=>Az d L _ a b) (h.1 b),λb=>Az d L _ _ (h.2 b)⟩
   .exact h
def qA2{P:I}{m:Nat}{sc:V It}{F:Prop}{b st0:aF}(h:PS sc F)(c:F=ql6 m sc b (λ_ a=>FG a st0)):IP P m b st0:=by let⟨_,a,e,d⟩:=qbx (P:=P) (Eq.mp c h);exact e.trans d.weak
def fx.thenW{P:I}{GE:V (Nat×V U)}{m:Nat}{c:W}{e:Exit}{st0 a st2:aF}(h:fx P GE m c (EX e a) st0)(d:IP P m a st2):fx P GE m c (EX e st2) st0:=h.mono λn i b=>⟨st2,b.2▸d,b.1,rfl⟩
def VB{P:I}{GE:V (Nat×V U)}{A:V Nat}{a:Array M}{L:V M}{st b:aF}{sc:V It}{F:Prop}(h:PS sc F)(c:F=X9 P GE A a (λ_ st=>FG st b) L 0 0 sc st):dJ P GE A a (λst=>FG st b) L 0 st:=Az (λst ⟨_,d⟩=>d) L 0 st (Fp L 0 0 sc st (Eq.mp c h))
def FG.sr{P:I}{E:BP}{Γ:ca}{e:cF}{n:Nat->Q rI}{w:J}{a:Array D}{o st0:aF}(h:SR P E Γ e n w a o)(q:FG o st0):∃d b c,SR P E d b c w a st0:=by let⟨d,b,c,p,_⟩:=(q.weak (P:=P) (m:=0)) E [] ⟨a,[]⟩ w rfl ⟨Γ,e,n,h,λi r=>absurd r (va3 _)⟩;exact⟨d,b,c,p⟩
def qwL:W->W|.rangeFunc _ _ a _=>a|_=>.skip
def qwM:W->W|.rangeFunc _ _ _ b=>b|_=>.skip
def lQ{w:J}{b:Nat}{o:Obj}(h:w.heap[b]? =O o):b<w.heap.size:=(vao.1 h).1
structure Yd(P:Program)(GE:List (Nat×List PVal))(l:Nat){S α:Type}(c:α->List PVal)(step:S->α->Option (Bool×S))(J:Bool->S->ca->World->Prop):Prop where
 base:∀b s Γ w,J b s Γ w->qe8 GE Γ w
 side:∀b s Γ w,J b s Γ w->∀Γ' bs' ow' w' a' st',SR P (qfB GE Γ w) Γ' bs' ow' w' a' st'->J b s Γ' w'
 yield:∀s Γ w x v n r,J true s Γ w->VR Γ [] w (.agg (c x)) v->step s x=some r->YieldAt Fence.wide n P l #[v] w λe w'=>∃Γ',e=.returned (.bool r.1)/\Γ.Le w Γ' w'/\J r.1 r.2 Γ' w'
section
variable{S:Type}(a:S->ah->Q (K×S))
mutual
def qcW:ah->S->Q (K×S)|⟨o,n,k,ks⟩,s=>(a s ⟨o,n,k,ks⟩).bind λr=>match r.1 with|false=>O (Z,r.2)|true=>if ks.length<4611686018427387904 then KU ks r.2 else N
def KU:List ah->S->Q (K×S)|[],s=>O (T,s)|p::ps,s=>(qcW p s).bind λr=>match r.1 with|false=>O (Z,r.2)|true=>KU ps r.2
end
def qg6(p:ah)(s:S):qcW a p s=(a s p).bind λr=>match r.1 with
  |false=>O (Z,r.2)
  |true=>if p.Kids.length<4611686018427387904 then KU a p.Kids r.2 else N:=by
 let⟨o,n,k,ks⟩:=p
 rw[qcW];rfl
end
abbrev fV:Nat:=245
noncomputable def bV:W:=f245.body.getD .skip
abbrev qz8:W:=jG bV [Z]
abbrev qr2:W:=jG bV [T,Z,Z]
abbrev qBc:W:=jG bV [T,Z,T,Z,Z]
abbrev qBd:W:=jG bV [T,T,Z,Z]
abbrev vL:W:=jG bV [T,T,Z,T,Z,Z]
abbrev qBe:W:=jG bV [T,T,Z,T,Z,Z,Z]
abbrev qz9:W:=jG bV [T,T,Z,T,Z,Z,T,T,Z,Z,Z]
abbrev qr3:W:=jG bV [T,T,Z,T,Z,Z,T,T,Z,Z,T,Z]
abbrev qBf:W:=jG bV [T,T,Z,T,Z,Z,T,T,Z,Z,T,T,Z,Z]
abbrev qBg:W:=jG bV [T,T,Z,T,Z,Z,T,T,T]
abbrev qBh:W:=jG bV [T,T,T,Z]
def qvO:bV=.seq qz8 (.seq (.seq qr2 (.cond (.tmp 10) (.seq qBc .ret) .skip)) (.seq (.seq qBd (.block 0 (.loop vL))) (.seq qBh .ret))):=by kernel_rfl
def qwT:vL=.seq qBe (.seq (.cond (.tmp 15) .skip (.exit 0)) (.seq (.block 1 (.seq qz9 (.seq qr3 (.cond (.tmp 21) (.seq qBf .ret) .skip)))) qBg)):=by kernel_rfl
abbrev yv(l:Nat):U:=.val (.func (.yield l) #[] #[])
abbrev qhb(p:ah):V U:=[.int .i64 p.Op,.str p.Name,.int .i64 p.N,sl ag p.Kids]
def qAX(p:ah):kT 0 (qhb p):=by have:=cN p;rwa[bP]at this
abbrev qAa(p:ah)(l:Nat):aF:=aM 23 [(1,yv l),(2,.eptr (ag p))] [.dead] []
abbrev qsD(l:Nat)(ks:V ah)(i:Int):aF:=aM 23 [(1,yv l),(12,sl ag ks),(13,.int .i64 (ks.length:Int)),(14,.int .i64 i)] [.dead] []
abbrev qAb(l:Nat)(ks:V ah)(i:Int)(x:ah):aF:=aM 23 [(1,yv l),(6,.eptr (ag x)),(12,sl ag ks),(13,.int .i64 (ks.length:Int)),(14,.int .i64 i)] [.dead,.dead] []
def qCW(p:ah)(l:Nat):fx Pg GE 0 qz8 (EX .normal (qAa p l)) (aM 23 [(0,.agg (ag p)),(1,yv l)] [] []):=by have z:=qCT (gP p) rfl<|eF .normal (aM 23 [(1,yv l),(2,.bptr 0 0)] [.cells (qhb p) []] []);have c:fx Pg GE 0 qz8 (EX .normal (aM 23 [(1,yv l),(2,.bptr 0 0)] [.cells (qhb p) []] [])) (aM 23 [(0,.agg (ag p)),(1,yv l)] [] []):=n8 (A:=[]) mixed z (by kernel_rfl);have d:=qBa 0 [qhb p] [1,2] [] (qAZ (m:=0) (b:=0) rfl (qhb p) rfl) (qA0 0 (qAX p)) (qA1 (l:=qhb p) (r:=qhb p) rfl)<|en (fr (aM 23 [(1,yv l),(2,.eptr (qhb p))] [.dead] []));have a:=c.thenW (st2:=aM 23 [(1,yv l),(2,.eptr (qhb p))] [.dead] []) (qA2 d (by kernel_rfl));unfold qAa;rw[bP];rw[bP]at a;exact a
def qCX(p:ah)(l:Nat):dJ Pg GE [] (uo qr2) (λa=>FG a (aM 23 [(1,yv l),(2,.eptr (ag p)),(7,yv l),(8,.agg (ag p))] [.dead] [])) ((uo qr2).toList.take 2) 0 (qAa p l):=by have z:=sv (bA p)<|en (fr (aM 23 [(1,yv l),(2,.eptr (ag p)),(7,yv l),(8,.agg (ag p))] [.dead] []));exact VB z (by kernel_rfl)
def qAc(p:ah)(l:Nat)(b:K):dJ Pg GE [] (uo qr2) (λa=>FG a (aM 23 [(1,yv l),(2,.eptr (ag p)),(10,.bool (!b))] [.dead] [])) ((uo qr2).toList.drop 3) 0 (aM 23 [(1,yv l),(2,.eptr (ag p)),(7,yv l),(8,.agg (ag p)),(9,.bool b)] [.dead] []):=by have z:=en (fr (aM 23 [(1,yv l),(2,.eptr (ag p)),(10,.bool (!b))] [.dead] []));exact VB z (by kernel_rfl)
abbrev vE(H:V aJ)(b:K):aF:=aM 23 [(4,.bool b)] H []
def qCY(p:ah)(l:Nat):fx Pg GE 0 (.seq qBc .ret) (EX .ret (vE [.dead] Z)) (aM 23 [(1,yv l),(2,.eptr (ag p)),(10,.bool T)] [.dead] []):=by have z:=eF .ret (vE [.dead] Z);exact n8 (A:=[]) mixed z (by kernel_rfl)
def qCZ(p:ah)(l:Nat):fx Pg GE 0 qBd (EX .normal (qsD l p.Kids 0)) (aM 23 [(1,yv l),(2,.eptr (ag p)),(10,.bool Z)] [.dead] []):=by have z:=sv (qdA p)<|sv (qdG p)<|qCS (dN.ln p.Kids)<|eF .normal (qsD l p.Kids 0);exact n8 (A:=[]) mixed z (by kernel_rfl)
abbrev quC(l:Nat)(ks:V ah)(i:Int):aF:=aM 23 [(1,yv l),(12,sl ag ks),(13,.int .i64 (ks.length:Int)),(14,.int .i64 i),(15,.bool (Y (i<(ks.length:Int))))] [.dead] []
def qC0(l:Nat)(ks:V ah)(i:Int):fx Pg GE 0 qBe (EX .normal (quC l ks i)) (qsD l ks i):=by have z:=eF .normal (quC l ks i);exact n8 (A:=[]) mixed z (by kernel_rfl)
def qC1(l:Nat)(ks:V ah)(i:Int)(x:ah)(d:bY ks i=O x):fx Pg GE 0 qz9 (EX .normal (qAb l ks i x)) (quC l ks i):=by have z:=sv (dN.ia d)<|sv (bA x)<|sx TP<|sx (gP x)<|eF .normal (aM 23 [(1,yv l),(6,.bptr 1 0),(12,sl ag ks),(13,.int .i64 (ks.length:Int)),(14,.int .i64 i)] [.dead,.cells (qhb x) []] []);have a:fx Pg GE 0 qz9 (EX .normal (aM 23 [(1,yv l),(6,.bptr 1 0),(12,sl ag ks),(13,.int .i64 (ks.length:Int)),(14,.int .i64 i)] [.dead,.cells (qhb x) []] [])) (quC l ks i):=n8 (A:=[]) mixed z (by kernel_rfl);have e:=qBa 1 [qhb x] [1,6,12,13,14] [] (qAZ (m:=0) (b:=1) rfl (qhb x) rfl) (qA0 1 (qAX x)) (qA1 (l:=qhb x) (r:=qhb x) rfl)<|sf (qCH 1 (p:=sl ag ks) (dn cN ks))<|en (fr (aM 23 [(1,yv l),(6,.eptr (qhb x)),(12,sl ag ks),(13,.int .i64 (ks.length:Int)),(14,.int .i64 i)] [.dead,.dead] []));have c:=a.thenW (st2:=aM 23 [(1,yv l),(6,.eptr (qhb x)),(12,sl ag ks),(13,.int .i64 (ks.length:Int)),(14,.int .i64 i)] [.dead,.dead] []) (qA2 e (by kernel_rfl));unfold qAb;rw[bP];exact c
def qC2(l:Nat)(ks:V ah)(i:Int)(x:ah):dJ Pg GE [] (uo qr3) (λa=>FG a (aM 23 [(1,yv l),(12,sl ag ks),(13,.int .i64 (ks.length:Int)),(14,.int .i64 i),(18,.agg (ag x)),(19,yv l)] [.dead,.dead] [])) ((uo qr3).toList.take 2) 0 (qAb l ks i x):=by have z:=sv (bA x)<|en (fr (aM 23 [(1,yv l),(12,sl ag ks),(13,.int .i64 (ks.length:Int)),(14,.int .i64 i),(18,.agg (ag x)),(19,yv l)] [.dead,.dead] []));exact VB z (by kernel_rfl)
abbrev qBi(l:Nat)(ks:V ah)(i:Int)(x:ah)(b:K):aF:=aM 23 [(1,yv l),(12,sl ag ks),(13,.int .i64 (ks.length:Int)),(14,.int .i64 i),(18,.agg (ag x)),(19,yv l),(20,.bool b)] [.dead,.dead] []
abbrev qwW(l:Nat)(ks:V ah)(i:Int)(b:K):aF:=aM 23 [(1,yv l),(12,sl ag ks),(13,.int .i64 (ks.length:Int)),(14,.int .i64 i),(21,.bool (!b))] [.dead,.dead] []
def qAd(l:Nat)(ks:V ah)(i:Int)(x:ah)(b:K):dJ Pg GE [] (uo qr3) (λa=>FG a (qwW l ks i b)) ((uo qr3).toList.drop 3) 0 (qBi l ks i x b):=by have z:=en (fr (qwW l ks i b));exact VB z (by kernel_rfl)
def qC3(l:Nat)(ks:V ah)(i:Int):fx Pg GE 0 (.seq qBf .ret) (EX .ret (vE [.dead,.dead] Z)) (qwW l ks i Z):=by have z:=eF .ret (vE [.dead,.dead] Z);exact n8 (A:=[]) mixed z (by kernel_rfl)
def qC4(l:Nat)(ks:V ah)(i:Int):fx Pg GE 0 qBg (EX .normal (⟨(qsD l ks (cz (i+1))).tmps,[.dead,.dead],[]⟩)) (qwW l ks i T):=by have z:=eF .normal (⟨(qsD l ks (cz (i+1))).tmps,[.dead,.dead],[]⟩);exact n8 (A:=[]) mixed z (by kernel_rfl)
def qC5(l:Nat)(ks:V ah)(i:Int):fx Pg GE 0 (.seq qBh .ret) (EX .ret (vE [.dead] T)) (quC l ks i):=by have z:=eF .ret (vE [.dead] T);exact n8 (A:=[]) mixed z (by kernel_rfl)
def VF{S:Type}(m:K->S->ca->J->Prop)(c:ca)(i:J)(b:K)(s:S)(h:aF)(a:Array D)(w:J):Prop:=∃Γ,m b s Γ w/\c.Le i Γ w/\∃E d e,SR Pg E Γ d e w a h
structure Dd(st:aF)(k:Nat):Prop where
 c:kT 0 st.tmps
 b:st.boxes=List.replicate k .dead
 o:st.own=[]
structure R4(c:Code):Prop where
 eq:c=.region (qxb c) (uo c) false
 rg:List.range (uo c).size=[0,1]++2::([3]++[])
 p1:[0,1].map (λi=>(uo c)[i]?)=((uo c).toList.take 2).map some
 p2:((uo c).toList.take 2).all qcj=true
 o:(uo c)[2]? =some (qk2 c 2)
 g:(qk2 c 2).guard=none
 q1:[3].map (λi=>(uo c)[i]?)=((uo c).toList.drop 3).map some
 q2:((uo c).toList.drop 3).all qcj=true
def qz4:R4 qr2:=⟨by kernel_rfl,by kernel_rfl,by kernel_rfl,by kernel_rfl,by kernel_rfl,by kernel_rfl,by kernel_rfl,by kernel_rfl⟩
def qz5:R4 qr3:=⟨by kernel_rfl,by kernel_rfl,by kernel_rfl,by kernel_rfl,by kernel_rfl,by kernel_rfl,by kernel_rfl,by kernel_rfl⟩
def qum:(qk2 qr2 2).op=.call {callee:=.value (.tmp 7),args:=#[.tmp 8],argTypes:=qul (qk2 qr2 2)}:=by kernel_rfl
def qwU:(qk2 qr2 2).dst=O 9:=by kernel_rfl
def qun:(qk2 qr3 2).op=.call {callee:=.value (.func fV),args:=#[.tmp 18,.tmp 19],argTypes:=qul (qk2 qr3 2)}:=by kernel_rfl
def qwV:(qk2 qr3 2).dst=O 20:=by kernel_rfl
section
variable{S:Type}{m:S->ah->Q (K×S)}{X:K->S->ca->J->Prop}{l:Nat}{B:ca}{F:J}{b:K}{s:S}{st0 P z stB:aF}{k kA kB:Nat}{a:Array D}{w:J}{n:Nat}{ds:V Deferred}
def VF.again(o:Yd Pg GE l ag m X)(c:Dd st0 k)(h:VF X B F b s st0 a w):∃Γ,X b s Γ w/\B.Le F Γ w/\SR Pg (qfB GE Γ w) Γ (List.replicate k N) (λ_=>N) w a st0:=by let⟨Γ,e,d,E,r,t,i⟩:=h;let⟨tm,H,own⟩:=st0;have p:H=_:=c.b;have q:own=[]:=c.o;subst p;subst q;exact⟨Γ,e,d,i.again c.c (o.base _ _ _ _ e) (.refl _ _) k⟩
def VF.redo(i:Yd Pg GE l ag m X)(d:Dd st0 k)(h:VF X B F b s st0 a w)(o:Nat):VF X B F b s ⟨st0.tmps,List.replicate o .dead,[]⟩ a w:=by let⟨Γ,e,c,p⟩:=h.again i d;exact⟨Γ,e,c,_,_,_,p.again d.c (i.base _ _ _ _ e) (.refl _ _) o⟩
def VF.piece(o:Yd Pg GE l ag m X){c:W}{e:Exit}(H:fx Pg GE 0 c (EX e P) st0)(A:Dd st0 k)(h:VF X B F b s st0 a w):c.wpIn Fence.wide n Pg (λr d x=>r=e/\d.defers=ds/\VF X B F b s P d.tmps x) ⟨a,ds⟩ w:=by let⟨Γ,t,p,E⟩:=h.again o A;refine wpIn_mono (H.wide (o.base _ _ _ _ t) E n ds) ?_;rintro r d x ⟨L,q,y,R,a0,i,rfl,rfl⟩;exact⟨rfl,L,q,o.side _ _ _ _ t _ _ _ _ _ _ i,p.trans i.step.le,_,_,_,i⟩
def VF.reg(R:Yd Pg GE l ag m X){c:W}(o:R4 c)(hD:Dd st0 k)(a1:Dd stB kB)(E:dJ Pg GE [] (uo c) (λe=>FG e z) ((uo c).toList.take 2) 0 st0)(H:dJ Pg GE [] (uo c) (λe=>FG e P) ((uo c).toList.drop 3) 0 stB){r:Bool×S}
  (x:∀a w (next:Act->J->Prop) (b0:Exit->Act->J->Prop),VF X B F b s z a w->(∀d i,VF X B F r.1 r.2 stB d i->next ⟨d,ds⟩ i)->(qk2 c 2).wpIn Fence.wide n Pg ⟨a,ds⟩ w next b0)
  (h:VF X B F b s st0 a w):c.wpIn Fence.wide n Pg (λe' d i=>e'=.normal/\d.defers=ds/\VF X B F r.1 r.2 P d.tmps i) ⟨a,ds⟩ w:=by
 have L:(Code.region (qxb c) (uo c) Z).wpIn Fence.wide n Pg (λe' d i=>e'=.normal/\d.defers=ds/\VF X B F r.1 r.2 P d.tmps i) ⟨a,ds⟩ w:=by refine wpIn_region ?_;rw[o.rg];let⟨Γ,hJ,a5,hS⟩:=h.again R hD;refine Rb (A:=[]) (K:=λe=>FG e z) (λa7 a0 a6 d i e p hK=>?_) _ _ Γ _ _ a w st0 o.p1 (Xs o.p2) hS E;let⟨a8,ad,ao,q⟩:=FG.sr p hK;refine TD o.o o.g (x d i _ _ ⟨a8,R.side _ _ _ _ hJ _ _ _ _ _ _ q,a5.trans q.step.le,_,_,_,q⟩ λa3 w3 h3=>?_);let⟨a9,a2,y,a4⟩:=h3.again R a1;refine Rb (A:=[]) (K:=λe=>FG e P) (λa7 a0 a6 d i e p hK=>?_) _ _ a9 _ _ a3 w3 stB o.q1 (Xs o.q2) a4 H;let⟨ab,an,ar,t⟩:=FG.sr p hK;exact⟨rfl,rfl,ab,R.side _ _ _ _ a2 _ _ _ _ _ _ t,y.trans t.step.le,_,_,_,t⟩
 rw[<-o.eq]at L
 exact L
def VF.ev(h:VF X B F b s st0 a w){t:Nat}{x:K}(o:st0.tmps.getD t .undef=.bool x):(Act.mk a ds).eval (.tmp t)=.bool x:=by let⟨Γ,q,i,E,p,r,e⟩:=h;have c:=e.opv ds (.tmp t);have d:opv E.GE st0.tmps (.tmp t)=.bool x:=o;rw[d]at c;generalize (Act.mk a ds).eval (.tmp t)=v at c;cases c;rfl
def VF.put(A:Yd Pg GE l ag m X)(x:Dd z kA){Γ e:ca}{w':J}{E:BP}{q:cF}{H:Nat->Q rI}(y:SR Pg E Γ q H w a z)(o:B.Le F Γ w)(c:Γ.Le w e w'){r:K×S}(h:X r.1 r.2 e w'){d:Nat}(t:stB=⟨z.tmps.set d (.bool r.1),List.replicate kA .dead,[]⟩):VF X B F r.1 r.2 stB (a.setIfInBounds d (.bool r.1)) w':=by have i:=(y.again x.c (A.base _ _ _ _ h) c kA).set (d:=d) (p:=.bool r.1) (v:=.bool r.1) (.bool _);exact⟨e,h,o.trans c,_,_,_,t▸i⟩
def VF.yieldc(E:Yd Pg GE l ag m X)(hD:Dd z kA){p:ah}{r:K×S}(hr:m s p=O r){o:M}{f x d:Nat}{a0:Array G}(h7:z.tmps.getD f .undef=yv l)(h8:z.tmps.getD x .undef=.agg (ag p))
  (ho:o.op=.call {callee:=.value (.tmp f),args:=#[.tmp x],argTypes:=a0}) (hd:o.dst=O d) (hB:stB=⟨z.tmps.set d (.bool r.1),List.replicate kA .dead,[]⟩)
  {next:Act->J->Prop} {Q:Exit->Act->J->Prop} (h:VF X B F T s z a w) (hn:∀a' i,VF X B F r.1 r.2 stB a' i->next ⟨a',ds⟩ i):o.wpIn Fence.wide n Pg ⟨a,ds⟩ w next Q:=by
 let⟨Γ,hJ,L,A⟩:=h.again E hD
 have t:=A.opv ds (.tmp f)
 have h2:=A.opv ds (.tmp x)
 have e1:opv (qfB GE Γ w).GE z.tmps (.tmp f)=yv l:=h7
 have e2:opv (qfB GE Γ w).GE z.tmps (.tmp x)=.agg (ag p):=h8
 rw[e1]at t;rw[e2]at h2
 have H:(Act.mk a ds).eval (.tmp f)=.func (.yield l) #[] #[]:=by generalize (Act.mk a ds).eval (.tmp f)=v at t;cases t;rfl
 refine qkd ho H (R:=λe i=>∃c,e=.returned (.bool r.1)/\Γ.Le w c i/\X r.1 r.2 c i) ?_ ?_
 .have:=E.yield s Γ w p _ (n - 1) r hJ (h2.clo (by simp only[PVal.cl];exact cN p)) hr
  simpa using this
 .rintro e i ⟨c,rfl,q,y⟩
  refine⟨_,rfl,?_⟩
  rw[hd]
  exact hn _ _ (VF.put E hD A L q y hB)
def quL(m:S->ah->Q (K×S))(X:K->S->ca->J->Prop)(l:Nat)(p:ah):Prop:=∀s r Γ w v n,qcW m p s=O r->X T s Γ w->VR Γ [] w (.agg (ag p)) v-> CallsIn Fence.wide n Pg fV #[v,.func (.yield l) #[] #[]] w λe d=>∃c,e=.returned (.bool r.1)/\Γ.Le w c d/\X r.1 r.2 c d
def VF.visitc(hY:Yd Pg GE l ag m X)(hD:Dd z kA){p:ah}(hp:quL m X l p){r:K×S}(hr:qcW m p s=O r){o:M}{x y d:Nat}{a0:Array G}(h7:z.tmps.getD y .undef=yv l)(h8:z.tmps.getD x .undef=.agg (ag p))
  (ho:o.op=.call {callee:=.value (.func fV),args:=#[.tmp x,.tmp y],argTypes:=a0}) (hd:o.dst=O d) (hB:stB=⟨z.tmps.set d (.bool r.1),List.replicate kA .dead,[]⟩)
  {next:Act->J->Prop} {Q:Exit->Act->J->Prop} (h:VF X B F T s z a w) (hn:∀a' i,VF X B F r.1 r.2 stB a' i->next ⟨a',ds⟩ i):o.wpIn Fence.wide n Pg ⟨a,ds⟩ w next Q:=by
 let⟨Γ,hJ,L,E⟩:=h.again hY hD
 have t:=E.opv ds (.tmp y)
 have h2:=E.opv ds (.tmp x)
 have e1:opv (qfB GE Γ w).GE z.tmps (.tmp y)=yv l:=h7
 have e2:opv (qfB GE Γ w).GE z.tmps (.tmp x)=.agg (ag p):=h8
 rw[e1]at t;rw[e2]at h2
 have H:(Act.mk a ds).eval (.tmp y)=.func (.yield l) #[] #[]:=by generalize (Act.mk a ds).eval (.tmp y)=v at t;cases t;rfl
 refine qlQ ho (g:=fV) (fs:=#[]) (cs:=#[]) rfl call245 (R:=λe i=>∃c,e=.returned (.bool r.1)/\Γ.Le w c i/\X r.1 r.2 c i) ?_ ?_
 .have:=hp s r Γ w _ (n - 1) hr hJ (h2.clo (by simp only[PVal.cl];exact cN p))
  simpa[H]using this
 .rintro e i ⟨c,rfl,q,A⟩
  refine⟨_,rfl,?_⟩
  rw[hd]
  exact hn _ _ (VF.put hY hD E L q A hB)
def VF.fin{x:K}{H:V aJ}(h:VF X B F b s (vE H x) a w):(results f245 a).run Pg w=.ok (.bool x) w:=by let⟨Γ,p,i,E,o,q,e⟩:=h;let⟨v,c,d,_⟩:=Gd e (fn:=f245) (r:=.bool x) (by kernel_rfl);cases d;exact c
def qlX{N:Nat}{L:V (Nat×U)}(h:qqW 0 L)(k:Nat){H:V aJ}(c:H=List.replicate k .dead):Dd (aM N L H []) k:=⟨qnI h,c,rfl⟩
def qlR(ks:V ah):(sl ag ks).cl 0:=dn cN ks
def qsf(l:Nat)(ks:V ah)(i:Int):Dd (qsD l ks i) 1:=qlX (by exact aI md<|aI (qlR ks)<|aI md<|aI md md) 1 rfl
def qsg(l:Nat)(ks:V ah)(i:Int):Dd (quC l ks i) 1:=qlX (by exact aI md<|aI (qlR ks)<|aI md<|aI md<|aI md md) 1 rfl
def qsh(l:Nat)(ks:V ah)(i:Int)(b:K):Dd (qwW l ks i b) 2:=qlX (by exact aI md<|aI (qlR ks)<|aI md<|aI md<|aI md md) 2 rfl
def qkb(A:Yd Pg GE l ag m X)(p:ah)(hk:∀x∈p.Kids,quL m X l x):quL m X l p:=by
 intro s r Γ w v n hv hJ b3;refine callsIn_of_wp func245 (c:=bV) rfl md ?_;have h0:VF X Γ w T s (aM 23 [(0,.agg (ag p)),(1,yv l)] [] []) (#[v,.func (.yield l) #[] #[]]++Array.replicate 21 undef) w:=by
  refine⟨Γ,hJ,.refl _ _,_,_,_,(A.base _ _ _ _ hJ).fresh 0 (tmps:=[.agg (ag p),yv l]++List.replicate 21 .undef) (by simp) λt q u L hu=>?_⟩;by_cases ht:t<2;.rw[B2 (by simpa using ht)]at L;rw[va4 (by simpa using ht)]at hu;match t,ht with|0,_=>simp at L hu;subst L;subst hu;exact b3|1,_=>simp at L hu;subst L;subst hu;exact .val _
  .rw[vav (by simpa using ht),va7]at L;split at L<;>cases L;exact .undef u
 show bV.wpIn Fence.wide n Pg _ ⟨_,[]⟩ w;rw[qg6]at hv;let⟨q,L,hv⟩:=qdp hv;have hb:Pg.funcs.size=Pg.funcs.size:=rfl
 have E:∀{b:K}{s:S}{x:K}{H:List aJ}{a':Act}{w':J},a'.defers=[]->VF X Γ w b s (vE H x) a'.tmps w'->b=r.1->s=r.2->x=r.1->
   bodyPost Pg f245 (λe w'=>∃a0,e=.returned (.bool r.1)/\Γ.Le w a0 w'/\X r.1 r.2 a0 w') .ret a' w':=by
  rintro b s x H a' w' hd h rfl rfl rfl
  refine⟨hd,.bool r.1,h.fin,?_⟩
  let⟨a0,b0,b1,_⟩:=h
  exact⟨a0,rfl,b1,b0⟩
 rw[qvO];refine wpIn_seq (wpIn_mono (VF.piece A (qCW p l) (k:=0) (qlX (by exact aI (cN p)<|aI md md) 0 rfl) h0) ?_);rintro e ⟨a1,bc⟩ w1 ⟨rfl,rfl,h1⟩;have d2:(PVal.eptr (ag p)).cl 0:=by simp only[PVal.cl];exact cN p
 have d3:(PVal.agg (ag p)).cl 0:=by simp only[PVal.cl];exact cN p
 refine wpIn_seq (wpIn_seq (wpIn_mono (VF.reg A qz4 (k:=1) (kB:=1) (r:=q) (stB:=aM 23 [(1,yv l),(2,.eptr (ag p)),(7,yv l),(8,.agg (ag p)),(9,.bool q.1)] [.dead] []) (qlX (by exact aI md<|aI d2 md) 1 rfl) (qlX (by exact aI md<|aI d2<|aI md<|aI d3<|aI md md) 1 rfl) (qCX p l) (qAc p l q.1)
  (λa w next bq h hn=>VF.yieldc A (kA:=1) (qlX (by exact aI md<|aI d2<|aI md<|aI d3 md) 1 rfl) L (f:=7) (x:=8) (d:=9) rfl rfl qum qwU rfl h hn) h1) ?_))
 rintro e ⟨a2,be⟩ w2 ⟨rfl,rfl,h2⟩;refine wpIn_cond (h2.ev (t:=10) (x:=!q.1) rfl) ?_;have ab:∀b:K,Dd (aM 23 [(1,yv l),(2,.eptr (ag p)),(10,.bool b)] [.dead] []) 1:=λb=>qlX (by exact aI md<|aI d2<|aI md md) 1 rfl;let⟨q1,q2⟩:=q;cases q1 with
 |false=>cases hv;refine wpIn_mono (VF.piece A (qCY p l) (ab T) h2) ?_;rintro e ⟨a3,an⟩ w3 ⟨rfl,rfl,h3⟩;exact E rfl h3 rfl rfl rfl
 | true =>
  simp only at hv;split at hv;case isFalse=>cases hv
  rename_i bb;refine wpIn_skip ?_;refine wpIn_seq (wpIn_seq (wpIn_mono (VF.piece A (qCZ p l) (ab Z) h2) ?_));rintro e ⟨a3,an⟩ w3 ⟨rfl,rfl,h3⟩
  refine wpIn_block (wpIn_loop_ghost (λk a w'=>a.defers=[]/\∃(i:Nat)(s':S),k=p.Kids.length - i/\i<=p.Kids.length/\KU m (p.Kids.drop i) s'=O r/\VF X Γ w T s' (qsD l p.Kids (i:Int)) a.tmps w') (p.Kids.length)
   ⟨rfl,0,q2,rfl,w0 _,hv,h3⟩ ?_)
  rintro k ⟨a4,bg⟩ w4 ⟨ad,i,s',rfl,hi,o,h4⟩;simp only at ad;subst ad;rw[qwT];refine wpIn_seq (wpIn_mono (VF.piece A (qC0 l p.Kids i) (qsf _ _ _) h4) ?_);rintro e ⟨a5,bi⟩ w5 ⟨rfl,rfl,h5⟩;refine wpIn_seq (wpIn_cond (h5.ev (t:=15) (x:=Y ((i:Int)<(p.Kids.length:Int))) rfl) ?_);by_cases R:i<p.Kids.length
  .rw[tr (by omega)];refine wpIn_skip ?_;have a9:p.Kids.drop i=p.Kids[i]::p.Kids.drop (i+1):=vaD R;rw[a9,KU]at o;let⟨q',b2,o⟩:=qdp o;have hx:bY p.Kids (i:Int)=O p.Kids[i]:=aC _ _ R;generalize b8:p.Kids[i]=x at *;have b5:x∈p.Kids:=b8▸m4 R;have e2:(PVal.eptr (ag x)).cl 0:=by simp only[PVal.cl];exact cN x
   have e3:(PVal.agg (ag x)).cl 0:=by simp only[PVal.cl];exact cN x
   refine wpIn_seq (wpIn_block (wpIn_seq (wpIn_mono (VF.piece A (qC1 l p.Kids i x hx) (qsg _ _ _) h5) ?_)));rintro e ⟨a6,ao⟩ w6 ⟨rfl,rfl,h6⟩
   refine wpIn_seq (wpIn_mono (VF.reg A qz5 (k:=2) (kB:=2) (r:=q') (stB:=qBi l p.Kids i x q'.1) (qlX (by exact aI md<|aI e2<|aI (qlR _)<|aI md<|aI md md) 2 rfl) (qlX (by exact aI md<|aI (qlR _)<|aI md<|aI md<|aI e3<|aI md<|aI md md) 2 rfl) (qC2 l p.Kids i x) (qAd l p.Kids i x q'.1)
    (λa w next bq h hn=>VF.visitc A (kA:=2) (qlX (by exact aI md<|aI (qlR _)<|aI md<|aI md<|aI e3<|aI md md) 2 rfl) (hk x b5) b2 (y:=19) (x:=18) (d:=20) rfl rfl qun qwV rfl h hn) h6) ?_)
   rintro e ⟨a7,bl⟩ w7 ⟨rfl,rfl,h7⟩;refine wpIn_cond (h7.ev (t:=21) (x:=!q'.1) rfl) ?_;let⟨q1,q2⟩:=q';cases q1 with
   |false=>cases o;refine wpIn_mono (VF.piece A (qC3 l p.Kids i) (qsh _ _ _ _) h7) ?_;rintro e ⟨a8,ar⟩ w8 ⟨rfl,rfl,h8⟩;exact E rfl h8 rfl rfl rfl
   |true=>
    refine wpIn_skip ?_;refine wpIn_mono (VF.piece A (qC4 l p.Kids i) (qsh _ _ _ _) h7) ?_;rintro e ⟨a8,ar⟩ w8 ⟨rfl,rfl,h8⟩;refine⟨p.Kids.length - (i+1),by omega,rfl,i+1,q2,rfl,R,o,?_⟩;have e:cz ((i:Int)+1)=((i+1:Nat):Int):=by rw[dj (by omega) (by omega)];omega
    rw[e]at h8;exact VF.redo (st0:=⟨(qsD l p.Kids ((i+1:Nat):Int)).tmps,[.dead,.dead],[]⟩) A (k:=2) ⟨(qsf l p.Kids _).c,rfl,rfl⟩ h8 1
  .rw[decide_eq_false (by omega)];refine wpIn_exit ?_;have bn:i=p.Kids.length:=by omega
   rw[vcJ (by omega),KU]at o;cases o;refine wpIn_mono (VF.piece A (qC5 l p.Kids i) (qsg _ _ _) h5) ?_;rintro e ⟨a6,ao⟩ w6 ⟨rfl,rfl,h6⟩;exact E rfl h6 rfl rfl rfl
mutual
def qi3(c:Yd Pg GE l ag m X):∀p:ah,quL m X l p|⟨o,n,k,ks⟩=>qkb c ⟨o,n,k,ks⟩ (qe4 c ks)
def qe4(c:Yd Pg GE l ag m X):∀ks:List ah,∀x∈ks,quL m X l x
 |[],x,hx=>by simp at hx
 | y :: ks,x,hx => by
  rcases oL.1 hx with h|h;.exact h▸qi3 c y
  .exact qe4 c ks x h
end
end
end Go.Proofs.YtibglelmlnfojaaGreatDoor
namespace Go.Proofs
open Go.Shelf
open Option renaming some→O,none→N
open Go renaming TypeId→G,Value→D,Program→I,Oper→M,World→J,Code→W
open Bool renaming true→T,false→Z
open Decidable renaming decide→Y
open Go.Proofs.YtibglelmlnfojaaGreatDoor renaming PVal→U
noncomputable def Tryz.laysM171_ren : Go.Shelf.Ren := ⟨fun | 171 => 107 | 243 => 161 | 246 => 214 | 283 => 239 | 284 => 240 | 285 => 241 | 286 => 242 | 129 => 256 | 317 => 255 | 318 => 257 | 319 => 258 | 320 => 259 | 337 => 262 | 338 => 263 | n => n, fun | 3 => 3 | 9 => 9 | 2 => 2 | 4 => 4 | 171 => 223 | 0 => 0 | 53 => 224 | 37 => 72 | 5 => 5 | 173 => 227 | 212 => 240 | 51 => 241 | 20 => 20 | 213 => 242 | 46 => 243 | 232 => 247 | 233 => 248 | n => n, fun | 17 => 2 | 18 => 4 | 19 => 5 | n => n⟩
def Tryz.laysM171 : Go.Proofs.LaysM.n171 Tryz.prog Tryz.laysM171_ren := {
 mixed := by kernel_rfl
 f129 := Tryz.func256.trans (congrArg O (by kernel_rfl))
 f171 := Tryz.func107.trans (congrArg O (by kernel_rfl))
 f243 := Tryz.func161.trans (congrArg O (by kernel_rfl))
 f246 := Tryz.func214.trans (congrArg O (by kernel_rfl))
 f283 := Tryz.func239.trans (congrArg O (by kernel_rfl))
 f284 := Tryz.func240.trans (congrArg O (by kernel_rfl))
 f285 := Tryz.func241.trans (congrArg O (by kernel_rfl))
 f286 := Tryz.func242.trans (congrArg O (by kernel_rfl))
 f317 := Tryz.func255.trans (congrArg O (by kernel_rfl))
 f318 := Tryz.func257.trans (congrArg O (by kernel_rfl))
 f319 := Tryz.func258.trans (congrArg O (by kernel_rfl))
 f320 := Tryz.func259.trans (congrArg O (by kernel_rfl))
 f337 := Tryz.func262.trans (congrArg O (by kernel_rfl))
 f338 := Tryz.func263.trans (congrArg O (by kernel_rfl))
 t0 := Tryz.underlying0
 a0 := Tryz.isAgg0
 z0 := Tryz.sizeOf0
 v0 := Tryz.zeroValue0
 t2 := Tryz.underlying2
 a2 := Tryz.isAgg2
 z2 := Tryz.sizeOf2
 v2 := Tryz.zeroValue2
 t3 := Tryz.underlying3
 a3 := Tryz.isAgg3
 z3 := Tryz.sizeOf3
 v3 := Tryz.zeroValue3
 t4 := Tryz.underlying4
 a4 := Tryz.isAgg4
 z4 := Tryz.sizeOf4
 v4 := Tryz.zeroValue4
 t5 := Tryz.underlying5
 a5 := Tryz.isAgg5
 z5 := Tryz.sizeOf5
 v5 := Tryz.zeroValue5
 t9 := Tryz.underlying9
 a9 := Tryz.isAgg9
 z9 := Tryz.sizeOf9
 v9 := Tryz.zeroValue9
 t20 := Tryz.underlying20
 a20 := Tryz.isAgg20
 z20 := Tryz.sizeOf20
 v20 := Tryz.zeroValue20
 t37 := Tryz.underlying72
 a37 := Tryz.isAgg72
 z37 := Tryz.sizeOf72
 v37 := Tryz.zeroValue72
 t46 := Tryz.underlying243
 a46 := Tryz.isAgg243
 z46 := Tryz.sizeOf243
 v46 := Tryz.zeroValue243
 t51 := Tryz.underlying241
 a51 := Tryz.isAgg241
 z51 := Tryz.sizeOf241
 v51 := Tryz.zeroValue241
 t53 := Tryz.underlying224
 a53 := Tryz.isAgg224
 z53 := Tryz.sizeOf224
 v53 := Tryz.zeroValue224
 t171 := Tryz.underlying223
 a171 := Tryz.isAgg223
 z171 := Tryz.sizeOf223
 v171 := Tryz.zeroValue223
 t173 := Tryz.underlying227
 a173 := Tryz.isAgg227
 z173 := Tryz.sizeOf227
 v173 := Tryz.zeroValue227
 t212 := Tryz.underlying240
 a212 := Tryz.isAgg240
 z212 := Tryz.sizeOf240
 v212 := Tryz.zeroValue240
 t213 := Tryz.underlying242
 a213 := Tryz.isAgg242
 z213 := Tryz.sizeOf242
 t232 := Tryz.underlying247
 a232 := Tryz.isAgg247
 z232 := Tryz.sizeOf247
 v232 := Tryz.zeroValue247
 t233 := Tryz.underlying248
 a233 := Tryz.isAgg248
 z233 := Tryz.sizeOf248
 v233 := Tryz.zeroValue248
 g17 := by kernel_rfl
 g18 := by kernel_rfl
 g19 := by kernel_rfl
 i0 := by kernel_rfl
 i2 := by kernel_rfl
 i3 := by kernel_rfl
 i4 := by kernel_rfl
 i5 := by kernel_rfl
 i9 := by kernel_rfl
 i20 := by kernel_rfl
 i37 := by kernel_rfl
 i46 := by kernel_rfl
 i51 := by kernel_rfl
 i53 := by kernel_rfl
 i171 := by kernel_rfl
 i173 := by kernel_rfl
 i212 := by kernel_rfl
 i232 := by kernel_rfl
 i233 := by kernel_rfl
 m17 := by kernel_rfl
 m18 := by kernel_rfl
 m19 := by kernel_rfl }
noncomputable def Tryz.lays156_ren : Go.Shelf.Ren := ⟨fun | 156 => 187 | 165 => 230 | 166 => 72 | 169 => 54 | 240 => 124 | 241 => 248 | 276 => 183 | 277 => 260 | n => n, fun | 31 => 24 | 9 => 9 | 3 => 3 | 4 => 4 | 0 => 0 | 20 => 20 | 72 => 74 | 76 => 132 | 70 => 71 | 37 => 72 | 75 => 131 | 127 => 146 | 164 => 186 | 5 => 5 | 80 => 78 | n => n, fun | n => n⟩
def Tryz.lays156 : Go.Proofs.Lays.n156 Tryz.prog Tryz.lays156_ren := {
 mixed := by kernel_rfl
 f156 := Tryz.func187.trans (congrArg O (by kernel_rfl))
 f165 := Tryz.func230.trans (congrArg O (by kernel_rfl))
 f166 := Tryz.func72.trans (congrArg O (by kernel_rfl))
 f169 := Tryz.func54.trans (congrArg O (by kernel_rfl))
 f240 := Tryz.func124.trans (congrArg O (by kernel_rfl))
 f241 := Tryz.func248.trans (congrArg O (by kernel_rfl))
 f276 := Tryz.func183.trans (congrArg O (by kernel_rfl))
 f277 := Tryz.func260.trans (congrArg O (by kernel_rfl))
 t0 := Tryz.underlying0
 a0 := Tryz.isAgg0
 z0 := Tryz.sizeOf0
 v0 := Tryz.zeroValue0
 t3 := Tryz.underlying3
 a3 := Tryz.isAgg3
 z3 := Tryz.sizeOf3
 v3 := Tryz.zeroValue3
 t4 := Tryz.underlying4
 a4 := Tryz.isAgg4
 z4 := Tryz.sizeOf4
 v4 := Tryz.zeroValue4
 t9 := Tryz.underlying9
 a9 := Tryz.isAgg9
 z9 := Tryz.sizeOf9
 v9 := Tryz.zeroValue9
 t20 := Tryz.underlying20
 a20 := Tryz.isAgg20
 z20 := Tryz.sizeOf20
 v20 := Tryz.zeroValue20
 t31 := Tryz.underlying24
 a31 := Tryz.isAgg24
 z31 := Tryz.sizeOf24
 v31 := Tryz.zeroValue24
 t37 := Tryz.underlying72
 a37 := Tryz.isAgg72
 z37 := Tryz.sizeOf72
 v37 := Tryz.zeroValue72
 t70 := Tryz.underlying71
 a70 := Tryz.isAgg71
 z70 := Tryz.sizeOf71
 v70 := Tryz.zeroValue71
 t72 := Tryz.underlying74
 a72 := Tryz.isAgg74
 z72 := Tryz.sizeOf74
 v72 := Tryz.zeroValue74
 t75 := Tryz.underlying131
 a75 := Tryz.isAgg131
 z75 := Tryz.sizeOf131
 v75 := Tryz.zeroValue131
 t76 := Tryz.underlying132
 a76 := Tryz.isAgg132
 z76 := Tryz.sizeOf132
 v76 := Tryz.zeroValue132
 t127 := Tryz.underlying146
 a127 := Tryz.isAgg146
 z127 := Tryz.sizeOf146
 v127 := Tryz.zeroValue146
 t164 := Tryz.underlying186
 a164 := Tryz.isAgg186
 z164 := Tryz.sizeOf186
 v164 := Tryz.zeroValue186 }
noncomputable def Tryz.lays169_ren : Go.Shelf.Ren := ⟨fun | 169 => 54 | n => n, fun | 70 => 71 | 9 => 9 | 0 => 0 | 72 => 74 | 37 => 72 | 127 => 146 | 3 => 3 | 5 => 5 | n => n, fun | n => n⟩
def Tryz.lays169 : Go.Proofs.Lays.n169 Tryz.prog Tryz.lays169_ren := {
 mixed := by kernel_rfl
 f169 := Tryz.func54.trans (congrArg O (by kernel_rfl))
 t0 := Tryz.underlying0
 a0 := Tryz.isAgg0
 z0 := Tryz.sizeOf0
 v0 := Tryz.zeroValue0
 t3 := Tryz.underlying3
 a3 := Tryz.isAgg3
 z3 := Tryz.sizeOf3
 v3 := Tryz.zeroValue3
 t9 := Tryz.underlying9
 a9 := Tryz.isAgg9
 z9 := Tryz.sizeOf9
 v9 := Tryz.zeroValue9
 t37 := Tryz.underlying72
 a37 := Tryz.isAgg72
 z37 := Tryz.sizeOf72
 v37 := Tryz.zeroValue72
 t70 := Tryz.underlying71
 a70 := Tryz.isAgg71
 z70 := Tryz.sizeOf71
 v70 := Tryz.zeroValue71
 t72 := Tryz.underlying74
 a72 := Tryz.isAgg74
 z72 := Tryz.sizeOf74
 v72 := Tryz.zeroValue74
 t127 := Tryz.underlying146
 a127 := Tryz.isAgg146
 z127 := Tryz.sizeOf146
 v127 := Tryz.zeroValue146 }
end Go.Proofs
namespace Go.Proofs.YtibglelmlnfojaaGreatDoor
open Go Go.Proofs.Tryz
open Option renaming some→O,none→N
open Go renaming TypeId→G,Value→D,Program→I,Oper→M,World→J,Code→W
open Bool renaming true→T,false→Z
open Decidable renaming decide→Y
open Go.Proofs.YtibglelmlnfojaaGreatDoor renaming PVal→U
set_option maxRecDepth 100000
def qbD(n:Int):Q ae:=if(Y (-9223372036854775808<=n)&&Y (n<=9223372036854775807))then O (Lib.itoa n)else N
def qpd:oF=Lib.pow10Tab:=by kernel_rfl
def Z1{n:Int}{r:ae}(h:qbD n=O r):CC Pg GE 107 [.int .i64 n] (.str r) []:=by
 rcases T6 h with⟨b,h⟩|⟨b,h⟩;.obtain rfl:=lf h;simp only[ne,nm]at b;refine CC.grownIS call107 λE Γ o q w a s d i=>?_;have c:Lib.TabIs Pg w "internal/strconv.uint64pow10" .u64 Lib.pow10Tab:=qug i (g:=2) (by rw[d,←qpd];simp[GE]) (by kernel_rfl);refine(Any.strconv_Itoa Tryz.laysM171 n b.1 b.2 w c).mono λe t m=>?_;obtain⟨rfl,k,p,rfl⟩:=m;exact⟨rfl,.of_grow _ _ _⟩
 .cases h
set_option linter.unusedVariables false
abbrev fB:Nat:=228
abbrev fW:Nat:=244
noncomputable def bW:W:=f244.body.getD .skip
noncomputable def bB:W:=f228.body.getD .skip
def qlM(p:ah):CC Pg GE fB [.agg (ag p)] (.func (.func fW) [] [.eptr (ag p)]) []:=by have z:=se (dU p)<|en (aI (rP (.func (.func fW) [] [.eptr (ag p)]))<|(aI md (aI (show kT 0 (ag p)from cN p) trivial)));exact C.evp (A:=[]) mixed call228 func228 (c:=bB) rfl (aI (cN p) trivial) z (by kernel_rfl)
def qvP:bW=.region (qxb bW) (uo bW) false:=by kernel_rfl
def qvT:List.range (uo bW).size=[0,1]++2::([]:V Nat):=by kernel_rfl
def qvR:[0,1].map (λi=>(uo bW)[i]?)=((uo bW).toList.take 2).map O:=by kernel_rfl
def qvS:((uo bW).toList.take 2).all qcj=true:=by kernel_rfl
def qzG:(uo bW)[2]? =O (qk2 bW 2):=by kernel_rfl
def qzF:(qk2 bW 2).guard=N:=by kernel_rfl
def qvQ:(qk2 bW 2).op=.call {callee:=.value (.func fV),args:=#[.tmp 3,.tmp 4],argTypes:=qul (qk2 bW 2)}:=by kernel_rfl
def qzE:(qk2 bW 2).dst=O 5:=by kernel_rfl
def qtv(p:ah)(l:Nat):dJ Pg GE [] (uo bW) (λa=>FG a (aM 6 [(3,.agg (ag p)),(4,yv l)] [] [])) ((uo bW).toList.take 2) 0 (aM 6 [(0,yv l),(1,.eptr (ag p))] [] []):=by have z:=sv (bA p)<|en (fr (aM 6 [(3,.agg (ag p)),(4,yv l)] [] []));exact VB z (by kernel_rfl)
section
variable{S:Type}{a:S->ah->Q (K×S)}{b:K->S->ca->J->Prop}{l:Nat}
def qtw(o:Yd Pg GE l ag a b)(p:ah){s:S}{r:Bool×S}{Γ:ca}{w:J}{v:D}{n:Nat}(hv:qcW a p s=O r)(hJ:b T s Γ w)(a2:VR Γ [] w (.eptr (ag p)) v):CallsIn Fence.wide n Pg fW #[.func (.yield l) #[] #[],v] w λe w'=>(∃u,e=.returned u)/\∃h,Γ.Le w h w'/\b r.1 r.2 h w':=by
 refine callsIn_of_wp func244 (c:=bW) rfl md ?_;have h0:VF b Γ w T s (aM 6 [(0,yv l),(1,.eptr (ag p))] [] []) (#[.func (.yield l) #[] #[],v]++Array.replicate 4 undef) w:=by
  refine⟨Γ,hJ,.refl _ _,_,_,_,(o.base _ _ _ _ hJ).fresh 0 (tmps:=[yv l,.eptr (ag p)]++List.replicate 4 .undef) (by simp) λt q u i F=>?_⟩;by_cases P:t<2;.rw[B2 (by simpa using P)]at i;rw[va4 (by simpa using P)]at F;match t,P with|0,_=>simp at i F;subst i;subst F;exact .val _|1,_=>simp at i F;subst i;subst F;exact a2
  .rw[vav (by simpa using P),va7]at i;split at i<;>cases i;exact .undef u
 show bW.wpIn Fence.wide n Pg _ ⟨_,[]⟩ w;have d2:(PVal.eptr (ag p)).cl 0:=cN p;have d3:(PVal.agg (ag p)).cl 0:=cN p;have H:(Code.region (qxb bW) (uo bW) Z).wpIn Fence.wide n Pg (bodyPost Pg f244 λe w'=>(∃u,e=.returned u)/\∃h,Γ.Le w h w'/\b r.1 r.2 h w') ⟨#[.func (.yield l) #[] #[],v]++Array.replicate 4 undef,[]⟩ w:=by refine wpIn_region ?_;rw[qvT];let⟨a4,R,z,hS⟩:=VF.again o (k:=0) (qlX (L:=[(0,yv l),(1,.eptr (ag p))]) (by exact aI md<|aI d2 md) 0 rfl) h0;refine Rb (A:=[]) (K:=λst=>FG st (aM 6 [(3,.agg (ag p)),(4,yv l)] [] [])) (λh a7 ab a' w' st a0 hK=>?_) _ _ a4 _ _ _ w _ qvR (Xs qvS) hS (qtv p l);let⟨a5,a8,ad,m⟩:=FG.sr a0 hK;refine TD qzG qzF (VF.visitc o (kA:=0) (stB:=aM 6 [(3,.agg (ag p)),(4,yv l),(5,.bool r.1)] [] []) (qlX (by exact aI d3<|aI md md) 0 rfl) (qi3 o p) hv (y:=4) (x:=3) (d:=5) rfl rfl qvQ qzE rfl ⟨a5,o.side _ _ _ _ R _ _ _ _ _ _ m,z.trans m.step.le,_,_,_,m⟩ λa3 w3 h3=>?_);let⟨a6,X,B,E,a9,an,a1⟩:=h3;let⟨u,e1,_⟩:=Gd a1 (fn:=f244) (r:=.tuple []) (by kernel_rfl);exact⟨rfl,u,e1,⟨u,rfl⟩,a6,B,X⟩
 rw[<-qvP]at H;exact H
end
end Go.Proofs.YtibglelmlnfojaaGreatDoor
