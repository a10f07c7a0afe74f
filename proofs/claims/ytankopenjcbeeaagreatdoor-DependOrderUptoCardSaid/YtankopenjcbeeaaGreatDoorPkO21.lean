/- PROVED: a part of the proof. Conditions: none. -/
import Derived.Test.YtankopenjcbeeaaGreatDoorPkO20
import Derived.Test.YtankopenjcbeeaaGreatDoorPkO10
import Derived.Test.YtankopenjcbeeaaGreatDoorPkO9
import Derived.Test.YtankopenjcbeeaaGreatDoorPkO13
import Derived.Test.YtankopenjcbeeaaGreatDoorPkO12
set_option linter.unusedSimpArgs false set_option linter.defProp false
set_option linter.unusedVariables false
noncomputable section
namespace Go.Proofs.YtankopenjcbeeaaGreatDoor
open Go
open Option renaming some→O,none→N
open Go renaming TypeId→G,Value→D,Program→I,Oper→M,World→J,Code→W
open Bool renaming true→T,false→Z
open Decidable renaming decide→Y
open YtankopenjcbeeaaGreatDoor renaming PVal→U
mutual
def nP:ag->Nat|⟨_,_,_,ks⟩=>nL ks+1
def nL:List ag->Nat|[]=>0|p::ps=>nP p+nL ps
end
def qbQ(p:ag):nP p=nL p.Kids+1:=by let⟨o,n,k,ks⟩:=p;rw[nP];rfl
def qoe(p:ag):1<=nP p:=by rw[qbQ];omega
def qja:∀{l:List ag}{x:ag},x∈l->nP x<=nL l
 | y :: l,x,h => by
  rw[nL];rcases x8.1 h with rfl|h;.omega
  .have:=qja h;omega
def qdJ:∀(l:List ag),l.length<=nL l
 |[]=>by simp[nL]
 |p::l=>by rw[nL];have:=qdJ l;have:=qoe p;simp only[p6];omega
def B7{p x:ag}(h:x∈p.Kids):nP x<nP p:=by rw[qbQ p];have:=qja h;omega
def Gl(p:ag):p.Kids.length<nP p:=by rw[qbQ];have:=qdJ p.Kids;omega
def RV:∀(a b:List ag),nL (a++b)=nL a+nL b
 |[],b=>by simp[nL]
 |p::a,b=>by rw[vaT,nL,RV a b,nL];omega
mutual
def qbR:∀(p:ag),nP p<=dB (af p)
 |⟨o,n,k,ks⟩=>by
  have:=qe3 ks;rw[nP,cH];simp only[dB,pm,sl];show nL ks+1<=1+(n.length+1+(1+(bL (ks.map af)+1+0)))
  omega
def qe3:∀(l:List ag),nL l<=bL (l.map af)
 |[]=>by simp[nL]
 |p::l=>by have:=qbR p;have:=qe3 l;rw[nL];simp only[ox,bL];omega
end
mutual
def qtZ:ag->ag->K|⟨o,n,k,ks⟩,⟨o',n',k',ks'⟩=>(o==o')&&((n==n')&&((k==k')&&qnT ks ks'))
def qnT:List ag->List ag->K|[],[]=>T|x::xs,y::ys=>qtZ x y&&qnT xs ys|_,_=>Z
end
mutual
def qeJ:∀(a b:ag),qtZ a b=T↔a=b
 |⟨o,n,k,ks⟩,⟨o',n',k',ks'⟩=>by rw[qtZ];have:=qeI ks ks';simp only[ne,vbf,this,ag.mk.injEq]
def qeI:∀(a b:List ag),qnT a b=T↔a=b
 |[],[]=>by simp[qnT]
 |x::xs,y::ys=>by rw[qnT];have c:=qeJ x y;have d:=qeI xs ys;simp only[ne,c,d,vbQ]
 |[],y::ys=>by simp[qnT]
 |x::xs,[]=>by simp[qnT]
end
instance:DecidableEq ag:=λa b=>decidable_of_iff _ (qeJ a b)
def X0(p:ag):(⟨p.Op,p.Name,p.N,p.Kids⟩:ag)=p:=by cases p;rfl
def Hd{a b:ag}:a=b↔a.Op=b.Op/\a.Name=b.Name/\a.N=b.N/\a.Kids=b.Kids:=by cases a;cases b;simp only[ag.mk.injEq];rfl
def qfy{α:Type}[DecidableEq α]:∀{a b:List α},a.length=b.length->(a.zip b).any (λx=>Y (x.1≠x.2))= !Y (a=b)
 |[],[],_=>by simp
 |x::a,y::b,h=>by have e:=qfy (a:=a) (b:=b) (by simpa using h);rw[List.zip_cons_cons,List.any_cons,e];by_cases c:x=y<;>by_cases d:a=b<;>simp[c,d]
def P4{α X:Type}[DecidableEq α]{a b:V α}(p:a.length=b.length)(w:a.length<9223372036854775808)(c:Int->Q (Int⊕X))(y e:X)
  (m:∀(i:Nat)(h:i<a.length)(t:i<b.length),c i=O (if Y (a[i]=b[i])then .inl (dc ((i:Int)+1))else .inr y)) (d:c a.length=O (.inr e)):loop c 0=O (if Y (a=b)then e else y):=by
 have s:(a.zip b).length=a.length:=by simp[p]
 have:=px (a.zip b) (by omega) c (λx=>Y (x.1≠x.2)) y e (λi h=>?_) (by rw[s];exact d) 0 (s5 _)
 .rw[vbj,qfy p]at this
  rw[show((0:Nat):Int)=0 from rfl]at this
  rw[this]
  by_cases h:a=b<;>simp[h]
 .have q:i<a.length:=by omega
  have r:i<b.length:=by omega
  rw[m i q r]
  have o:(a.zip b)[i]=(a[i],b[i]):=by simp
  rw[o]
  by_cases h:a[i]=b[i]<;>simp[h]
abbrev cz:Nat:=1073741824
def kj{n:Nat}(h:n<=cz):n<qhA:=by have:=qnC;unfold cz at h;omega
def qio{R:ag->ag->Q K}{a b:V ag}(o:a.length<=cz)(h:∀x∈a,∀y∈b,R x y=O (Y (x=y))):Ie R a b=O (Y (a=b)):=by
 unfold Ie;by_cases d:a.length=b.length
 .rw[hG (by simp[d])];unfold Fd;rw[P4 d (by unfold cz at o;omega) (λp=>nO R a b (a.length:Int) p) (.inl ()) (.inr ()) (λi e m=>?_) ?_];.by_cases c:a=b<;>simp[c]
  .unfold nO;rw[hG (by simp)]
  .unfold nO;rw[l7 (by simp;omega),aC a i e];simp only[eJ];rw[aC b i m];simp only[eJ];rw[h _ (mx e) _ (mx m)];simp only[eJ];by_cases c:a[i]=b[i]<;>simp[c]
 .rw[l7 (by simp;omega)];rw[decide_eq_false (λc=>d (by rw[c]))]
def qaw(a b:ag)(m:nP a<=cz):GG a b=O (Y (a=b)):=by
 refine ql (F:=Ln) (λx=>nP x.1) (λx=>nP x.1<=cz) (λx=>Y (x.1=x.2)) (λR x i q=>?_) (a,b) m (kj m);let⟨u,v⟩:=x;have i:nP u<=cz:=i;show Eh (λa o=>R (a,o)) u v=O (Y (u=v));unfold Eh;have r:=Gl u;by_cases c:u.Op=v.Op
 .by_cases d:u.Name=v.Name
  .by_cases h:u.N=v.N;.rw[l7 (by simpa using c),l7 (by simpa using d),l7 (by simpa using h)];rw[qio (a:=u.Kids) (b:=v.Kids) (by omega) (λx e y p=>q (x,y) (B7 e) (vbB (R3 (B7 e) i)))];simp[Hd (a:=u) (b:=v),c,d,h]
   .rw[l7 (by simpa using c),l7 (by simpa using d),hG (by simpa using h)];simp[Hd (a:=u) (b:=v),h]
  .rw[l7 (by simpa using c),hG (by simpa using d)];simp[Hd (a:=u) (b:=v),d]
 .rw[hG (by simpa using c)];simp[Hd (a:=u) (b:=v),c]
def qcm(a b:ag)(p:nP b<=cz):UN a b=O (Y (a=b)):=by
 refine ql (F:=UO) (λx=>nP x.2) (λx=>nP x.2<=cz) (λx=>Y (x.1=x.2)) (λR x q z=>?_) (a,b) p (kj p);let⟨u,v⟩:=x;have q:nP v<=cz:=q;show NK (λa w=>R (a,w)) u v=O (Y (u=v));unfold NK SQ;have A:=Gl v;by_cases d:u.Op=v.Op
 .by_cases h:u.Name=v.Name
  .by_cases m:u.N=v.N
   .by_cases o:u.Kids.length=v.Kids.length
    .rw[hG (by simpa using d),hG (by simpa using h),hG (by simpa using m)];simp only[o,bne_self_eq_false,eJ,if_false,vaF];unfold SS;rw[<-o,P4 o (by unfold cz at q;omega) _ (.inl ()) (.inr ()) (λi y s=>?_) ?_];.by_cases r:u.Kids=v.Kids<;>simp[r,Hd (a:=u) (b:=v),d,h,m]
     .unfold EW;rw[hG (by simp)]
     .unfold EW;rw[l7 (by simp;omega),aC u.Kids i y];simp only[eJ];rw[aC v.Kids i s];simp only[eJ];have t:=mx s;rw[z (u.Kids[i],v.Kids[i]) (B7 t) (vbB (R3 (B7 t) q))];by_cases r:u.Kids[i]=v.Kids[i]<;>simp[r]
    .have c:u≠v:=λe=>o (by rw[e]);rw[hG (by simpa using d),hG (by simpa using h),hG (by simpa using m)];have p:((u.Kids.length:Int)!=(v.Kids.length:Int))=true:=by simp;omega
     simp[p,c]
   .have c:u≠v:=λe=>m (by rw[e]);rw[hG (by simpa using d),hG (by simpa using h),l7 (by simpa using m)];simp[c]
  .have c:u≠v:=λe=>h (by rw[e]);rw[hG (by simpa using d),l7 (by simpa using h)];simp[c]
 .have c:u≠v:=λe=>d (by rw[e]);rw[l7 (by simpa using d)];simp[c]
def Hq:ag:=⟨0,[],0,[]⟩
def qlB:nP Hq<=cz:=by decide
def YK{α σ X:Type}(g:α->σ->σ)(e:σ->X):∀(l:List α)(i:Nat)(s:σ),wm (λ_ x (s:σ)=>(Sum.inl (g x s):σ⊕X)) e l i s=e (l.foldl (λs x=>g x s) s)
 |[],i,s=>by simp[wm]
 |x::l,i,s=>by unfold wm;simp only;rw[YK g e l (i+1) (g x s)];rfl
def qgv{α σ τ X:Type}(l:V α)(q:l.length<9223372036854775808)(mk:Int->σ->τ)(a:τ->Q (τ⊕X))(t:Nat->σ->Prop)(g:α->σ->σ)(e:σ->X)(m:σ)(p:t 0 m)
  (c:∀(i:Nat)(h:i<l.length) s,t i s->a (mk i s)=O (.inl (mk (dc ((i:Int)+1)) (g l[i] s)))/\t (i+1) (g l[i] s)) (b:∀s,t l.length s->a (mk l.length s)=O (.inr (e s))):
  loop a (mk 0 m)=O (e (l.foldl (λs x=>g x s) m)):=by
 have:=B8 l q mk a t (λ_ x s=>.inl (g x s)) e (λi h s d=>⟨(c i h s d).1,λr o=>by cases o;exact(c i h s d).2⟩) (λs d=>b s d) 0 m (s5 _) p
 rw[YK]at this
 exact this
def qe4(l:V ag)(i:Nat)(h:i<l.length):nL (l.take (i+1))=nL (l.take i)+nP l[i]:=by rw[vas h,RV];simp[nL]
def VW(l:V ag)(i:Nat):nL (l.take i)<=nL l:=by have:=RV (l.take i) (l.drop i);rw[vbY]at this;omega
def qeQ:∀(l:List ag)(a:Int),l.foldl (λs x=>s+(nP x:Int)) a=a+(nL l:Int)
 |[],a=>by simp[nL]
 |x::l,a=>by rw[List.foldl_cons,qeQ l,nL];omega
def qbW(p:ag)(c:nP p<=cz):LR p=O (nP p:Int):=by
 refine ql (F:=Kl) nP (λx=>nP x<=cz) (λx=>(nP x:Int)) (λR x d q=>?_) p c (kj c);show Kk (λp=>R p) x=_;unfold Kk Pm;have b:=Gl x;have m:=qbQ x;rw[qgv x.Kids (by unfold cz at d;omega) (λi s=>(s,i)) _ (λi s=>s=1+(nL (x.Kids.take i):Int)) (λx s=>s+(nP x:Int)) id 1 (by simp[nL]) (λi a s o=>?_) (λs _=>?_)];.rw[qeQ];simp only[id,eJ];rw[m];congr 1;omega
 .have h:=mx a;have e:=B7 h;refine⟨?_,by rw[qe4 _ _ a,o];omega⟩;unfold BI;rw[l7 (by simp;omega),aC x.Kids i a];simp only[eJ];rw[q _ e (by omega)];simp only[eJ];have r:=VW x.Kids i;have t:=VW x.Kids (i+1);have w:=qe4 x.Kids i a;unfold cz at d;rw[ch (n:=s+_) (by omega) (by omega)]
 .unfold BI;rw[hG (by simp)];rfl
mutual
def dP:ag->Nat|⟨_,_,_,ks⟩=>dL ks+1
def dL:List ag->Nat|[]=>0|p::ps=>max (dP p) (dL ps)
end
def qqt(p:ag):dP p=dL p.Kids+1:=by let⟨o,n,k,ks⟩:=p;rw[dP];rfl
mutual
def qmu:∀(p:ag),dP p<=nP p
 |⟨o,n,k,ks⟩=>by have:=qmt ks;rw[dP,nP];omega
def qmt:∀(l:List ag),dL l<=nL l
 |[]=>by simp[dL]
 |p::l=>by have:=qmu p;have:=qmt l;rw[dL,nL];omega
end
def qeP:∀(l:List ag)(a:Nat),l.foldl (λ(s:Int) x=>if(dP x:Int)>s then(dP x:Int)else s) (a:Int)=((max a (dL l):Nat):Int)
 |[],a=>by simp[dL]
 |x::l,a=>by rw[List.foldl_cons,show(if(dP x:Int)>(a:Int)then(dP x:Int)else(a:Int))=((max a (dP x):Nat):Int) by split<;>omega,qeP l,dL,Nat.max_assoc]
def qbc(p:ag)(b:nP p<=cz):LP p=O (dP p:Int):=by
 refine ql (F:=Kj) nP (λx=>nP x<=cz) (λx=>(dP x:Int)) (λR x c o=>?_) p b (kj b);show Ki (λp=>R p) x=_;unfold Ki Pl;have a:=Gl x;have q:=qmu x;have t:=qqt x;have m:(0:Int)=((0:Nat):Int):=rfl;rw[qdF x.Kids (by unfold cz at c;omega) (λi s=>(s,i)) _ (λi s x=>(R x).bind λr=>O (.inl ((if r>s then r else s),dc (i+1)))) (λ_ _=>True) (λx s=>if(dP x:Int)>s then(dP x:Int)else s) id 0 trivial (λi s=>rfl) (λi d s _=>⟨?_,hV⟩)];.rw[m,qeP];simp only[id,eJ];unfold cz at c;rw[ch (by omega) (by omega)];congr 1;omega
 .have h:=mx d;have e:=B7 h;rw[o _ e (by omega)];rfl
def X1(t:ai):(⟨t.Op,t.Name,t.Args,t.Names,t.Pred,t.Preds⟩:ai)=t:=by cases t;rfl
mutual
def lq:ai->Nat|⟨_,_,xs,ns,_,ps⟩=>qB xs+ns.length+ps.length+1
def qB:List ai->Nat|[]=>0|a::xs=>lq a+qB xs
end
def HZ(t:ai):lq t=qB t.Args+t.Names.length+t.Preds.length+1:=by let⟨o,n,c,a,p,b⟩:=t;rw[lq];rfl
def qiO(t:ai):1<=lq t:=by rw[HZ];omega
def RE:∀{l:List ai}{x:ai},x∈l->lq x<=qB l
 | y :: l,x,h => by
  rw[qB];rcases x8.1 h with rfl|h;.omega
  .have:=RE h;omega
def RD:∀(l:List ai),l.length<=qB l
 |[]=>by simp[qB]
 |p::l=>by rw[qB];have:=RD l;have:=qiO p;simp only[p6];omega
def wT{t a:ai}(h:a∈t.Args):lq a<lq t:=by rw[HZ t];have:=RE h;omega
def ut(t:ai):t.Args.length<lq t:=by rw[HZ];have:=RD t.Args;omega
def Yp(t:ai):t.Names.length<lq t:=by rw[HZ];omega
def St(t:ai):t.Preds.length<lq t:=by rw[HZ];omega
mutual
def Y6(a:ag->Prop):ai->Prop|⟨_,_,xs,_,p,ps⟩=>a p/\(∀q∈ps,a q)/\SY a xs
def SY(b:ag->Prop):List ai->Prop|[]=>True|a::xs=>Y6 b a/\SY b xs
end
def Pu(d:ag->Prop)(t:ai):Y6 d t↔d t.Pred/\(∀q∈t.Preds,d q)/\SY d t.Args:=by let⟨o,n,c,a,p,b⟩:=t;rw[Y6];rfl
def XL(b:ag->Prop):∀(l:List ai),SY b l↔∀t∈l,Y6 b t
 |[]=>by simp[SY]
 |a::l=>by rw[SY,XL b l];simp
def qhP{c:ag->Prop}{t a:ai}(h:Y6 c t)(b:a∈t.Args):Y6 c a:=(XL c _).1 ((Pu c t).1 h).2.2 a b
def qmD(l:V ag):l.length<=bL (l.map af):=by have:=qdJ l;have:=qe3 l;omega
def qmE(l:V aa):l.length<=bL (l.map cS):=by
 have h:=qcc (l.map cS) (λx a=>by
  obtain⟨s,_,rfl⟩:=l9.1 a;simp only[cS,dB,pm];omega)
 rwa[va0]at h
def Lk(t:ai):dB (aj t)=1+(pm (.str t.Name)+(pm (sl aj t.Args)+(pm (sl cS t.Names)+(1+(pm (.str t.Pred.Name)+(1+(pm (sl af t.Pred.Kids)+(pm (sl af t.Preds)+0)))))))):=by rw[dW];rfl
mutual
def ZS:∀(t:ai),lq t<=dB (aj t)
 |⟨o,n,xs,ns,p,ps⟩=>by
  have a:=VM xs;have b:=qmD ps;have c:=qmE ns;rw[lq,Lk];show _<=1+(pm (.str n)+(pm (sl aj xs)+(pm (sl cS ns)+(1+(pm (.str p.Name)+(1+(pm (sl af p.Kids)+(pm (sl af ps)+0))))))))
  simp only[pm,sl];omega
def VM:∀(l:List ai),qB l<=bL (l.map aj)
 |[]=>by simp[qB]
 |a::l=>by have:=ZS a;have:=VM l;rw[qB];simp only[ox,bL];omega
end
def qlS(t:ai):nP t.Pred<=dB (aj t):=by have h:=qe3 t.Pred.Kids;rw[qbQ,Lk];simp only[pm,sl];omega
mutual
def qes(B:Nat):∀(t:ai),dB (aj t)<=B->Y6 (λp=>nP p<=B) t
 |⟨o,n,xs,ns,p,ps⟩,h=>by have a:=qlS ⟨o,n,xs,ns,p,ps⟩;rw[Lk]at h a;have h:1+(pm (.str n)+(pm (sl aj xs)+(pm (sl cS ns)+(1+(pm (.str p.Name)+(1+(pm (sl af p.Kids)+(pm (sl af ps)+0))))))))<=B:=h;have a:nP p<=1+(pm (.str n)+(pm (sl aj xs)+(pm (sl cS ns)+(1+(pm (.str p.Name)+(1+(pm (sl af p.Kids)+(pm (sl af ps)+0)))))))):=a;simp only[pm,sl]at h a;rw[Y6];refine⟨by omega,λq b=>?_,qaU B xs (by omega)⟩;have c:=qbR q;have d:=GF (l9.2 ⟨q,b,rfl⟩:af q∈ps.map af);omega
def qaU(B:Nat):∀(l:List ai),bL (l.map aj)<=B->SY (λp=>nP p<=B) l
 |[],_=>trivial
 |a::xs,h=>by simp only[ox,bL]at h;rw[SY];exact⟨qes B a (by omega),qaU B xs (by omega)⟩
end
def qdg(t:ai)(c:lq t<=cz):fY (FL t) (λ_=>True):=by refine Hf (F:=DB) lq (λx=>lq x<=cz) (λ_ _=>True) (λR x d e=>?_) t c (kj c);show fY (yt (λt=>R t) x) _;unfold yt AD;have h:=ut x;refine aA (R:=λ_=>True) (YQ x.Args (by unfold cz at d;omega) (λi s=>(s,i)) (λi s y=>(R y).bind λr=>O (.inl ((if r>s then r else s),dc (i+1)))) id (λ_ _=>True) (λi s=>rfl) (λi b s _=>?_) (λ_ _=>trivial) 0 trivial) (λa _=>ak hV);exact aA (e _ (wT (mx b)) (by have:=wT (mx b);omega)) (λa _=>ak ⟨_,rfl,hV⟩)
def V2(t:ai):fY (yu t) (λ_=>True):=by
 unfold yu;refine aA (R:=λ_=>True) ?_ λ_ _=>aG (λ_=>ak hV) λ_=>aA (R:=λ_=>True) ?_ λ_ _=>aG (λ_=>ak hV) λ_=>aA (R:=λ_=>True) ?_ λ_ _=>aG (λ_=>ak hV) λ_=>aA (R:=λ_=>True) ?_ λ_ _=>aG (λ_=>ak hV) λ_=>ak hV;.unfold mO;repeat' first|exact ak hV|refine aG (λ_=>?_) (λ_=>?_)
 .unfold pg;repeat' first|exact ak hV|refine aG (λ_=>?_) (λ_=>?_)
 .unfold mP;repeat' first|exact ak hV|refine aG (λ_=>?_) (λ_=>?_)
 .unfold ph;repeat' first|exact ak hV|refine aG (λ_=>?_) (λ_=>?_)|refine aA (qa9 _ _) λ_ _=>?_
def qds(t:ai)(a:lq t<=cz):fY (FM t) (λ_=>True):=by refine Hf (F:=BM) lq (λx=>lq x<=cz) (λ_ _=>True) (λR x c d=>?_) t a (kj a);show fY (mY (λt=>R t) x) _;unfold mY tt;have e:=ut x;refine aA (V2 x) λ_ _=>aG (λ_=>ak hV) λ_=>aA (Mz x.Args (by unfold cz at c;omega) _ (λ_=>True) (λ_=>True) (λi=>rfl) (λy b i=>aA (d _ (wT b) (by have:=wT b;omega)) λ_ _=>aG (λ_=>ak hV) λ_=>ak ⟨rfl,hV⟩)) λo _=>?_;cases o<;>exact ak hV
def Do(t:ai)(a:lq t<=cz):fY (qh t) (λ_=>True):=by unfold qh;exact aA (qdg t a) λ_ _=>aG (λ_=>ak hV) λ_=>aA (qds t a) λ_ _=>ak hV
def qiJ(b n:Int):fY (rq b n) (λr=>r=T->b=8->n=2):=by
 by_cases h:b=8
 .subst h;refine qeh (a:=n==2) ?_ λh _=>by simpa using h
  simp[rq,Dv,Dw,Dx]
 .unfold rq;refine aA (R:=λ_=>True) ?_ λ_ _=>aG (λ_=>ak λ_ e=>absurd e h) λ_=>aA (R:=λ_=>True) ?_ λ_ _=>aG (λ_=>aG (λ_=>ak λ_ e=>absurd e h) λ_=>ak λ_ e=>absurd e h) λ_=>aA (R:=λ_=>True) ?_ λ_ _=>aG (λ_=>ak λ_ e=>absurd e h) λ_=>ak λ_ e=>absurd e h;.unfold Dv;repeat' first|exact ak hV|refine aG (λ_=>?_) (λ_=>?_)
  .unfold Dw;repeat' first|exact ak hV|refine aG (λ_=>?_) (λ_=>?_)
  .unfold Dx;repeat' first|exact ak hV|refine aG (λ_=>?_) (λ_=>?_)
def NW(p:ag):fY (wR p) (λ_=>True):=by unfold wR;have a:=λs=>(qaM s).mono (R:=λ_=>True) λ_ _=>trivial;repeat' first|exact ak hV|refine aG (λ_=>?_) (λ_=>?_)|refine aA (a _) λ_ _=>?_
def qdL(p:ag):fY (BK p) (λ_=>True):=by
 unfold BK;have i:fY (rq p.Op (p.Kids.length:Int)) (λr=>r=T->p.Op=8->0<p.Kids.length):=(qiJ _ _).mono λr b c d=>by have:=b c d;omega
 have q:∀r:K,(r=T->p.Op=8->0<p.Kids.length)->fY (O (!r)) (λo=>o=T\/(p.Op=8->0<p.Kids.length)):=λr b=>by cases r with|false=>exact ak (.inl rfl)|true=>exact ak (.inr (b rfl))
 refine aA (R:=λ_=>True) ?_ λt _=>aA (R:=λo=>o=T\/(p.Op=8->0<p.Kids.length)) ?_ λo s=>aG (λ_=>ak hV) λa=>aA (R:=λ_=>True) ?_ λ_ _=>aG (λ_=>ak hV) λ_=>aA (NW p) λ_ _=>aG (λ_=>ak hV) λ_=>aA (R:=λ_=>True) ?_ λ_ _=>aG (λ_=>ak hV) λ_=>ak hV;.unfold Dy;repeat' first|exact ak hV|refine aG (λ_=>?_) (λ_=>?_)
 .unfold Dz;have m:fY (FK p.Op) (λ_=>True):=by unfold FK;repeat' first|exact ak hV|refine aG (λ_=>?_) (λ_=>?_)
  repeat' first|exact ak (.inl rfl)|refine aG (λ_=>?_) (λ_=>?_)|refine aA m λ_ _=>?_|exact aA i q
 .have e:fY (J8 p.N) (λ_=>True):=by
   unfold J8
   repeat' first|exact ak hV|refine aG (λ_=>?_) (λ_=>?_)
  unfold tp
  repeat' first|exact ak hV|refine aG (λ_=>?_) (λ_=>?_)|refine aA e λ_ _=>?_
 .unfold DA;refine aG (λh=>?_) λ_=>ak hV;exact eZ (aC p.Kids 0 (s.resolve_left a (by simpa using h))) (ak hV)
def Oi:bX []=false:=by kernel_rfl
def uD(b:K):(Ja b !=0)= !b:=by cases b<;>rfl
def XY(b:K):(Ja b==0)=b:=by cases b<;>rfl
def qhn(t:ai):EO t=FL t:=by have h:FE=DB:=rfl;unfold EO FL;rw[h]
def qkd(t:ai):yk t=O (t.Op==4||t.Op==5):=by unfold yk;by_cases h:t.Op=4<;>simp[h]
def qke(t:ai):yl t=O (t.Op==4||t.Op==6):=by unfold yl;by_cases h:t.Op=4<;>simp[h]
def qkf(t:ai):ym t (t.Op==4||t.Op==5) (t.Op==4||t.Op==6)=mO t:=by
 unfold ym mO;by_cases a:t.Op=4;.simp[a]
 by_cases b:t.Op=5;.simp[b]
 by_cases c:t.Op=6;.simp[c]
 .simp[a,b,c]
def qoK(t:ai):EN t=(pg t).bind λa=>if a then O 13 else(mP t).bind λb=>if b then O 13 else O 0:=by
 unfold EN pg mP CV;by_cases c:t.Op=4;.simp[c]
 by_cases d:t.Op=6
 .have i:((t.Names.length:Int)!=0)=Y ((t.Names.length:Int)>0):=by
   by_cases h:t.Names.length=0
   .rw[h];rfl
   .have m:(t.Names.length:Int)≠0:=by omega
    have e:(t.Names.length:Int)>0:=by omega
    rw[vaY e];simpa using h
  rw[i]
  simp[d]
 .simp[c,d]
def qnO(s:aa)(b:K):BL s b=O (bX s&&(kM nK s==b)):=by
 unfold BL;rw[tj];simp only[eJ,XY];by_cases h:bX s=T
 .cases s with
  |nil=>rw[Oi]at h;cases h
  | cons c r =>
   rw[l7 h,h];simp only[tI,eJ,kM,nK,vbr];by_cases d:(c.toNat:Int)>=65;.have a:(65:Int)<=c.toNat:=d;rw[l7 (vaY d),vaY a,vbr]
   .have a:¬(65:Int)<=c.toNat:=d;rw[hG (by simpa using d),decide_eq_false a,vcS]
 .rw[hG h];have:bX s=false:=by simpa using h
  rw[this];rfl
def qkg(t:ai):yn t (t.Op==4||t.Op==5)=(ph t).bind λb=>if b then O (.inl ())else O (.inr ()):=by
 unfold yn ph;simp only[qnO,eJ,n7,uD]
 have d:bX t.Name=T->yo t=O (kM nK t.Name):=λh=>by
  unfold yo;cases o:t.Name with
  |nil=>rw[o,Oi]at h;cases h
  | cons c r =>
   simp only[tI,eJ,kM,nK];by_cases e:(c.toNat:Int)>=65;.have a:(65:Int)<=c.toNat:=e;rw[l7 (vaY e),vaY a,vbr]
   .have a:¬(65:Int)<=c.toNat:=e;rw[hG (by simpa using e),decide_eq_false a,vcS]
 by_cases i:t.Op=4
 .by_cases h:bX t.Name=T;.rw[d h];cases kM nK t.Name<;>simp[i,h]
  .simp[i,h]
 by_cases m:t.Op=5
 .by_cases h:bX t.Name=T;.rw[d h];cases kM nK t.Name<;>simp[m,h]
  .simp[m,h]
 .simp[i,m]
def qbV(t:ai):∃a b c b4,mO t=O a/\pg t=O b/\mP t=O c/\ph t=O b4:=by
 have m:fY (mO t) (λ_=>True):=by unfold mO;repeat' first|exact ak hV|refine aG (λ_=>?_) (λ_=>?_)
 have o:fY (pg t) (λ_=>True):=by unfold pg;repeat' first|exact ak hV|refine aG (λ_=>?_) (λ_=>?_)
 have p:fY (mP t) (λ_=>True):=by unfold mP;repeat' first|exact ak hV|refine aG (λ_=>?_) (λ_=>?_)
 have q:fY (ph t) (λ_=>True):=by unfold ph;repeat' first|exact ak hV|refine aG (λ_=>?_) (λ_=>?_)|refine aA (qa9 _ _) λ_ _=>?_
 let⟨a,d,_⟩:=m;let⟨b,e,_⟩:=o;let⟨c,h,_⟩:=p;let⟨b4,i,_⟩:=q;exact⟨a,b,c,b4,d,e,h,i⟩
def ql8(R:ai->Q Int)(t:ai):Bw R t=mY R t:=by let⟨h,i,m,o,p,a,b,c⟩:=qbV t;have e:=qoK t;have d:=qkg t;have q:FF R t.Args (t.Args.length:Int) 0=tt R t.Args (t.Args.length:Int) 0:=rfl;rw[a,b]at e;rw[c]at d;unfold Bw mY yu;rw[qkd,qke];simp only[eJ];rw[qkf,p,a,b,c,e,q];rw[d];cases h<;>cases i<;>cases m<;>cases o<;>rfl
def SK(t:ai):qa t=qh t:=by
 have h:IZ=BM:=by funext R x;exact ql8 (λt=>R t) x
 have a:IY t=FM t:=by unfold IY FM;rw[h]
 unfold qa qh;rw[qhn,a]
def Gk(a n:Int):K:=if a=1\/a=2\/a=3 then n==0 else if a=4\/a=5 then Y (n>=1)&&Y (n<=24)else if a=9\/a=14 then n==1 else n==2
def qjZ(a n:Int):rq a n=O (Gk a n):=by
 unfold rq Dv Dw Dx Gk;by_cases d:a=1;.simp[d]
 by_cases e:a=2;.simp[e]
 by_cases h:a=3;.simp[h]
 by_cases i:a=4;.subst i;by_cases c:n>=1<;>simp[c]
 by_cases m:a=5;.subst m;by_cases c:n>=1<;>simp[c]
 by_cases o:a=9;.simp[o]
 by_cases b:a=14;.simp[b]
 .simp[d,e,h,i,m,o,b]
def qjH(c:Int)(n:Nat):∃l m,Mt c=O (l,m)/\(if Y ((n:Int)<l)then O T else O (Y ((n:Int)>m)))=O (!Gk c (n:Int)):=by
 unfold Mt If Ig Ih Gk;have q:(if Y ((n:Int)<0)then O T else O (Y ((n:Int)>0)))=O (!((n:Int)==0)):=by
  rw[hG (by simp)];by_cases h:n=0;.subst h;rfl
  .have d:(n:Int)>0:=by omega
   rw[vaY d];simp[h]
 have s:(if Y ((n:Int)<1)then O T else O (Y ((n:Int)>24)))=O (!(Y ((n:Int)>=1)&&Y ((n:Int)<=24))):=by
  by_cases h:(n:Int)<1;.rw[l7 (vaY h),decide_eq_false (by omega:¬(n:Int)>=1)];rfl
  .rw[hG (by simpa using h),vaY (by omega:(n:Int)>=1)];by_cases a:(n:Int)>24;.rw[vaY a,decide_eq_false (by omega:¬(n:Int)<=24)];rfl
   .rw[decide_eq_false a,vaY (by omega:(n:Int)<=24)];rfl
 have r:∀k:Nat,(if Y ((n:Int)<(k:Int))then O T else O (Y ((n:Int)>(k:Int))))=O (!((n:Int)==(k:Int))):=λk=>by
  by_cases h:(n:Int)<k
  .rw[l7 (vaY h)];have:((n:Int)==(k:Int))=false:=by rw[beq_eq_false_iff_ne];omega
   rw[this];rfl
  .rw[hG (by simpa using h)];by_cases a:(n:Int)>k
   .have:((n:Int)==(k:Int))=false:=by rw[beq_eq_false_iff_ne];omega
    rw[this,vaY a];rfl
   .have:((n:Int)==(k:Int))=true:=by rw[vbf];omega
    rw[this,decide_eq_false a];rfl
 by_cases d:c=1;.exact⟨0,0,by simp[d],by simpa[d]using q⟩
 by_cases a:c=2;.exact⟨0,0,by simp[a],by simpa[a]using q⟩
 by_cases e:c=3;.exact⟨0,0,by simp[e],by simpa[e]using q⟩
 by_cases i:c=4;.exact⟨1,24,by simp[i],by rw[s];simp[i]⟩
 by_cases o:c=5;.exact⟨1,24,by simp[o],by rw[s];simp[o]⟩
 by_cases p:c=9;.exact⟨1,1,by simp[p],by have:=r 1;rw[show((1:Nat):Int)=1 from rfl]at this;rw[this];simp[p]⟩
 by_cases b:c=14;.exact⟨1,1,by simp[b],by have:=r 1;rw[show((1:Nat):Int)=1 from rfl]at this;rw[this];simp[b]⟩
 .exact⟨2,2,by simp[d,a,e,i,o,p,b],by have:=r 2;rw[show((2:Nat):Int)=2 from rfl]at this;rw[this];simp[d,a,e,i,o,p,b]⟩
def YH(a:Int):FK a=O (a==3||a==4||a==5):=by
 unfold FK;by_cases b:a=3;.simp[b]
 by_cases c:a=4<;>simp[b,c]
def Yz(a:Int):Ii a=O (a==3||a==4||a==5):=YH a
def qvC(p:ag):Dy p=O (p.Op==1||p.Op==2):=by unfold Dy;by_cases h:p.Op=1<;>simp[h]
def Sz(p:ag):K:=!(p.Name==([]:aa))&&!(p.Op==3||p.Op==4||p.Op==5)||((p.N !=0)&&!(p.Op==1||p.Op==2))||!Gk p.Op (p.Kids.length:Int)
def qvD(p:ag):Dz p (p.Op==1||p.Op==2)=O (Y (p.Op<1)||decide (p.Op>18)||Sz p):=by
 unfold Dz Sz;simp only[YH,qjZ,eJ];cases Y (p.Op<1)
 .cases Y (p.Op>18);.cases(p.Name==([]:aa))<;>cases(p.Op==3||p.Op==4||p.Op==5)<;>cases(p.N !=0)<;>cases(p.Op==1||p.Op==2)<;>cases Gk p.Op (p.Kids.length:Int)<;>rfl
  .rfl
 .rfl
def qwK(p:ag)(l m:Int)(h:(if Y ((p.Kids.length:Int)<l)then O T else O (Y ((p.Kids.length:Int)>m)))=O (!Gk p.Op (p.Kids.length:Int))):AU p l m=O (Sz p):=by
 unfold AU Sz;simp only[Yz,eJ,h];by_cases a:p.Op=1;.cases(p.Name==([]:aa))<;>cases(p.N !=0)<;>simp[a]
 by_cases b:p.Op=2;.cases(p.Name==([]:aa))<;>cases(p.N !=0)<;>simp[b]
 have c:(p.Op !=1)=true:=by simpa using a
 have d:(p.Op !=2)=true:=by simpa using b
 have e:(p.Op==1)=false:=by simpa using a
 have i:(p.Op==2)=false:=by simpa using b
 rw[c,d,e,i];cases(p.Name==([]:aa))<;>cases(p.Op==3||p.Op==4||p.Op==5)<;>cases(p.N !=0)<;>cases Gk p.Op (p.Kids.length:Int)<;>rfl
def qqC(n:Int):V5 n=J8 n:=rfl
def qwL(p:ag):AV p=tp p:=by
 unfold AV tp;rw[qqC];have e:(if(p.N !=0)then O (p.N !=1)else O Z)=(if Y (p.N<0)then O T else O (Y (p.N>1))):=by
  by_cases a:p.N=0;.rw[a];rfl
  by_cases b:p.N=1;.rw[b];rfl
  .have:(p.N !=0)=true:=by simpa using a
   have d:(p.N !=1)=true:=by simpa using b
   rw[l7 this,d];by_cases c:p.N<0;.rw[l7 (vaY c)]
   .rw[hG (by simpa using c),vaY (by omega:p.N>1)]
 rw[e]
def qwM(p:ag):AW p=(wR p).bind λr=>if(!r)then O (.inl ())else O (.inr ()):=by
 unfold AW Ij Ik Il Im wR;simp only[Yz,eJ,n7,tj,uD,XY];by_cases b:p.Op=3;.cases a:bX p.Name<;>cases(p.Name==([118]:aa))<;>simp[b,a]
 by_cases c:p.Op=4;.cases a:bX p.Name<;>cases(p.Name==([116,97,103]:aa))<;>cases(p.Name==([118,97,108]:aa))<;>simp[c,a]
 by_cases d:p.Op=5;.cases a:bX p.Name<;>simp[d,a]
 .simp[b,c,d]
def qwN(p:ag):Io p=DA p:=rfl
def qwJ(p:ag):AT p=O (Y (p.Op<1)||decide (p.Op>18)):=by unfold AT;cases Y (p.Op<1)<;>rfl
def qc7(p:ag):∃b,wR p=O b:=by let⟨b,e,_⟩:=NW p;exact⟨b,e⟩
def qjP(p:ag):Mu p=BK p:=by
 let⟨l,m,d,e⟩:=qjH p.Op p.Kids.length;let⟨c,b⟩:=qc7 p;have a:=qwM p;rw[b]at a;unfold Mu BK;rw[qwJ,qvC,d];simp only[eJ];rw[qvD,qwK p l m e,qwL,a,b,qwN];simp only[eJ];cases(Y (p.Op<1)||decide (p.Op>18))
 .cases Sz p;.cases c<;>rfl
  .rfl
 .rfl
def qb1(r s:Int):K×Int:=if(r !=0)then(Z,r)else(T,s)
def qf9(R:ag->Q Int)(l:V ag)(z:l.length<9223372036854775808)(y:∀x∈l,∃r,R x=O r/\∀s,WO eE x s=O (qb1 r s)):fY (Du R l (l.length:Int) 0) (λo=>o.elim (λr=>(r !=0)=T/\∀s,Hl eE l s=O (Z,r)) (λ_=>∀s,Hl eE l s=O (T,s))):=by
 unfold Du;have m:∀k i,k+i=l.length->fY (loop (λp=>lm R l (l.length:Int) p) (i:Int)) (λo=>o.elim (λr=>(r !=0)=T/\∀s,Hl eE (l.drop i) s=O (Z,r)) (λ_=>∀s,Hl eE (l.drop i) s=O (T,s))):=by
  intro k;induction k with
  | zero =>
   intro i h;have h:i=l.length:=by omega
   subst h;have d:(λp=>lm R l (l.length:Int) p) ((l.length:Nat):Int)=O (.inr (.inr ())):=by show lm R l (l.length:Int) (l.length:Int)=_;unfold lm;rw[hG (by simp)]
   rw[gL d];exact ak (λs=>by rw[vbU,Hl])
  | succ k ihk =>
   intro i h;have a:i<l.length:=by omega
   let⟨r,e,w⟩:=y _ (mx a);rw[jh];have d:lm R l (l.length:Int) (i:Int)=if(r !=0)then O (.inr (.inl r))else O (.inl (dc ((i:Int)+1))):=by unfold lm;rw[l7 (vaY (by omega)),aC _ i a];simp only[eJ];rw[e];rfl
   rw[d];have q:=vaN a;by_cases c:(r !=0)=T;.rw[l7 c];refine ak ⟨c,λs=>?_⟩;rw[q,Hl,w s];unfold qb1;rw[l7 c];rfl
   .rw[hG c];simp only;rw[ch (by omega) (by omega),show((i:Int)+1)=((i+1:Nat):Int) by omega];have t:∀s,Hl eE (l.drop i) s=Hl eE (l.drop (i+1)) s:=λs=>by rw[q,Hl,w s];unfold qb1;rw[hG c];rfl
    refine(ihk (i+1) (by omega)).mono λo b=>?_;cases o with|inl r'=>have b:(r' !=0)=T/\∀s,Hl eE (l.drop (i+1)) s=O (Z,r'):=b;exact⟨b.1,λs=>by rw[t];exact b.2 s⟩|inr _=>have b:∀s,Hl eE (l.drop (i+1)) s=O (T,s):=b;exact λs=>by rw[t];exact b s
 exact m l.length 0 (by omega)
def qdr(p:ag)(h:nP p<=cz):fY (UP p) (λr=>∀s,WO eE p s=O (qb1 r s)):=by
 refine Hf (F:=NL) nP (λx=>nP x<=cz) (λx r=>∀s,WO eE x s=O (qb1 r s)) (λR x z A=>?_) p h (kj h);show fY (BJ (λt=>R t) x) _;have B:=Gl x;unfold cz at z;let⟨c,d,_⟩:=qdL x;unfold BJ;rw[d];simp only[eJ];have i:∀s,eE s x=O (if(c !=0)then(Z,c)else(T,s)):=λs=>by unfold eE;rw[qjP,d];simp only[eJ];split<;>rfl
 by_cases a:(c !=0)=T;.rw[l7 a];refine ak λs=>?_;rw[qaE,i,l7 a];unfold qb1;rw[l7 a];rfl
 .rw[hG a];have m:∀s,WO eE x s=Hl eE x.Kids s:=λs=>by rw[qaE,i,hG a];simp only[eJ];rw[l7 (by omega)]
  refine aA (qf9 (λt=>R t) x.Kids (by omega) (λy q=>A _ (B7 q) (by have:=B7 q;unfold cz;omega))) λo e=>?_;cases o with
  |inl r=>obtain⟨w,b⟩:(r !=0)=T/\∀s,Hl eE x.Kids s=O (Z,r):=e;exact ak λs=>by rw[m,b];unfold qb1;rw[l7 w]
  |inr _=>have b:∀s,Hl eE x.Kids s=O (T,s):=e;exact ak λs=>by rw[m,b];rfl
def qg6(p:ag):xm p=LR p:=by have h:Ic=Kl:=rfl;unfold xm LR;rw[h]
def qgX(p:ag):xl p=LP p:=by have h:Ib=Kj:=rfl;unfold xl LP;rw[h]
def qgM(p:ag)(a:nP p<=cz):xk p=Bx p:=by
 let⟨r,e,c⟩:=qdr p a;unfold xk Bx;rw[qg6,qbW p a,qgX,qbc p a,e,c 0];simp only[eJ];split;.rfl
 split;.rfl
 unfold qb1;by_cases b:(r !=0)=T;.rw[l7 b];rfl
 .rw[hG b];have:r=0:=by simpa using b
  rw[this];rfl
theorem mw(p:ag):dB (af p)=1+(p.Name.length+1+(1+(bL (p.Kids.map af)+1+0))):=by rw[cH];simp only[dB,pm,sl]
def Sp{α:Type}(c:α->List U)(h:∀x,1<=dB (c x)):∀(l:List α),l.length<=bL (l.map c)
 |[]=>by simp
 |x::l=>by have:=Sp c h l;have:=h x;simp only[ox,bL,p6];omega
def qjN(t:ai):1<=dB (aj t):=by rw[Lk];omega
def XZ(e:ah):(⟨e.Op,e.Name,e.N,e.Kids,e.Params,e.Alts,e.Types⟩:ah)=e:=by let⟨o,n,k,ks,b,a,ts⟩:=e;rfl
mutual
def nE:ah->Nat|⟨_,_,_,ks,ps,as1,ts⟩=>Ny ks+K7 as1+ps.length+ts.length+1
def nA:bH->Nat|⟨_,ns,b⟩=>ns.length+nE b+1
def Ny:List ah->Nat|[]=>0|e::l=>nE e+Ny l
def K7:List bH->Nat|[]=>0|a::l=>nA a+K7 l
end
def Gs(e:ah):nE e=Ny e.Kids+K7 e.Alts+e.Params.length+e.Types.length+1:=by let⟨o,n,k,ks,b,a,ts⟩:=e;rw[nE];rfl
def VV(a:bH):nA a=a.Names.length+nE a.Body+1:=by let⟨c,d,b⟩:=a;rw[nA];rfl
def RU(e:ah):1<=nE e:=by rw[Gs];omega
def Ut:∀{l:List ah}{x:ah},x∈l->nE x<=Ny l
 | y :: l,x,h => by
  rw[Ny];rcases x8.1 h with rfl|h;.omega
  .have:=Ut h;omega
def P7:∀{l:List bH}{x:bH},x∈l->nA x<=K7 l
 | y :: l,x,h => by
  rw[K7];rcases x8.1 h with rfl|h;.omega
  .have:=P7 h;omega
def P8:∀(l:List ah),l.length<=Ny l
 |[]=>by simp[Ny]
 |p::l=>by rw[Ny];have:=P8 l;have:=RU p;simp only[p6];omega
def Mi:∀(l:List bH),l.length<=K7 l
 |[]=>by simp[K7]
 |p::l=>by rw[K7];have:=Mi l;have:=VV p;simp only[p6];omega
def xU{e x:ah}(h:x∈e.Kids):nE x<nE e:=by rw[Gs e];have:=Ut h;omega
def LW{e:ah}{x:bH}(h:x∈e.Alts):nE x.Body<nE e:=by rw[Gs e];have:=P7 h;have:=VV x;omega
def Gm(e:ah):e.Kids.length<nE e:=by rw[Gs];have:=P8 e.Kids;omega
def tA(e:ah):e.Alts.length<nE e:=by rw[Gs];have:=Mi e.Alts;omega
def pA(e:ah):e.Params.length<nE e:=by rw[Gs];omega
def I0(e:ah):e.Types.length<nE e:=by rw[Gs];omega
def LX{e:ah}{x:bH}(h:x∈e.Alts):x.Names.length<nE e:=by rw[Gs];have:=P7 h;have:=VV x;omega
def bp(e:ah):V ah:=e.Kids++e.Alts.map (·.Body)
def L1{e x:ah}(h:x∈bp e):nE x<nE e:=by
 rcases vz.1 h with h|h;.exact xU h
 .obtain⟨a,b,rfl⟩:=l9.1 h;exact LW b
def qaA:∀(l:List ah)(m:List bH),((l++m.map (·.Body)).map nE).sum<=Ny l+K7 m
 |[],[]=>by simp
 |[],a::m=>by have:=qaA [] m;have:=VV a;simp only[Ny,K7,va9,ox,List.sum_cons]at *;omega
 |x::l,m=>by have:=qaA l m;simp only[Ny,vaT,ox,List.sum_cons]at *;omega
def DI(e:ah):(bp e).length<nE e:=by rw[Gs];have:=P8 e.Kids;have:=Mi e.Alts;simp only[bp,oo,va0];omega
def qiE{Q:ah->Prop}(h:∀e,(∀x∈bp e,Q x)->Q e):∀e,Q e:=by
 have a:∀(n:Nat)(e:ah),nE e<=n->Q e:=by intro n;induction n with|zero=>intro e b;have:=RU e;omega|succ n ih=>exact λe b=>h e λx c=>ih x (by have:=L1 c;omega)
 exact λe=>a _ e (l8 _)
mutual
def df:ah->List ah|⟨o,n,k,ks,ps,as1,ts⟩=>⟨o,n,k,ks,ps,as1,ts⟩::(V4 ks++V3 as1)
def qdM:bH->List ah|⟨_,_,b⟩=>df b
def V4:List ah->List ah|[]=>[]|e::l=>df e++V4 l
def V3:List bH->List ah|[]=>[]|a::l=>qdM a++V3 l
end
def Td:∀(l:List ah),V4 l=l.flatMap df
 |[]=>by rw[V4];rfl
 |e::l=>by rw[V4,Td l];rfl
def qgA(a:bH):qdM a=df a.Body:=by let⟨c,d,b⟩:=a;rw[qdM];rfl
def Tc:∀(l:List bH),V3 l=(l.map (·.Body)).flatMap df
 |[]=>by rw[V3];rfl
 |a::l=>by rw[V3,Tc l,qgA];rfl
def xh(e:ah):df e=e::(bp e).flatMap df:=by let⟨o,n,k,ks,b,a,ts⟩:=e;rw[df,Td,Tc,bp,vcX];rfl
def qe5:∀(e:ah),(df e).length<=nE e:=by
 refine qiE λe h=>?_;rw[xh,p6,vcY];have i:=qaA e.Kids e.Alts;have m:((bp e).map λx=>(df x).length).sum<=((bp e).map nE).sum:=by
  have:∀(l:V ah),(∀x∈l,(df x).length<=nE x)->(l.map λx=>(df x).length).sum<=(l.map nE).sum:=by intro l;induction l with|nil=>intro _;simp|cons x l ihl=>intro c;have a:=c x (by simp);have b:=ihl λy d=>c y (by simp[d]);simp only[ox,List.sum_cons];omega
  exact this _ h
 have o:=Gs e;unfold bp at *;omega
def qj8(e:ah):e∈df e:=by rw[xh];simp
mutual
def dE:ah->Nat|⟨_,_,_,ks,_,as1,_⟩=>max (L6 ks) (qoV as1)+1
def dA:bH->Nat|⟨_,_,b⟩=>dE b
def L6:List ah->Nat|[]=>0|e::l=>max (dE e) (L6 l)
def qoV:List bH->Nat|[]=>0|a::l=>max (dA a) (qoV l)
end
def qqr(a:bH):dA a=dE a.Body:=by let⟨c,d,b⟩:=a;rw[dA];rfl
def qqs(e:ah):dE e=max (L6 e.Kids) (qoV e.Alts)+1:=by let⟨o,n,k,ks,b,a,ts⟩:=e;rw[dE];rfl
def HN:∀(a b:List ah),L6 (a++b)=max (L6 a) (L6 b)
 |[],b=>by simp[L6]
 |x::a,b=>by rw[vaT,L6,L6,HN a b];omega
def qif:∀(l:List bH),qoV l=L6 (l.map (·.Body))
 |[]=>by rw[qoV,vbt,L6]
 |a::l=>by rw[qoV,ox,L6,qqr,qif l]
def Rt(e:ah):dE e=L6 (bp e)+1:=by rw[qqs,bp,HN,qif]
def qig{n:Nat}:∀{l:List ah},(∀x∈l,dE x<=n)->L6 l<=n
 |[],_=>by simp[L6]
 |x::l,h=>by have a:=h x (by simp);have b:=qig (l:=l) λy c=>h y (by simp[c]);rw[L6];omega
def qms:∀(e:ah),dE e<=nE e:=by
 refine qiE λe b=>?_;rw[Rt];have:L6 (bp e)<=nE e - 1:=qig λx a=>by have:=b x a;have:=L1 a;omega
 have:=RU e;omega
def PW{X o:Type}{F:(X->Q o)->X->Q o}(μ:X->Nat)(m:X->Prop)(s:X->Q o)(h:∀(R:X->Q o) x,m x->(∀y,μ y<μ x->m y->R y=s y)->F R x=s x)(x:X)(b:m x)(d:μ x<qhA):sQ F x=s x:=by
 have c:∀n x,μ x<n->m x->qmA F n x=s x:=by intro n;induction n with|zero=>intro x b;omega|succ n ih=>intro x b e;exact h _ x e λy i a=>ih y (by omega) a
 exact c _ x d b
def J4{α S:Type}(F:S->α->Q (K×S)):List α->S->Q (K×S)|[],s=>O (T,s)|x::l,s=>(F s x).bind λr=>match r.1 with|false=>O (Z,r.2)|true=>J4 F l r.2
def Oh{α S:Type}(F:S->α->Q (K×S)):∀(l m:List α)(s:S),J4 F (l++m) s=(J4 F l s).bind λr=>match r.1 with
  |false=>O (Z,r.2)
  |true=>J4 F m r.2
 |[],m,s=>rfl
 | x :: l,m,s => by rw[vaT,J4,J4];cases h:F s x with|none=>rfl|some r=>let⟨b,a⟩:=r;cases b with|false=>rfl|true=>exact Oh F l m a
def X6{α S:Type}{F b:S->α->Q (K×S)}:∀{l:List α},(∀x∈l,∀s,F s x=b s x)->∀s,J4 F l s=J4 b l s
 |[],_,s=>rfl
 |x::l,h,s=>by rw[J4,J4,h x (by simp)];congr 1;funext r;rw[X6 (l:=l) λy a=>h y (by simp[a])]
def qeS{α β S:Type}(F:S->β->Q (K×S))(g:α->β):∀(l:List α)(s:S),J4 F (l.map g) s=J4 (λs x=>F s (g x)) l s
 |[],s=>rfl
 |x::l,s=>by rw[ox,J4,J4];congr 1;funext r;rw[qeS F g l]
def qbs{α β S:Type}(F:S->β->Q (K×S))(g:α->List β):∀(l:List α)(s:S),J4 F (l.flatMap g) s=J4 (λs x=>J4 F (g x) s) l s
 |[],s=>rfl
 |x::l,s=>by rw[vcA,Oh,J4];congr 1;funext r;rw[qbs F g l]
def qeZ{α S:Type}(l:V α)(t:l.length<9223372036854775808)(a:Int×S->Q ((Int×S)⊕(S⊕S)))(F:S->α->Q (K×S))
  (e:∀(i:Nat)(h:i<l.length) s,a ((i:Int),s)=(F s l[i]).bind λr=>match r.1 with|false=>O (.inr (.inl r.2))|true=>O (.inl (dc ((i:Int)+1),r.2)))
  (c:∀s,a ((l.length:Int),s)=O (.inr (.inr s))) (s:S):loop a (0,s)=(J4 F l s).bind λr=>match r.1 with|false=>O (.inl r.2)|true=>O (.inr r.2):=by
 have m:∀(k i:Nat)(s:S),i+k=l.length->loop a ((i:Int),s)=(J4 F (l.drop i) s).bind λr=>match r.1 with|false=>O (.inl r.2)|true=>O (.inr r.2):=by
  intro k;induction k with
  |zero=>
   intro i s o;have:i=l.length:=by omega
   subst this;rw[jh,c,vbU];rfl
  | succ k ih =>
   intro i s o;have d:i<l.length:=by omega
   rw[jh,e i d,vaN d,J4];cases q:F s l[i]with|none=>rfl| some r =>let⟨b,p⟩:=r;cases b with|false=>rfl|true=>have:=ih (i+1) p (by omega);simp only[eJ];rw[ch (by omega) (by omega),show((i:Int)+1)=((i+1:Nat):Int) by omega];exact this
 have:=m l.length 0 s (by omega)
 exact this
def qfu{S:Type}{F:(ah×S->Q (K×S))->ah×S->Q (K×S)}(a:S->ah->Q (K×S))
  (h:∀(R:ah×S->Q (K×S)) e s,nE e<=cz->F R (e,s)=(a s e).bind λr=>match r.1 with
   |false=>O (Z,r.2)
   |true=>J4 (λs x=>R (x,s)) (bp e) r.2) (e:ah) (s:S) (c:nE e<=cz):sQ F (e,s)=J4 a (df e) s:=by
 refine PW (λx=>nE x.1) (λx=>nE x.1<=cz) (λx=>J4 a (df x.1) x.2) (λR x d i=>?_) (e,s) c (kj c)
 let⟨e,s⟩:=x
 show F R (e,s)=J4 a (df e) s
 rw[h R e s d,xh,J4]
 congr 1
 funext r
 cases r.1 with
 |false=>rfl
 |true=>
  rw[qbs]
  refine X6 (λx b s=>?_) r.2
  have:=L1 b
  exact i (x,s) this (m0 (vbB this) d)
def YS{S:Type}(R:S->ah->Q (K×S))(e:ah)(H:nE e<=cz)(s:S)(d m:Int×S->Q ((Int×S)⊕(S⊕S))){t w:S⊕S->Q (K×S)}
  (E:∀(i:Nat)(h:i<e.Kids.length) s,d ((i:Int),s)=(R s e.Kids[i]).bind λr=>if(!r.1)then O (.inr (.inl r.2))else O (.inl (dc ((i:Int)+1),r.2))) (p:∀s,d ((e.Kids.length:Int),s)=O (.inr (.inr s)))
  (F:∀(i:Nat)(h:i<e.Alts.length) s,m ((i:Int),s)=(R s e.Alts[i].Body).bind λr=>if(!r.1)then O (.inr (.inl r.2))else O (.inl (dc ((i:Int)+1),r.2))) (q:∀s,m ((e.Alts.length:Int),s)=O (.inr (.inr s)))
  (y:∀o,t (.inl o)=O (Z,o)) (z:∀o,t (.inr o)=(loop m (0,o)).bind w) (A:∀o,w (.inl o)=O (Z,o)) (B:∀o,w (.inr o)=O (T,o)):
  (loop d (0,s)).bind t=J4 R (bp e) s:=by
 have L:=Gm e
 have P:=tA e
 unfold cz at H
 rw[qeZ e.Kids (by omega) d R (λi h s=>by rw[E i h s];congr 1;funext r;cases r.1<;>rfl) p s,bp,Oh]
 cases h:J4 R e.Kids s with
 |none=>rfl
 | some r =>
  let⟨b,x⟩:=r
  cases b with
  |false=>exact y x
  | true =>
   simp only[eJ]
   rw[z,qeZ e.Alts (by omega) m (λs a=>R s a.Body) (λi h s=>by rw[F i h s];congr 1;funext r;cases r.1<;>rfl) q x,qeS]
   cases h:J4 (λs a=>R s a.Body) e.Alts x with
   |none=>rfl
   |some r=>
    let⟨b,c⟩:=r
    cases b with
    |false=>exact A c
    |true=>exact B c
def qrj(p:ag):Prop:=(1<=p.Op/\p.Op<=18)/\Gk p.Op (p.Kids.length:Int)=T/\(p.Op=1->qnY p.N)
mutual
def qjj:ag->Prop|⟨o,n,k,ks⟩=>qrj ⟨o,n,k,ks⟩/\qmI ks
def qmI:List ag->Prop|[]=>True|p::ps=>qjj p/\qmI ps
end
def Mk(p:ag):qjj p↔qrj p/\qmI p.Kids:=by let⟨o,n,k,ks⟩:=p;rw[qjj];exact Iff.rfl
def Z2:∀(l:List ag),qmI l↔∀p∈l,qjj p
 |[]=>by simp[qmI]
 |p::l=>by rw[qmI,Z2 l];simp
def qgz(p:ag):fY (BK p) (λr=>(r !=0)=Z->qrj p):=by
 unfold BK;rw[qvC];simp only[eJ];rw[qvD];simp only[eJ];refine aG (λ_=>ak (λh=>by cases h)) λd=>?_;have a:(1<=p.Op/\p.Op<=18)/\Gk p.Op (p.Kids.length:Int)=true:=by simp only[Sz,vbh,oy,vdc,vcd,vcQ,Bool.not_eq_false']at d;exact⟨by omega,d.2.2⟩
 have i:fY (tp p) (λo=>o=Z->p.Op=1->qnY p.N):=by
  unfold tp;refine aG (λ_=>?_) λh=>?_
  .unfold J8;refine qkh (aG (λq=>ak ?_) λ_=>ak ?_)
   .refine aG (λ_=>ak λh=>by cases h) λs=>?_;have w:qnY p.N:=⟨by simpa using q,by simpa using s⟩
    repeat' first|exact ak (λ_ _=>w)|refine aG (λ_=>?_) (λ_=>?_)
   .exact aG (λ_=>ak λh=>by cases h) (λh=>absurd rfl h)
  .repeat' first|exact ak (λ_ e=>absurd (by simp[e]) h)|refine aG (λ_=>?_) (λ_=>?_)
 refine aA i λo t=>aG (λ_=>ak (λh=>by cases h)) λc=>aA (NW p) λ_ _=>aG (λ_=>ak (λh=>by cases h)) λ_=>aA (R:=λ_=>True) ?_ λ_ _=>?_
 .unfold DA;refine aG (λh=>?_) λ_=>ak hV;have m:p.Op=8:=by simpa using h
  have b:=a.2;unfold Gk at b;rw[m]at b;refine eZ (aC p.Kids 0 ?_) (ak hV);simp at b;omega
 .exact aG (λ_=>ak (λh=>by cases h)) λ_=>ak λ_=>⟨a.1,a.2,t (by simpa using c)⟩
def qf8(p:ag)(d:nP p<=cz):fY (UP p) (λr=>(r !=0)=Z->qjj p):=by
 refine Hf (F:=NL) nP (λx=>nP x<=cz) (λx r=>(r !=0)=Z->qjj x) (λR x m q=>?_) p d (kj d);show fY (BJ (λt=>R t) x) _;unfold BJ Du;have s:=Gl x;refine aA (qgz x) λr c=>aG (λh=>ak (λa=>by rw[h]at a;cases a)) λh=>aA (Mz x.Kids (by unfold cz at m;omega) _ qjj (λr=>(r !=0)=T) (λi=>rfl) (λy e i=>aA (q _ (B7 e) (by have:=B7 e;omega)) λr c=>aG (λh=>ak h) λh=>ak ⟨rfl,c (by simpa using h)⟩)) λo b=>?_;cases o with
 |inl r=>have b:(r !=0)=true:=b;exact ak λa=>by rw[b]at a;cases a
 |inr _=>exact ak λ_=>(Mk x).2 ⟨c (by simpa using h),(Z2 _).2 b⟩
def qcL(p:ag)(a:nP p<=cz):fY (Bx p) (λr=>(r !=0)=Z->qjj p):=by unfold Bx;exact eZ (qbW p a) (aG (λ_=>ak (λh=>by cases h)) λ_=>eZ (qbc p a) (aG (λ_=>ak (λh=>by cases h)) λ_=>aA (qf8 p a) λ_ h=>ak h))
def qiZ(o:Int):Int:=if o=18 then 1 else if o=17 then 2 else if o=16 then 3 else if o=15 then 4 else if o=14 then 5 else if o=10\/o=11\/o=12\/o=13 then 6 else if o=6\/o=7 then 7 else if o=8 then 8 else if o=9 then 9 else 10
def qoE(o:Int):aa:=if o=18 then za else if o=17 then LO else if o=16 then Hp else if o=15 then Hn else if o=10 then qcE else if o=11 then CY else if o=12 then Tp else if o=13 then Ho else if o=6 then YV else if o=7 then ER else YU
abbrev qjv(t:aa):aa:=lj++(t++jA)
def Ok(a:Int)(x:Int×aa):aa:=if x.1<a then qjv x.2 else x.2
def Gj(a:Int)(l:V (Int×aa))(i:Nat):aa:=((l[i]?).map (Ok a)).getD []
def qdN(n:Int):aa:=if n<0 then qjv (Lib.itoa n)else Lib.itoa n
def Xj(l:V aa):aa:=qjv (Lib.join l dI)
def Ud(o:Int):Int×Int:=if o=17 then(3,2)else if qiZ o=6 then(7,7)else(qiZ o,qiZ o+1)
mutual
def NI:ag->aa|⟨o,n,k,ks⟩=>if o=1 then qdN k else if o=2 then(if k=1 then I2 else UF)else if o=3 then n else if o=4 then n++Xj ((qmb ks).map (·.2))else if o=5 then Ts++(n++Xj ((qmb ks).map (·.2))) else if o=14 then Tn++Gj 5 (qmb ks) 0 else if o=9 then ER++Gj 9 (qmb ks) 0 else Gj (Ud o).1 (qmb ks) 0++(lM++(qoE o++(lM++Gj (Ud o).2 (qmb ks) 1)))
def qmb:List ag->List (Int×aa)|[]=>[]|p::l=>(qiZ p.Op,NI p)::qmb l
end
abbrev WJ(p:ag):Int×aa:=(qiZ p.Op,NI p)
def qfs:∀(l:List ag),qmb l=l.map WJ
 |[]=>rfl
 |p::l=>by rw[qmb,qfs l];rfl
def qei(p:ag):NI p=if p.Op=1 then qdN p.N else if p.Op=2 then(if p.N=1 then I2 else UF)else if p.Op=3 then p.Name else if p.Op=4 then p.Name++Xj (p.Kids.map NI)else if p.Op=5 then Ts++(p.Name++Xj (p.Kids.map NI))
  else if p.Op=14 then Tn++Gj 5 (p.Kids.map WJ) 0 else if p.Op=9 then ER++Gj 9 (p.Kids.map WJ) 0 else Gj (Ud p.Op).1 (p.Kids.map WJ) 0++(lM++(qoE p.Op++(lM++Gj (Ud p.Op).2 (p.Kids.map WJ) 1))):=by
 let⟨o,n,k,ks⟩:=p
 rw[NI,qfs,vb4]
 rfl
def VD(l:Int)(x:Int×aa):(Ok l x).length<=x.2.length+2:=by
 unfold Ok;split;.simp[qjv,lj,jA]
 .omega
def qbD(l:V aa):(Lib.join l dI).length<=(l.map λs=>s.length+2).sum:=by
 cases l with
 |nil=>simp[Lib.join_nil]
 | cons x r =>
  rw[Lib.join_cons,oo,Lib.joinTail_length];have:∀r:V aa,(r.map λs=>s.length+2).sum=2 * r.length+Lib.lens r:=by
   intro r;induction r with
   |nil=>rfl
   |cons y r ih=>
    rw[ox,List.sum_cons,ih];show _=_+(y.length+Lib.lens r)
    simp only[p6];omega
  have h:=this r;simp only[ox,List.sum_cons,show dI.length=2 from rfl];omega
def ql1(o:Int):(qoE o).length<=3:=by unfold qoE;repeat' first|decide|split
def qbA(n:Int)(h:qnY n):(qdN n).length<=23:=by
 unfold qdN;have:=qmB h;split;.simp[qjv,lj,jA];omega
 .omega
def qb2(a b:Int)(l:V (Int×aa)):(Gj a l 0).length+(Gj b l 1).length<=(l.map λx=>x.2.length+2).sum:=by
 unfold Gj;rcases l with _|⟨x,_|⟨y,r⟩⟩;.simp
 .have:=VD a x;simp;omega
 .have:=VD a x;have:=VD b y;simp only[List.getElem?_cons_zero,List.getElem?_cons_succ,or,Option.getD_some,ox,List.sum_cons];omega
def qe7(a:Int)(l:V (Int×aa)):(Gj a l 0).length<=(l.map λx=>x.2.length+2).sum:=by have:=qb2 a 0 l;omega
mutual
def qaC:∀(p:ag),qjj p->(NI p).length+8<=40 * dB (af p)
 | ⟨o,n,k,ks⟩,h => by
  have i:=qaB ks ((Mk _).1 h).2;have t:=((Mk _).1 h).1;have y:dB (af ⟨o,n,k,ks⟩)=1+(n.length+1+(1+(bL (ks.map af)+1+0))):=mw ⟨o,n,k,ks⟩
  have e:NI ⟨o,n,k,ks⟩=if o=1 then qdN k else if o=2 then(if k=1 then I2 else UF)else if o=3 then n else if o=4 then n++Xj (ks.map NI)else if o=5 then Ts++(n++Xj (ks.map NI))
    else if o=14 then Tn++Gj 5 (ks.map WJ) 0 else if o=9 then ER++Gj 9 (ks.map WJ) 0 else Gj (Ud o).1 (ks.map WJ) 0++(lM++(qoE o++(lM++Gj (Ud o).2 (ks.map WJ) 1))):=qei ⟨o,n,k,ks⟩
  rw[e];have d:=qbD (ks.map NI);rw[vb4]at d;have a:=qb2 (Ud o).1 (Ud o).2 (ks.map WJ);have b:=qe7 5 (ks.map WJ);have c:=qe7 9 (ks.map WJ);rw[vb4]at a b c;have m:((λx:Int×aa=>x.2.length+2)∘WJ)=λp=>(NI p).length+2:=rfl;have q:((λs:aa=>s.length+2)∘NI)=λp=>(NI p).length+2:=rfl;rw[m]at a b c;rw[q]at d;have i:(ks.map λp=>(NI p).length+2).sum<=40 * bL (ks.map af):=i;have w:=ql1 o;split;.rename_i r;have:=qbA k (t.2.2 r);omega
  split;.split<;>simp only[I2,UF,p6,List.length_nil]<;>omega
  split;.omega
  split;.simp only[Xj,qjv,oo,show lj.length=1 from rfl,show jA.length=1 from rfl];omega
  split;.simp only[Xj,qjv,oo,show lj.length=1 from rfl,show jA.length=1 from rfl,show Ts.length=1 from rfl];omega
  split;.simp only[oo,show Tn.length=1 from rfl];omega
  split;.simp only[oo,show ER.length=1 from rfl];omega
  .simp only[oo,show lM.length=1 from rfl];omega
def qaB:∀(l:List ag),qmI l->(l.map (λp=>(NI p).length+2)).sum<=40 * bL (l.map af)
 |[],_=>by simp
 |p::l,h=>by rw[qmI]at h;have a:=qaC p h.1;have b:=qaB l h.2;simp only[ox,List.sum_cons,bL];omega
end
def qbB{l:V aa}{s:aa}(a:l.length<=1073741824)(b:(Lib.join l s).length<=1073741824):Yb l s=O (Lib.join l s):=by unfold Yb;rw[l7 ⟨a,b⟩]
def Yc:∀(l:V aa),Lib.join l []=l.flatten
 |[]=>rfl
 |x::r=>by rw[Lib.join_cons];unfold Lib.joinTail;simp
def tJ{l:V aa}(a:l.length<=1073741824)(b:l.flatten.length<=1073741824):eC l=O l.flatten:=by unfold eC;rw[qbB a (by rw[Yc];exact b),Yc];rfl
def qhZ(o:Int):K:=o==6||o==7||o==8||o==10||o==11||o==12||o==13||o==15||o==16||o==17||o==18
def qis(o:Int)(h:1<=o/\o<=18):uU o=O (if qhZ o then⟨qiZ o,(Ud o).1,(Ud o).2,qoE o⟩else⟨0,0,0,[]⟩,qhZ o):=by
 have:o=1\/o=2\/o=3\/o=4\/o=5\/o=6\/o=7\/o=8\/o=9\/o=10\/o=11\/o=12\/o=13\/o=14\/o=15\/o=16\/o=17\/o=18:=by omega
 rcases this with rfl|rfl|rfl|rfl|rfl|rfl|rfl|rfl|rfl|rfl|rfl|rfl|rfl|rfl|rfl|rfl|rfl|rfl<;>rfl
def qiR(p:ag)(h:1<=p.Op/\p.Op<=18):Ck p=O (qiZ p.Op):=by
 let⟨o,n,k,ks⟩:=p;have:o=1\/o=2\/o=3\/o=4\/o=5\/o=6\/o=7\/o=8\/o=9\/o=10\/o=11\/o=12\/o=13\/o=14\/o=15\/o=16\/o=17\/o=18:=by have h:1<=o/\o<=18:=h;omega
 rcases this with rfl|rfl|rfl|rfl|rfl|rfl|rfl|rfl|rfl|rfl|rfl|rfl|rfl|rfl|rfl|rfl|rfl|rfl<;>rfl
def qe0(o:Int):1<=qiZ o:=by unfold qiZ;repeat' first|omega|split
def qlo(p:ag):Ok 1 (WJ p)=NI p:=by unfold Ok;rw[hG (by have:=qe0 p.Op;simp only[WJ];omega)]
abbrev qmQ(p:ag):Prop:=qjj p/\dB (af p)<=16777216
def ql4{p x:ag}(h:qmQ p)(a:x∈p.Kids):qmQ x:=by refine⟨(Z2 _).1 ((Mk p).1 h.1).2 x a,?_⟩;have b:=mw p;have c:=GF (l9.2 ⟨x,a,rfl⟩:af x∈p.Kids.map af);have:=h.2;omega
def ql5{p:ag}(h:qmQ p):(NI p).length<=671088640:=by have:=qaC p h.1;have:=h.2;omega
def UC{p:ag}(h:qmQ p):(Lib.join (p.Kids.map NI) dI).length<=671088640/\p.Kids.length<=16777216:=by have a:=qbD (p.Kids.map NI);rw[vb4]at a;have b:(p.Kids.map λp=>(NI p).length+2).sum<=_:=qaB p.Kids ((Mk p).1 h.1).2;have a:(Lib.join (p.Kids.map NI) dI).length<=(p.Kids.map λp=>(NI p).length+2).sum:=a;have c:=mw p;have d:=h.2;have e:=qmD p.Kids;omega
def qn1{p:ag}(h:qrj p)(d:qhZ p.Op=T):∃a b,p.Kids=[a,b]:=by
 have c:=h.2.1;have:p.Op=6\/p.Op=7\/p.Op=8\/p.Op=10\/p.Op=11\/p.Op=12\/p.Op=13\/p.Op=15\/p.Op=16\/p.Op=17\/p.Op=18:=by simpa[qhZ,or_assoc]using d
 unfold Gk at c;rw[hG (by omega),hG (by omega),hG (by omega)]at c;have e:p.Kids.length=2:=by
  have:(p.Kids.length:Int)=2:=by simpa using c
  omega
 match h:p.Kids,e with|[a,b],_=>exact⟨a,b,rfl⟩
def qiI{p:ag}(h:qrj p)(c:p.Op=9\/p.Op=14):∃a,p.Kids=[a]:=by
 have b:=h.2.1;unfold Gk at b;rw[hG (by omega),hG (by omega),l7 c]at b;have d:p.Kids.length=1:=by
  have:(p.Kids.length:Int)=1:=by simpa using b
  omega
 match h:p.Kids,d with|[a],_=>exact⟨a,rfl⟩
def qlE{o:Int}(h:1<=o/\o<=18)(a:qhZ o=Z):o=1\/o=2\/o=3\/o=4\/o=5\/o=14\/o=9:=by
 have:¬(o=6\/o=7\/o=8\/o=10\/o=11\/o=12\/o=13\/o=15\/o=16\/o=17\/o=18):=λh=>by
  have:qhZ o=true:=by simpa[qhZ,or_assoc]using h
  rw[this]at a;cases a
 omega
def qkW{o:Int}(a:qhZ o=T):o≠1/\o≠2/\o≠3/\o≠4/\o≠5/\o≠14/\o≠9:=by
 have:o=6\/o=7\/o=8\/o=10\/o=11\/o=12\/o=13\/o=15\/o=16\/o=17\/o=18:=by simpa[qhZ,or_assoc]using a
 omega
def qmc{p a b:ag}(q:qhZ p.Op=T)(r:p.Kids=[a,b]):NI p=Ok (Ud p.Op).1 (WJ a)++(lM++(qoE p.Op++(lM++Ok (Ud p.Op).2 (WJ b)))):=by let⟨c,d,e,h,i,m,o⟩:=qkW q;rw[qei,hG c,hG d,hG e,hG h,hG i,hG m,hG o,r];rfl
def qb9(R:ag->Int->Q aa)(l:V ag)(m:l.length<=16777216)(e:∀x∈l,R x 1=O (NI x))(h:(Lib.join (l.map NI) dI).length<=671088640):nQ R l=O (Xj (l.map NI)):=by
 unfold nQ;have d:sY R l (l.length:Int) ([]:V aa) 0=O (l.map NI):=by
  unfold sY;have b:=dw l.length (λc:V aa×Int=>ik R l (l.length:Int) c.1 c.2) (λi=>((l.take i).map NI,(i:Int))) (l.map NI) (λi a=>?_) ?_;.rw[<-b];simp
  .simp only[ik];rw[l7 (by simp;omega),aC _ _ a];simp only[eJ];rw[e _ (mx a)];simp only[eJ];rw[gJ (by simp;omega)];simp only[eJ];rw[ch (by omega) (by omega),vas a,va5];rfl
  .simp only[ik];rw[hG (by simp)];simp
 rw[d];simp only[eJ];rw[qbB (by simp;omega) (by omega)];simp only[eJ];rw[tJ (by simp) (by simp[lj,jA];omega)];simp[Xj,qjv]
def qju(p:ag)(l:Int)(h:qmQ p):zw p l=O (Ok l (WJ p)):=by
 have H:∀p:ag,qmQ p->nP p<=16777216:=λp h=>m0 (qbR p) h.2;refine PW (F:=uT) (λx=>2 * nP x.1+if qiZ x.1.Op<x.2 then 1 else 0) (λx=>qmQ x.1) (λx=>O (Ok x.2 (WJ x.1))) (λR x o E=>?_) (p,l) h (by
  have:=H p h;unfold qhA;simp only[];split<;>omega)
 let⟨p,l⟩:=x;show oT (λp s=>R (p,s)) p l=O (Ok l (WJ p));have o:qmQ p:=o;have r:=((Mk p).1 o.1).1;have d:=ql5 o;have t:∀x∈p.Kids,∀l,R (x,l)=O (Ok l (WJ x)):=λx e l=>E (x,l) (by
  have:=B7 e;simp only[];split<;>split<;>omega) (ql4 o e)
 unfold oT;rw[qiR p r.1];simp only[eJ];by_cases i:qiZ p.Op<l
 .rw[l7 (by simpa using i)];have c:=E (p,1) (by
   have:=qe0 p.Op;simp only[];rw[hG (by omega),l7 i];omega) o
  have c:R (p,1)=O (Ok 1 (WJ p)):=c;rw[c,qlo];simp only[eJ];rw[tJ (by simp) (by simp[lj,jA];omega)];simp[Ok,i,qjv]
 rw[hG (by simpa using i),qis _ r.1];simp only[eJ];have y:Ok l (WJ p)=NI p:=by unfold Ok;rw[hG i]
 rw[y];cases w:qhZ p.Op with
 |true=>let⟨a,b,m⟩:=qn1 r w;have B:=qmc w m;rw[l7 rfl,l7 rfl,m,fG];simp only[eJ];have A:=aC [a,b] 1 (by simp);rw[show((1:Nat):Int)=1 from rfl]at A;rw[t a (by rw[m];simp),A];simp only[eJ,List.getElem_cons_succ,List.getElem_cons_zero];rw[t b (by rw[m];simp)];simp only[eJ];rw[B]at d;rw[tJ (by simp) (by simp only[List.flatten_cons,List.flatten_nil,vbR];exact m0 d (by omega)),B];simp
 | false =>
  rw[hG (by simp)];rw[qei]at d ⊢;rcases qlE r.1 w with c|c|c|c|c|c|c
  .rw[l7 (by simp[c]),l7 c];have z:=r.2.2 c;have:=qmB z;unfold qdN;by_cases q:p.N<0;.rw[l7 (by simpa using q),l7 q,Md z];simp only[eJ];rw[tJ (by simp) (by simp[lj,jA];omega)];simp[qjv]
   .rw[hG (by simpa using q),hG q,Md z];rfl
  .rw[hG (by simp[c]),l7 (by simp[c]),hG (by omega),l7 c];by_cases q:p.N=1;.rw[l7 q];unfold gS fN;rw[l7 (by simpa using q)];rfl
   .rw[hG q];unfold gS fN;rw[hG (by simpa using q)];rfl
  .rw[hG (by simp[c]),hG (by simp[c]),l7 (by simp[c]),hG (by omega),hG (by omega),l7 c]
  .rw[hG (by simp[c]),hG (by simp[c]),hG (by simp[c]),l7 (by simp[c]),hG (by omega),hG (by omega),hG (by omega),l7 c];rw[hG (by omega),hG (by omega),hG (by omega),l7 c]at d;rw[qb9 _ _ (UC o).2 (λx e=>by rw[t x e 1,qlo]) (UC o).1];simp only[eJ];rw[tJ (by simp) (by simpa using(m0 d (by omega):_<=1073741824))];simp
  .rw[hG (by simp[c]),hG (by simp[c]),hG (by simp[c]),hG (by simp[c]),l7 (by simp[c]),hG (by omega),hG (by omega),hG (by omega),hG (by omega),l7 c];rw[hG (by omega),hG (by omega),hG (by omega),hG (by omega),l7 c]at d;rw[qb9 _ _ (UC o).2 (λx e=>by rw[t x e 1,qlo]) (UC o).1];simp only[eJ];rw[tJ (by simp) (by simpa using(m0 d (by omega):_<=1073741824))];simp
  .rw[hG (by simp[c]),hG (by simp[c]),hG (by simp[c]),hG (by simp[c]),hG (by simp[c]),l7 (by simp[c]),hG (by omega),hG (by omega),hG (by omega),hG (by omega),hG (by omega),l7 c];rw[hG (by omega),hG (by omega),hG (by omega),hG (by omega),hG (by omega),l7 c]at d;let⟨a,m⟩:=qiI r (.inr c);rw[m]at d ⊢;rw[fG];simp only[eJ];rw[t a (by rw[m];simp)];simp only[eJ];rw[tJ (by simp) (by simpa[Gj]using(m0 d (by omega):_<=1073741824))];simp[Gj]
  .rw[hG (by simp[c]),hG (by simp[c]),hG (by simp[c]),hG (by simp[c]),hG (by simp[c]),hG (by simp[c]),hG (by omega),hG (by omega),hG (by omega),hG (by omega),hG (by omega),hG (by omega),l7 c];rw[hG (by omega),hG (by omega),hG (by omega),hG (by omega),hG (by omega),hG (by omega),l7 c]at d;let⟨a,m⟩:=qiI r (.inl c);rw[m]at d ⊢;rw[fG];simp only[eJ];rw[t a (by rw[m];simp)];simp only[eJ];rw[tJ (by simp) (by simpa[Gj]using(m0 d (by omega):_<=1073741824))];simp[Gj]
def qa2(p:ag):Int:=(Bx p).getD 0
def qev(p:ag)(h:dB (af p)<=16777216):Bx p=O (qa2 p)/\xk p=O (qa2 p)/\(qa2 p=0->qjj p):=by
 have a:nP p<=cz:=m0 (qbR p) (m0 h (by unfold cz;omega));let⟨r,e,c⟩:=qcL p a;have:qa2 p=r:=by unfold qa2;rw[e];rfl
 exact⟨by rw[e,this],by rw[qgM p a,e,this],λb=>c (by rw[<-this,b];rfl)⟩
def Tl(p:ag):aa×Int:=if qa2 p=0 then(NI p,0)else([],qa2 p)
def qqZ(p:ag)(h:dB (af p)<=16777216):yc p=O (Tl p):=by
 let⟨d,b,c⟩:=qev p h;unfold yc Tl;rw[b];simp only[eJ];by_cases a:qa2 p=0;.rw[hG (by simp[a]),l7 a,qju p 1 ⟨c a,h⟩,qlo];rfl
 .rw[l7 (by simpa using a),hG a]
def YP(p:ag)(h:dB (af p)<=16777216):(Tl p).1.length<=40 * dB (af p):=by
 unfold Tl;split;.rename_i a;have:=qaC p ((qev p h).2.2 a);simp only[];omega
 .simp
abbrev Wr:=aa×K
def F0(a:V Wr):Wr:=((a.map (·.1)).flatten,a.any (·.2))
abbrev tW(s:aa):Wr:=(s,Z)
def Rl(w:Wr)(a:V Wr):F0 (w::a)=(w.1++(F0 a).1,w.2||(F0 a).2):=rfl
structure qo7{ε:Type}(enc:aa->List ε):Prop where
 len:∀s,(enc s).length=s.length
 app:∀s t,enc (s++t)=enc s++enc t
def ir(s:aa):V Int:=s.map λc=>(c.toNat:Int)
def oL:qo7 ir:=⟨λs=>by simp[ir],λs t=>by simp[ir]⟩
section
variable{ε β γ:Type}{enc:aa->V ε}
def RS(enc:aa->V ε)(mk:V ε->K->β)(k:V ε)(b:K)(a:V Wr)(o:Q β):Prop:=k.length+(F0 a).1.length<=1073741824->∃d c,o=O (mk d c)/\c=(b||(F0 a).2)/\(c=Z->d=k++enc (F0 a).1)/\d.length<=k.length+(F0 a).1.length
def RK(enc:aa->V ε)(k:V ε)(t:aa)(o:Q (V ε)):Prop:=k.length+t.length<=1073741824->o=O (k++enc t)
variable{mk:V ε->K->β}{mk':V ε->K->γ}{k:V ε}{b:K}{ws:V Wr}{w:Wr}
def RS.cast{a:V Wr}{o:Q β}(h:RS enc mk k b ws o)(e:F0 ws=F0 a):RS enc mk k b a o:=by unfold RS at *;rw[<-e];exact h
def qlY(x:qo7 enc){o:Q β}{f:β->Q γ}(h:RS enc mk k b [w] o)(s:∀m d,RS enc mk' m d ws (f (mk m d))):RS enc mk' k b (w::ws) (o.bind f):=by
 intro i;rw[Rl]at i ⊢;simp only[oo]at i;have r:F0 [w]=w:=by simp[F0]
 unfold RS at h;rw[r]at h;obtain⟨y,a,rfl,A,B,H⟩:=h (by omega);let⟨z,q,E,p,F,L⟩:=s y a (by omega);refine⟨z,q,E,by rw[p,A,vcF],λe=>?_,by simp only[oo];omega⟩;have t:=F e;rw[p]at e;have c:a=false:=by cases a<;>simp_all
 rw[t,B c,x.app,va6]
def qau(a:qo7 enc){o:Q (V ε)}{f:V ε->Q γ}{t:aa}(h:RK enc k t o)(i:∀d,RS enc mk' d b ws (f d)):RS enc mk' k b (tW t::ws) (o.bind f):=by
 intro c;rw[Rl]at c ⊢;simp only[oo]at c;rw[h (by omega)];let⟨p,e,q,r,s,x⟩:=i (k++enc t) (by simp only[oo,a.len];omega);refine⟨p,e,q,by rw[r];simp,λm=>?_,?_⟩;.rw[s m];simp only[a.app,va6]
 .simp only[oo,a.len]at x ⊢;omega
def qcl{α:Type}{o:Q α}{a:α}{f:α->Q γ}(e:o=O a)(h:RS enc mk' k b ws (f a)):RS enc mk' k b ws (o.bind f):=by rw[e];exact h
def Wy(a:qo7 enc):RS enc mk k b [] (O (mk k b)):=λ_=>⟨k,b,rfl,by simp[F0],λ_=>by
 have:=a.len [];have:enc []=[]:=IO this;simp[F0,this],by simp[F0]⟩
def qj0(h:(F0 ws).2=T):RS enc mk k b ws (O (mk k T)):=λ_=>⟨k,T,rfl,by rw[h];simp,(λh=>by cases h),by omega⟩
def qlX{x:K}{o:Q β}(h:RS enc mk k (b||x) ws o):RS enc mk k b (([],x)::ws) o:=by intro a;rw[Rl]at a ⊢;let⟨d,c,e,i,m,p⟩:=h a;exact⟨d,c,e,by rw[i,vcF],m,p⟩
def qj1{c:K}{x y:Q β}(h:c=T->RS enc mk k b ws x)(a:c=Z->RS enc mk k b ws y):RS enc mk k b ws (if c then x else y):=by cases c with|false=>exact a rfl|true=>exact h rfl
def qoy(a:qo7 enc):RK enc k [] (O k):=λ_=>by have:=a.len [];have:enc []=[]:=IO this;rw[this,vbR]
def qmM{t:aa}{o:Q (V ε)}(h:RK enc k t o):RK enc k t (o.bind λr=>O r):=λa=>by rw[h a];rfl
def Xk{i n:Nat}(h:i<n):Y ((i:Int)<(n:Int))=true:=by simp;omega
def Yl(n:Nat):¬Y ((n:Int)<(n:Int))=true:=by simp
end
def Y7(k:V Int)(s:aa):RK ir k s (qfF k s):=λh=>by unfold qfF;rw[l7 h];rfl
def qom{k:V Int}{b:K}{s:aa}(h:k.length+s.length<=1073741824):fS s k b=O ((s.length:Int),(),k++ir s):=by unfold fS KA;simp only[eJ];rw[Y7 k s h];rfl
def qmJ(l:V aa)(m:l.length<=100)(k:V Int)(b:K):RK ir k l.flatten (ae l k b):=λh=>by
 unfold ae Av;have a:=dw l.length (λe:Int×V Int=>gH l (l.length:Int) b e.1 e.2) (λi=>((i:Int),k++ir (l.take i).flatten)) (k++ir l.flatten) (λi c=>?_) ?_;.rw[show((0:Int),k)=(λi:Nat=>((i:Int),k++ir (l.take i).flatten)) 0 by simp[ir],a];rfl
 .simp only[gH];rw[l7 (by simp;omega),aC _ _ c];simp only[eJ];have d:(l.take (i+1)).flatten.length<=l.flatten.length:=by
   conv=>rhs;rw[<-vbY (i+1) l,vcZ,oo]
   omega
  rw[vas c,vcZ]at d ⊢;simp only[List.flatten_cons,List.flatten_nil,vbR,oo]at d ⊢;rw[qom (by simp only[oo,oL.len];omega),ch (by omega) (by omega),oL.app];simp only[eJ,va6];rfl
 .simp only[gH];rw[hG (by simp),vaR]
def qam(s:aa)(k:V Int)(b:K):RK ir k s (ae ([s]:V aa) k b):=by have:=qmJ [s] (by simp) k b;simpa using this
def qqY(s t u:aa)(k:V Int)(b:K):RK ir k (s++(t++u)) (ae ([s,t,u]:V aa) k b):=by have:=qmJ [s,t,u] (by simp) k b;simpa using this
def qoo(s:aa)(i:Nat)(k:V Int)(b:K):RK ir k (if i=0 then[]else s) (if Y ((i:Int)>0)then(ae ([s]:V aa) k b).bind λr=>O r else O k):=by
 by_cases h:i=0;.subst h;exact qoy oL
 .rw[hG h,l7 (by simp;omega)];exact qmM (qam s k b)
def qo0(a:K)(s:aa):Wr:=(s,!(bX s&&(kM nK s==a)))
def qk3{s:aa}(h:bX s=T):∃c r,s=c::r:=by
 cases s with
 |nil=>rw[Oi]at h;cases h
 |cons c r=>exact⟨c,r,rfl⟩
def qfc{s:aa}(h:bX s=T):rG s=O (kM nK s):=by
 obtain⟨c,r,rfl⟩:=qk3 h;unfold rG kM nK;rw[tI];simp only[eJ];by_cases a:65<=(c.toNat:Int)
 .rw[l7 (by simpa using a)];simp[a]
 .rw[hG (by simpa using a)];simp[a]
def qjO(s:aa):kZ s=O (qo0 Z s).2:=by unfold kZ qo0;rw[n7];simp only[eJ,uD];cases h:bX s with|false=>rfl|true=>rw[hG (by simp),qfc h];simp only[eJ];cases kM nK s<;>rfl
def qha(s:aa):ka s=O (qo0 T s).2:=by unfold ka qo0;rw[n7];simp only[eJ,uD];cases h:bX s with|false=>rfl|true=>rw[hG (by simp),qfc h];simp only[eJ];cases kM nK s<;>rfl
abbrev RR{ε:Type}(k:V ε)(b:K):K×V ε:=(b,k)
def L2{w:Wr}:F0 [w]=w:=by simp[F0]
def qqX(s:aa)(k:V Int)(b:K):RS ir RR k b [qo0 Z s] (aZ s k b):=by unfold aZ;refine qcl (qjO s) (qj1 (λh=>qj0 (by rw[L2];exact h)) λh=>?_);refine RS.cast (ws:=[tW s]) (qau oL (qam s k b) λa=>Wy (mk:=RR) oL) ?_;rw[L2,L2];exact Prod.ext rfl h.symm
def qov(s:aa)(k:V Int)(b:K):RS ir RR k b [qo0 T s] (cC s k b):=by unfold cC;refine qcl (qha s) (qj1 (λh=>qj0 (by rw[L2];exact h)) λh=>?_);refine RS.cast (ws:=[tW s]) (qau oL (qam s k b) λa=>Wy (mk:=RR) oL) ?_;rw[L2,L2];exact Prod.ext rfl h.symm
mutual
def qkt:ai->Prop|⟨o,n,as1,ns,p,ps⟩=>yu ⟨o,n,as1,ns,p,ps⟩=O 0/\qf7 as1
def qf7:List ai->Prop|[]=>True|t::l=>qkt t/\qf7 l
end
mutual
def qkr:ai->Nat|⟨_,_,as1,_,_,_⟩=>C1 as1+1
def C1:List ai->Nat|[]=>0|t::l=>max (qkr t) (C1 l)
end
def Ur(t:ai):qkt t↔yu t=O 0/\qf7 t.Args:=by let⟨o,n,a,b,p,c⟩:=t;rw[qkt];exact Iff.rfl
def P0:∀(l:List ai),qf7 l↔∀t∈l,qkt t
 |[]=>by simp[qf7]
 |t::l=>by rw[qf7,P0 l];simp
def qik(t:ai):qkr t=C1 t.Args+1:=by let⟨o,n,a,b,p,c⟩:=t;rw[qkr];rfl
def S1:∀(a b:List ai),C1 (a++b)=max (C1 a) (C1 b)
 |[],b=>by simp[C1]
 |x::a,b=>by rw[vaT,C1,C1,S1 a b];omega
def qbh:∀{l:List ai}{x:ai},x∈l->qkr x<=C1 l
 | y :: l,x,h => by
  rw[C1];rcases x8.1 h with rfl|h;.omega
  .have:=qbh h;omega
mutual
def qeB:∀(t:ai),qkr t<=lq t
 |⟨o,n,as1,ns,p,ps⟩=>by rw[qkr,lq];have:=qbg as1;omega
def qbg:∀(l:List ai),C1 l<=qB l
 |[]=>l8 _
 |t::l=>by rw[C1,qB];have:=qeB t;have:=qbg l;omega
end
def qoc(a b:Nat):(if(b:Int)>(a:Int)then(b:Int)else(a:Int))=((max a b:Nat):Int):=by
 by_cases h:(b:Int)>(a:Int);.rw[l7 h];congr 1;omega
 .rw[hG h];congr 1;omega
def qk6(t:ai)(b:lq t<=cz):FL t=O (qkr t:Int):=by
 refine PW (F:=DB) lq (λx=>lq x<=cz) (λx=>O (qkr x:Int)) (λR t b q=>?_) t b (kj b);have r:lq t<=1073741824:=b;show yt (λt=>R t) t=_;have d:=ut t;have s:=qeB t;unfold yt;have h:=dw t.Args.length (λe:Int×Int=>mg (λt=>R t) t.Args (t.Args.length:Int) e.1 e.2) (λi=>((C1 (t.Args.take i):Int),(i:Int))) (C1 t.Args:Int) (λi a=>?_) ?_
 .have o:AD (λt=>R t) t.Args (t.Args.length:Int) 0 0=O (C1 t.Args:Int):=by unfold AD;simpa[C1]using h
  have m:=qik t;rw[o,eJ,ch (by omega) (by omega),m];rfl
 .show mg (λt=>R t) t.Args _ _ (i:Int)=_;unfold mg;have p:t.Args[i]∈t.Args:=mx a;have c:=wT p;rw[l7 (by simpa using a),aC _ _ a,eJ];show(R _).bind _=_;rw[q _ c (by unfold cz;omega),eJ];dsimp only;rw[ch (by omega) (by omega),qoc,vas a,S1];have:max (C1 (t.Args.take i)) (qkr t.Args[i])=max (C1 (t.Args.take i)) (C1 [t.Args[i]]):=by rw[C1,C1];omega
  rw[this];rfl
 .show mg (λt=>R t) t.Args _ _ (t.Args.length:Int)=_;unfold mg;rw[hG (by simp),vaR]
def qlf(t:ai)(e:lq t<=cz):fY (FM t) (λr=>(r !=0)=Z->qkt t):=by
 refine Hf (F:=BM) lq (λx=>lq x<=cz) (λx r=>(r !=0)=Z->qkt x) (λR x s w=>?_) t e (kj e);show fY (mY (λt=>R t) x) _;unfold mY tt;have z:=ut x;let⟨q,d,_⟩:=V2 x;refine eZ d (aG (λh=>ak (λa=>by rw[h]at a;cases a)) λh=>aA (Mz x.Args (by unfold cz at s;omega) _ qkt (λr=>(r !=0)=T) (λi=>rfl) (λy m i=>aA (w _ (wT m) (by have:=wT m;omega)) λr p=>aG (λh=>ak h) λh=>ak ⟨rfl,p (by simpa using h)⟩)) λo b=>?_);cases o with
 |inl r=>have b:(r !=0)=true:=b;exact ak λa=>by rw[b]at a;cases a
 |inr _=>
  have c:q=0:=by simpa using h
  exact ak λ_=>(Ur x).2 ⟨by rw[d,c],(P0 _).2 b⟩
def qle(t:ai)(d:lq t<=cz)(h:qkt t):FM t=O 0:=by
 refine PW (F:=BM) lq (λx=>lq x<=cz/\qkt x) (λx=>O 0) (λR x e o=>?_) t ⟨d,h⟩ (kj d);show mY (λt=>R t) x=_;have q:lq x<=1073741824:=e.1;have p:=ut x;have c:=(Ur x).1 e.2;unfold mY;rw[c.1];simp only[eJ];rw[hG (by simp)];have m:tt (λt=>R t) x.Args (x.Args.length:Int) 0=O (.inr ()):=by
  unfold tt;refine dw x.Args.length _ (λi=>(i:Int)) _ (λi a=>?_) ?_;.simp only[EY];have b:x.Args[i]∈x.Args:=mx a;rw[l7 (by simpa using a),aC _ _ a,eJ];rw[o _ (wT b) ⟨by have:=wT b;unfold cz;omega,(P0 _).1 c.2 _ b⟩,eJ];rw[hG (by simp),ch (by omega) (by omega),show((i:Int)+1)=((i+1:Nat):Int) by omega]
  .simp only[EY];rw[hG (by simp)]
 rw[m];rfl
abbrev qoh(t:ai):Prop:=qh t=O 0
def Z1(t:ai)(a:lq t<=cz):qoh t↔qkr t<=40/\qkt t:=by
 unfold qoh qh;rw[qk6 t a];simp only[eJ];constructor
 .intro h;rcases Hr h with⟨b,h⟩|⟨b,h⟩;.cases h
  .let⟨r,e,i⟩:=qlf t a;rw[e]at h;have c:r=0:=by simpa using h
   exact⟨by simp at b;omega,i (by rw[c];rfl)⟩
 .intro⟨m,d⟩;rw[hG (by simp;omega),qle t a d];rfl
def qlI{t a:ai}(e:lq t<=cz)(h:qoh t)(b:a∈t.Args):qoh a:=by let⟨c,d⟩:=(Z1 t e).1 h;have:=wT b;refine(Z1 a (by omega)).2 ⟨?_,(P0 _).1 ((Ur t).1 d).2 a b⟩;have:=qbh b;rw[qik]at c;omega
def qrJ(t:ai):Prop:=(1<=t.Op/\t.Op<=6)/\(t.Op=6->2<=t.Args.length/\(t.Names=[]\/t.Names.length=t.Args.length - 1))
def qlD(t:ai)(q:lq t<=cz)(h:yu t=O 0):qrJ t:=by
 have m:=ut t;have s:lq t<=1073741824:=q;unfold yu at h;let⟨w,b,h⟩:=L0 h;rcases Hr h with⟨c,h⟩|⟨c,h⟩;.cases h
 let⟨x,r,h⟩:=L0 h;rcases Hr h with⟨o,h⟩|⟨o,h⟩;.cases h
 let⟨y,a,h⟩:=L0 h;rcases Hr h with⟨i,h⟩|⟨i,h⟩;.cases h
 subst c i;refine⟨?_,λp=>?_⟩
 .unfold mO at b;rcases Hr b with⟨c,b⟩|⟨c,b⟩;.cases b
  rcases Hr b with⟨e,b⟩|⟨e,b⟩;.cases b
  simp at c e;omega
 .unfold mP at a;rw[l7 (by simp[p])]at a;rcases Hr a with⟨c,a⟩|⟨c,a⟩;.cases a
  rcases Hr a with⟨e,a⟩|⟨e,a⟩;.cases a
  simp at c e;refine⟨by omega,?_⟩;rcases Hr a with⟨d,a⟩|⟨d,a⟩;.right;have a:=vbp a;rw[ch (by omega) (by omega)]at a;simp at a;omega
  .left;have:t.Names.length=0:=by simp at d;simp[d]
   exact IO this
def qoi{t:ai}(a:lq t<=cz)(h:qoh t):qrJ t:=qlD t a ((Ur t).1 ((Z1 t a).1 h).2).1
def pW(p:ag):Wr:=((Tl p).1,(Tl p).2 !=0)
def quK(p:ag):Wr:=if p=Hq then tW I2 else pW p
def qvJ(a:ai):K:=Y (a.Pred=Hq)&&(a.Op==6||(Y ((a.Args.length:Int)>0)||decide ((a.Preds.length:Int)>0)))
def qqB(t:ai):K:=(t.Op==6&&(!Y (t.Pred=Hq)||decide ((t.Preds.length:Int)>0)))||(t.Op !=4&&Y ((t.Preds.length:Int)>0))
abbrev Re(t:ai):Prop:=dB (aj t)<=16777216
theorem Wh(t:ai):dB (aj t)=1+(t.Name.length+1)+(bL (t.Args.map aj)+1)+(bL (t.Names.map cS)+1)+dB (af t.Pred)+(bL (t.Preds.map af)+1):=by rw[Lk,mw];simp only[pm,sl];omega
def qfp{t a:ai}(h:Re t)(b:a∈t.Args):Re a:=by have c:=Wh t;have d:=GF (l9.2 ⟨a,b,rfl⟩:aj a∈t.Args.map aj);unfold Re at *;omega
def LD{t:ai}(h:Re t):dB (af t.Pred)<=16777216:=by have a:=Wh t;unfold Re at *;omega
def qhj{t:ai}(h:Re t){p:ag}(a:p∈t.Preds):dB (af p)<=16777216:=by have b:=Wh t;have c:=GF (l9.2 ⟨p,a,rfl⟩:af p∈t.Preds.map af);unfold Re at *;omega
def QN{t:ai}(h:Re t):lq t<=cz:=m0 (ZS t) (m0 h (by unfold cz;omega))
def xp(p:ag)(h:dB (af p)<=16777216):nB p=O (Y (p=Hq)):=by unfold nB;have:=qaw p Hq (m0 (qbR p) (m0 h (by unfold cz;omega)));unfold Hq at this;rw[this];rfl
def qfh(p:ag)(h:dB (af p)<=16777216)(k:V Int)(b:K):RS ir Prod.mk k b [pW p] (dj p k b):=by
 unfold dj;have a:lb (Tl p).2 b=O (b||(pW p).2):=by unfold lb pW;cases b<;>rfl
 refine qcl (qqZ p h) (qcl a ?_);exact RS.cast (ws:=[([],(pW p).2),tW (Tl p).1]) (qlX (qau oL (qam _ k _) λc=>Wy (mk:=Prod.mk) oL)) (by simp[F0,pW])
def qlT(p:ag)(h:dB (af p)<=16777216)(k:V Int)(b:K):RS ir Prod.mk k b [quK p] (fD p k b):=by
 unfold fD quK;refine qcl (xp p h) (qj1 (λa=>?_) λa=>?_);.rw[l7 (by simpa using a)];exact qau oL (qam _ k _) λc=>Wy (mk:=Prod.mk) oL
 .rw[hG (by simpa using a)];exact qlY oL (qfh p h k b) λc d=>Wy (mk:=Prod.mk) oL
def qg8(a:ai)(h:dB (af a.Pred)<=16777216):j9 a=O (qvJ a):=by unfold j9 qvJ;rw[xp _ h];simp only[eJ];generalize Y (a.Pred=Hq)=z;generalize (a.Op==6)=x;generalize Y ((a.Args.length:Int)>0)=y;cases z<;>cases x<;>cases y<;>rfl
section
variable{β γ:Type}
def RL(mk:V Int->K->β)(k:V Int)(b:K)(n:Nat)(o:Q β):Prop:=k.length+n<=1073741824->∃a c,o=O (mk a c)/\a.length<=k.length+n/\(c=Z->b=Z/\∃t,a=k++ir t)
variable{mk:V Int->K->β}{mk':V Int->K->γ}{k:V Int}{b:K}{n m n1 n2:Nat}
def aJ:RL mk k b n (O (mk k b)):=λ_=>⟨k,b,rfl,vbq _ _,λh=>⟨h,[],by simp[ir]⟩⟩
def YG:RL mk k b n (O (mk k T)):=λ_=>⟨k,T,rfl,vbq _ _,λh=>by cases h⟩
def bZ{o:Q β}(h:RL mk k b n o)(e:n<=m):RL mk k b m o:=λp=>by let⟨d,a,r,i,c⟩:=h (by omega);exact⟨d,a,r,by omega,c⟩
def aw{o:Q β}{f:β->Q γ}(h:RL mk k b n1 o)(r:∀c a,RL mk' c a n2 (f (mk c a))):RL mk' k b (n1+n2) (o.bind f):=λE=>by obtain⟨c,a,rfl,A,s⟩:=h (by omega);let⟨x,d,y,B,t⟩:=r c a (by omega);refine⟨x,d,y,by omega,λw=>?_⟩;let⟨e,t2,i⟩:=t w;let⟨p,z,q⟩:=s e;exact⟨p,z++t2,by rw[i,q,oL.app,va6]⟩
def Sx{o:Q (V Int)}{f:V Int->Q γ}{t:aa}(h:RK ir k t o)(i:∀a,RL mk' a b n (f a)):RL mk' k b (t.length+n) (o.bind f):=λx=>by rw[h (by omega)];let⟨s,c,w,p,q⟩:=i (k++ir t) (by rw[oo,oL.len];omega);rw[oo,oL.len]at p;refine⟨s,c,w,by omega,λr=>?_⟩;let⟨d,t2,e⟩:=q r;exact⟨d,t++t2,by rw[e,oL.app,va6]⟩
def dq{t:aa}{a:K}{f:V Int->Q γ}(d:∀c,RL mk' c b n (f c))(e:t.length<=16:=by decide):RL mk' k b (16+n) ((ae ([t]:V aa) k a).bind f):=bZ (Sx (qam t k a) d) (by omega)
def OP{t:aa}{a:K}{i:Nat}{f:V Int->Q γ}(d:∀c,RL mk' c b n (f c))(e:t.length<=16:=by decide):RL mk' k b (16+n) ((if Y ((i:Int)>0)then(ae ([t]:V aa) k a).bind λr=>O r else O k).bind f):=by
 refine bZ (Sx (qoo t i k a) d) ?_;split;.simp
 .omega
def cq{α:Type}{o:Q α}{a:α}{f:α->Q γ}(e:o=O a)(h:RL mk' k b n (f a)):RL mk' k b n (o.bind f):=by rw[e];exact h
def qoz{α:Type}{o:Q α}{c:α->Prop}{f:α->Q γ}(e:fY o c)(h:∀a,c a->RL mk' k b n (f a)):RL mk' k b n (o.bind f):=by obtain⟨a,rfl,q⟩:=e;exact h a q
def UA{x:K}{o:Q β}(h:RL mk k (b||x) n o):RL mk k b n o:=λp=>by let⟨q,a,r,d,e⟩:=h p;refine⟨q,a,r,d,λi=>?_⟩;let⟨s,c⟩:=e i;exact⟨by cases b<;>simp_all,c⟩
def ep{c:Prop}[Decidable c]{x y:Q β}(h:c->RL mk k b n x)(d:¬c->RL mk k b n y):RL mk k b n (if c then x else y):=by
 split;.rename_i a;exact h a
 .rename_i a;exact d a
def jQ{α:Type}(l:V α)(R:l.length<9223372036854775808)(g:α->Nat){a:Int×V Int×K->Q ((Int×V Int×K)⊕(V Int×K))}{F:Int->V Int->K->Q ((Int×V Int×K)⊕(V Int×K))}
  (h:∀i k b,a (i,k,b)=if Y (i<(l.length:Int))then F i k b else O (.inr (k,b)))
  (d:∀(i:Nat)(o:i<l.length) k b,RL (λk b=>.inl (dc ((i:Int)+1),k,b)) k b (g l[i]) (F i k b)):RL Prod.mk k b ((l.map g).sum) (loop a (0,k,b)):=by
 have e:∀m i k b,m+i=l.length->RL Prod.mk k b (((l.drop i).map g).sum) (loop a ((i:Int),k,b)):=by
  intro m;induction m with
  |zero=>
   intro i k b o;have:i=l.length:=by omega
   subst this;rw[gL (by rw[h,hG (Yl _)])];exact aJ (mk:=Prod.mk)
  |succ m ih=>
   intro i k b o y;have c:i<l.length:=by omega
   rw[vaN c,ox,List.sum_cons]at y ⊢;let⟨z,p,H,X,L⟩:=d i c k b (by omega);rw[tN (by rw[h,l7 (Xk c)];exact H),ch (by omega) (by omega),show((i:Int)+1)=((i+1:Nat):Int) by omega];let⟨A,q,B,S,E⟩:=ih (i+1) z p (by omega) (by omega);refine⟨A,q,B,by omega,λx=>?_⟩;let⟨r,t2,s⟩:=E x;let⟨t,P,w⟩:=L r;exact⟨t,P++t2,by rw[s,w,oL.app,va6]⟩
 have:=e l.length 0 k b (by omega)
 simpa using this
def RS.rl{o:Q β}{w:Wr}(h:RS ir mk k b [w] o)(t:w.1.length<=n):RL mk k b n o:=λs=>by
 have e:F0 [w]=w:=by simp[F0]
 unfold RS at h;rw[e]at h;let⟨p,c,r,d,i,q⟩:=h (by omega);refine⟨p,c,r,by omega,λa=>⟨?_,_,i a⟩⟩;rw[d]at a;cases b<;>simp_all
def oF{α:Type}(c:α->List U)(g:α->Nat):∀(l:List α),(∀x∈l,g x<=64 * dB (c x))->(l.map g).sum<=64 * bL (l.map c)
 |[],_=>by simp
 |x::l,h=>by have d:=h x (by simp);have e:=oF c g l λy a=>h y (by simp[a]);simp only[ox,List.sum_cons,bL];omega
end
def wz(s:aa)(k:V Int)(b:K):RL RR k b s.length (aZ s k b):=(qqX s k b).rl (l8 _)
def H3(s:aa)(k:V Int)(b:K):RL RR k b s.length (cC s k b):=(qov s k b).rl (l8 _)
def qiX(s:aa)(k:V Int)(b:K):RL RR k b s.length (iH s k b):=by
 unfold iH;have a:∃r,lc s=O r:=by
  unfold lc;rw[n7];simp only[eJ];repeat' split
  all_goals exact⟨_,rfl⟩
 let⟨r,a⟩:=a;exact cq a (ep (λ_=>YG (mk:=RR)) λ_=>bZ (Sx (n:=0) (qam s k b) λc=>aJ (mk:=RR)) (by omega))
def Yk(p:ag)(h:dB (af p)<=16777216)(k:V Int)(b:K):RL Prod.mk k b (40 * dB (af p)) (dj p k b):=(qfh p h k b).rl (YP p h)
def qdG(p:ag)(h:dB (af p)<=16777216)(k:V Int)(b:K):RL Prod.mk k b (40 * dB (af p)) (fD p k b):=(qlT p h k b).rl (by
 have:=mw p;unfold quK;split;.show I2.length<=_;simp only[I2,p6,List.length_nil];omega
 .exact YP p h)
def qdD(l:V aa)(h:l.length<9223372036854775808)(k:V Int)(b:K):RL Prod.mk k b (64 * bL (l.map cS)+32) (gO l k b):=by have p:=oF cS (λs=>16+(s.length+0)) l (λs _=>by simp only[cS,dB,pm];omega);unfold gO;refine ep (λ_=>aJ (mk:=Prod.mk)) λ_=>bZ (dq λc=>aw (mk:=Prod.mk) (n1:=(l.map λs=>16+(s.length+0)).sum) ?_ λd a=>dq λm=>aJ (n:=0) (mk:=Prod.mk)) (by omega);unfold qZ vg;refine aw (n2:=0) (jQ l h (λs=>16+(s.length+0)) (λ_ _ _=>rfl) λi e k b=>OP λc=>aw (mk:=Prod.mk) ?_ λd a=>aJ (n:=0)) λd a=>aJ (mk:=Prod.mk);unfold pV;exact cq (aC _ _ e) (aw (n2:=0) (wz _ c b) λm o=>aJ (mk:=Prod.mk))
section
variable{f:ai->Wr}{R:ai->V Int->K->Q (K×V Int)}
def qux(t:ai)(h:Re t):mb t=O (qqB t):=by unfold mb qqB;rw[xp _ (LD h)];simp only[eJ];generalize (t.Op==6)=A;generalize (t.Op !=4)=B;generalize Y (t.Pred=Hq)=C;generalize Y ((t.Preds.length:Int)>0)=a;cases A<;>cases B<;>cases C<;>cases a<;>rfl
end
def qqe(t:ai)(a:Re t):∃r,qh t=O r/\qa t=O r:=by let⟨r,e,_⟩:=Do t (QN a);exact⟨r,e,by rw[SK,e]⟩
end Go.Proofs.YtankopenjcbeeaaGreatDoor
