/- PROVED: a part of the proof. Conditions: none. -/
import Derived.Test.YtggeppllafbidaaGreatDoorPkF15
import Derived.Test.YtggeppllafbidaaGreatDoorPkF7
import Derived.Test.YtggeppllafbidaaGreatDoorPkF8
noncomputable section
namespace Go.Proofs.YtggeppllafbidaaGreatDoor
open Go
set_option linter.unusedSimpArgs false
set_option linter.unusedVariables false
abbrev Gp(l:List ag):Prop:=l.Pairwise Pq
theorem xI:∀{a b:List ag},Gp a->Gp b->(∀x,x∈a↔x∈b)->a=b
 |[],[],_,_,_=>rfl
 |[],y::b,_,_,h=>by have:=(h y).2 (by simp);simp at this
 |x::a,[],_,_,h=>by have:=(h x).1 (by simp);simp at this
 | x :: a,y :: b,ha,hb,h => by
  unfold Gp at ha hb
  rw[va0]at ha hb
  have hxy:x=y:=by
   have h1:=(h x).1 (by simp)
   have h2:=(h y).2 (by simp)
   rw[vaE]at h1 h2
   rcases h1 with h1|h1
   ·exact h1
   ·rcases h2 with h2|h2
    ·exact h2.symm
    ·have:=pZ (hb.1 x h1) (ha.1 y h2)
     unfold Pq at this
     rw[rM]at this
     cases this
  subst hxy
  congr 1
  refine xI ha.2 hb.2 fun z=>?_
  constructor
  ·intro hz
   have:=(h z).1 (by simp[hz])
   rw[vaE]at this
   rcases this with rfl|this
   ·have:=ha.1 _ hz;unfold Pq at this;rw[rM]at this;cases this
   ·exact this
  ·intro hz
   have:=(h z).2 (by simp[hz])
   rw[vaE]at this
   rcases this with rfl|this
   ·have:=hb.1 _ hz;unfold Pq at this;rw[rM]at this;cases this
   ·exact this
theorem Bn(d:List ag)(hs:d.Pairwise fun x y=>Op.bytesLess y x=false):∀m,m<=d.length->Gp (Lib.compactUpTo d.toArray m)/\∀x,x∈Lib.compactUpTo d.toArray m↔∃(j:Nat) (h:j<d.length),j<m/\d[j]=x
 |0,_=>by
  refine⟨by simp[Lib.compactUpTo,Gp],fun x=>?_⟩
  simp[Lib.compactUpTo]
 | m + 1,hm => by
  obtain⟨h1,h2⟩:=Bn d hs m (by omega)
  have hg:∀j (h:j<d.length),d.toArray[j]! =d[j]:=fun j h=>by simp[h]
  rw[Lib.compactUpTo_succ]
  by_cases hk:Lib.keeps d.toArray m=true
  ·rw [vai hk,hg m (by omega)]
   refine⟨?_,fun x=>?_⟩
   ·unfold Gp
    rw[List.pairwise_append]
    refine⟨h1,by simp,fun x hx y hy=>?_⟩
    simp at hy
    subst hy
    obtain⟨j,hj,hjm,rfl⟩:=(h2 x).1 hx
    have hne:d[m - 1]≠d[m]:=by
     unfold Lib.keeps at hk
     simp only[vak]at hk
     rcases hk with hk|hk
     ·omega
     ·rw[hg m (by omega),hg (m - 1) (by omega)]at hk
      exact fun e=>hk e.symm
    have hlt:Op.bytesLess d[m - 1] d[m]=true:=by
     have k1:=(vbw.1 hs) (m - 1) m (by omega) (by omega) (by omega)
     cases h:Op.bytesLess d[m - 1] d[m]with
     |true=>rfl
     |false=>exact absurd (sI h k1) hne
    by_cases hj2:j=m - 1
    ·subst hj2;exact hlt
    ·have k2:=(vbw.1 hs) j (m - 1) (by omega) (by omega) (by omega)
     cases h:Op.bytesLess d[j] d[m - 1]with
     |true=>exact pZ h hlt
     |false=>
      have:=sI h k2
      rw[this];exact hlt
   ·rw[vaF,h2]
    constructor
    ·rintro(⟨j,hj,hjm,rfl⟩|hx)
     ·exact⟨j,hj,by omega,rfl⟩
     ·simp at hx;exact⟨m,by omega,by omega,hx.symm⟩
    ·rintro⟨j,hj,hjm,rfl⟩
     by_cases e:j=m
     ·subst e;exact .inr (by simp)
     ·exact .inl ⟨j,hj,by omega,rfl⟩
  ·rw [vaj hk,vbs]
   refine⟨h1,fun x=>?_⟩
   rw[h2]
   constructor
   ·rintro⟨j,hj,hjm,rfl⟩;exact⟨j,hj,by omega,rfl⟩
   ·rintro⟨j,hj,hjm,rfl⟩
    by_cases e:j=m
    ·subst e
     have:j≠0/\d.toArray[j]! =d.toArray[j - 1]! :=by
      unfold Lib.keeps at hk
      simp only[vak,not_or,ne_eq,Decidable.not_not]at hk
      exact hk
     rw[hg j hj,hg (j - 1) (by omega)]at this
     exact⟨j - 1,by omega,by omega,this.2.symm⟩
    ·exact⟨j,hj,by omega,rfl⟩
def og(a b:List ag):List ag:=Lib.compact (kg (a++b))
theorem CQ(a b:List ag):Gp (og a b)/\∀x,x∈og a b↔x∈a\/x∈b:=by
 obtain⟨h1,h2⟩:=Bn (kg (a++b)) (Ec _) _ (vam _)
 refine⟨h1,fun x=>?_⟩
 rw[show og a b=Lib.compactUpTo (kg (a++b)).toArray (kg (a++b)).length from rfl,h2,<-vaF,<-R8,List.mem_iff_getElem]
 constructor
 ·rintro⟨j,h,_,e⟩;exact⟨j,h,e⟩
 ·rintro⟨j,h,e⟩;exact⟨j,h,h,e⟩
theorem zO(a b:List ag)(h:a.length+b.length<=1073741824):mP a b=some (og a b):=by
 unfold mP
 rw[eJ (by simp;omega)]
 simp only[vaa]
 rw[eJ (by simp;omega)]
 simp only[vaa]
 rw[On]
 rfl
def I8(s:ag):List ag->List ag
 |[]=>[s]
 |x::r=>if Op.bytesLess x s=true then x::I8 s r else if(x==s)=true then s::r else s::x::r
def kk(s:ag):List ag->Nat
 |[]=>0
 |x::r=>if Op.bytesLess x s=true then kk s r+1 else 0
theorem U8(s:ag):∀l,kk s l<=l.length
 |[]=>vam _
 |x::r=>by have:=U8 s r;unfold kk;split<;>simp<;>omega
theorem S3(s:ag):∀l,I8 s l=l.take (kk s l)++s::l.drop (kk s l+if(l[kk s l]? ==some s)=true then 1 else 0)
 |[]=>by simp[I8,kk]
 | x :: r => by
  have ih:=S3 s r
  unfold I8 kk
  by_cases h:Op.bytesLess x s=true
  ·rw[vai h,vai h,ih]
   simp only[List.take_succ_cons,List.getElem?_cons_succ,vbk]
   rw[show kk s r+1+(if(r[kk s r]? ==some s)=true then 1 else 0)=(kk s r+if(r[kk s r]? ==some s)=true then 1 else 0)+1 by omega,vcC]
  ·rw[vaj h,vaj h]
   by_cases hx:(x==s)=true
   ·have:x=s:=by simpa using hx
    simp[this]
   ·have:¬x=s:=by simpa using hx
    simp[this]
theorem HQ(s:ag):∀l,(I8 s l).length<=l.length+1
 |[]=>by simp[I8]
 | x :: r => by
  have:=HQ s r
  unfold I8
  split
  ·simp;omega
  ·split<;>simp
theorem M7(s:ag):∀l x,x∈I8 s l↔x=s\/x∈l
 |[],x=>by simp[I8]
 | y :: r,x => by
  have:=M7 s r x
  unfold I8
  by_cases h:Op.bytesLess y s=true
  ·rw[vai h,vaE,this,vaE]
   constructor
   ·rintro(h|h|h)<;>simp[h]
   ·rintro(h|h|h)<;>simp[h]
  ·rw[vaj h]
   by_cases hy:(y==s)=true
   ·have e:y=s:=by simpa using hy
    rw[vai hy,e]
    simp
   ·rw[vaj hy]
    simp
theorem QE(s:ag):∀{l},Gp l->Gp (I8 s l)
 |[],_=>by simp[I8,Gp]
 | x :: r,h => by
  unfold Gp at h ⊢
  rw[va0]at h
  unfold I8
  by_cases hx:Op.bytesLess x s=true
  ·rw[vai hx,va0]
   refine⟨fun y hy=>?_,QE s h.2⟩
   rw[M7]at hy
   rcases hy with rfl|hy
   ·exact hx
   ·exact h.1 y hy
  ·rw [vaj hx]
   by_cases he:(x==s)=true
   ·have e:x=s:=by simpa using he
    subst e
    rw[vai he,va0]
    exact h
   ·have hsx:Pq s x:=by
     cases hc:Op.bytesLess s x with
     |true=>exact hc
     |false=>
      have:=sI (by simpa using hx) hc
      simp[this]at he
    rw[vaj he,va0,va0]
    refine⟨fun y hy=>?_,h⟩
    rw[vaE]at hy
    rcases hy with rfl|hy
    ·exact hsx
    ·exact pZ hsx (h.1 y hy)
theorem QR(s:ag):∀(l:List ag) (i:Nat) (out:List ag),gH (fun i x (out:List ag)=>if Op.bytesLess x s=true then(Sum.inl (out++[x]):List ag⊕(List ag×Nat))else .inr (out,i)) (fun out=>(out,i+l.length)) l i out=(out++l.take (kk s l),i+kk s l)
 |[],i,out=>by simp[gH,kk]
 | x :: l,i,out => by
  have ih:=QR s l (i+1) (out++[x])
  unfold gH kk
  by_cases h:Op.bytesLess x s=true
  ·simp only[h,if_true]
   rw[show i+(x::l).length=i+1+l.length by simp;omega,ih]
   simp
   omega
  ·simp[h]
theorem L3{α σ X Y:Type}(g:X->Y)(f:Nat->α->σ->σ⊕X)(e:σ->X):∀(l:List α) (i:Nat) (s:σ),gH (fun i x s=>Sum.map id g (f i x s)) (fun s=>g (e s)) l i s=g (gH f e l i s)
 |[],i,s=>rfl
 |x::l,i,s=>by
  unfold gH
  cases f i x s with
  |inl s'=>exact L3 g f e l (i+1) s'
  |inr y=>rfl
def Te{σ:Type}(y:σ×Nat):σ×Int:=(y.1,(y.2:Int))
theorem Ie(a:List ag)(s:ag)(ha:a.length<=1000000000):C3 a s=some (I8 s a):=by
 unfold C3 BW
 have:=ir a (by omega) (fun i (out:List ag)=>(out,i)) (fun zz=>nk a s zz.1 zz.2) (fun i out=>out.length=i)
  (fun i x out=>Sum.map id Te (if Op.bytesLess x s=true then(Sum.inl (out++[x]):List ag⊕(List ag×Nat))else .inr (out,i))) (fun out=>Te (out,0+a.length)) (fun i hi out hI=>by
   have hb:ou a s i=some (Op.bytesLess a[i] s):=by
    simp only[ou]
    rw[vai (by simp;omega),bP _ i hi]
    rfl
   refine⟨?_,fun s' hs'=>?_⟩
   ·simp only[nk]
    rw[hb]
    simp only[vaa]
    by_cases hl:Op.bytesLess a[i] s=true
    ·rw[vai hl,vai hl,bP _ i hi]
     simp only[vaa]
     rw[eJ (by simp;omega)]
     rfl
    ·rw[vaj hl,vaj hl]
     rfl
   ·by_cases hl:Op.bytesLess a[i] s=true
    ·rw[vai hl]at hs';cases hs';simp;omega
    ·rw[vaj hl]at hs';cases hs') (fun out _=>by
   have hb:ou a s a.length=some false:=by
    simp only[ou]
    rw[vaj (by simp)]
   simp only[nk]
   rw[hb]
   simp[Te]) 0 [] (vaB _) rfl
 simp only[Int.ofNat_zero,vaU]at this
 have hm:=L3 Te (fun i x (out:List ag)=>if Op.bytesLess x s=true then(Sum.inl (out++[x]):List ag⊕(List ag×Nat))else .inr (out,i)) (fun out=>(out,0+a.length)) a 0 []
 rw[this.trans (vbt some hm),QR s a 0 []]
 simp only[va4,vaH,vaa,Te]
 have hk:=U8 s a
 rw[eJ (by simp;omega)]
 simp only[vaa]
 have hj:xc a s (kk s a)=some ((kk s a+if(a[kk s a]? ==some s)=true then 1 else 0:Nat):Int):=by
  unfold xc BV
  by_cases hlt:kk s a<a.length
  ·rw[vai (by simp;omega),bP _ _ hlt]
   simp only[vaa,vab hlt]
   have e:(some a[kk s a]==some s)=(a[kk s a]==s):=rfl
   rw[e]
   by_cases h:(a[kk s a]==s)=true
   ·rw[vai h,vai h,il (by omega) (by omega)]
    rfl
   ·rw[vaj h,vaj h]
    rfl
  ·have hn:a[kk s a]? =none:=by simp;omega
   rw[vaj (by simp;omega),hn]
   rfl
 rw[hj]
 simp only[vaa]
 have hle:kk s a+(if(a[kk s a]? ==some s)=true then 1 else 0)<=a.length:=by
  by_cases hlt:kk s a<a.length
  ·split<;>omega
  ·have hn:a[kk s a]? =none:=by simp;omega
   rw[hn]
   simp
   omega
 rw[wG a _ hle]
 simp only[vaa]
 rw[eJ (by simp;omega),S3]
 simp
theorem CN{α σ:Type}(g:σ->α->σ):∀(l:List α) (i:Nat) (s:σ),gH (fun _ x s=>(Sum.inl (g s x):σ⊕σ)) (fun s=>s) l i s=l.foldl g s
 |[],i,s=>rfl
 |x::l,i,s=>CN g l (i+1) (g s x)
theorem Cj:∀(l out:List ag),Gp out->Gp (l.foldl (fun o x=>I8 x o) out)/\(∀x,x∈l.foldl (fun o x=>I8 x o) out↔x∈out\/x∈l)/\(l.foldl (fun o x=>I8 x o) out).length<=out.length+l.length
 |[],out,h=>⟨h,by simp,by simp⟩
 | y :: l,out,h => by
  obtain⟨h1,h2,h3⟩:=Cj l (I8 y out) (QE y h)
  have:=HQ y out
  refine⟨h1,fun x=>?_,by simp only[List.foldl_cons,vaV];omega⟩
  rw[List.foldl_cons,h2,M7,vaE]
  constructor
  ·rintro((h|h)|h)<;>simp[h]
  ·rintro(h|h|h)<;>simp[h]
theorem wY(a b:List ag)(ha:a.length<=400000000)(hb:b.length<=400000000):kh a b=some (og a b):=by
 unfold kh wW wX
 have t1:=ir a (by omega) (fun i (out:List ag)=>(out,i)) (fun zz=>jL a a.length zz.1 zz.2) (fun i out=>out.length<=i) (fun _ x out=>(Sum.inl (I8 x out):List ag⊕List ag)) (fun o=>o) (fun i hi out hI=>by
   refine⟨?_,fun s' hs'=>?_⟩
   ·simp only[jL]
    rw[vai (by simp;omega),bP _ i hi]
    simp only[vaa]
    rw[Ie _ _ (by omega)]
    rfl
   ·cases hs'
    have:=HQ a[i] out
    omega) (fun out _=>by simp only[jL];rw[vaj (by simp)]) 0 [] (vaB _) (vam _)
 simp only[Int.ofNat_zero,vaU]at t1
 rw[CN (fun o x=>I8 x o)]at t1
 obtain⟨f1,f2,f3⟩:=Cj a [] (by simp[Gp])
 have t2:=ir b (by omega) (fun i (out:List ag)=>(out,i)) (fun zz=>jN b b.length zz.1 zz.2) (fun i out=>out.length<=400000000+i) (fun _ x out=>(Sum.inl (I8 x out):List ag⊕List ag)) (fun o=>o) (fun i hi out hI=>by
   refine⟨?_,fun s' hs'=>?_⟩
   ·simp only[jN]
    rw[vai (by simp;omega),bP _ i hi]
    simp only[vaa]
    rw[Ie _ _ (by omega)]
    rfl
   ·cases hs'
    have:=HQ b[i] out
    omega) (fun out _=>by simp only[jN];rw[vaj (by simp)]) 0 (a.foldl (fun o x=>I8 x o) []) (vaB _) (by simp at f3;omega)
 simp only[Int.ofNat_zero,vaU]at t2
 rw[CN (fun o x=>I8 x o)]at t2
 rw[t1]
 simp only[vaa]
 rw[t2]
 simp only[vaa,var]
 obtain⟨g1,g2,_⟩:=Cj b _ f1
 obtain⟨u1,u2⟩:=CQ a b
 refine xI g1 u1 fun x=>?_
 rw[g2,f2,u2]
 simp
mutual
def nP:aa->Nat
 |⟨_,_,_,ks⟩=>nL ks+1
def nL:List aa->Nat
 |[]=>0
 |p::ps=>nP p+nL ps
end
theorem Gb(p:aa):nP p=nL p.Kids+1:=by obtain⟨o,n,k,ks⟩:=p;rw[nP];rfl
theorem VY(p:aa):1<=nP p:=by rw[Gb];omega
theorem Jj:∀{l:List aa} {x:aa},x∈l->nP x<=nL l
 | y :: l,x,h => by
  rw[nL]
  rcases vaE.1 h with rfl|h
  ·omega
  ·have:=Jj h;omega
theorem Nb:∀(l:List aa),l.length<=nL l
 |[]=>by simp[nL]
 |p::l=>by rw[nL];have:=Nb l;have:=VY p;simp only[vaV];omega
theorem mA{p x:aa}(h:x∈p.Kids):nP x<nP p:=by rw[Gb p];have:=Jj h;omega
theorem lJ(p:aa):p.Kids.length<nP p:=by rw[Gb];have:=Nb p.Kids;omega
theorem AF:∀(a b:List aa),nL (a++b)=nL a+nL b
 |[],b=>by simp[nL]
 |p::a,b=>by rw[vbk,nL,AF a b,nL];omega
mutual
theorem Xy:∀(p:aa),nP p<=Er (ac p)
 |⟨o,n,k,ks⟩=>by
  have:=Ow ks
  rw[nP,aR]
  simp only[Er,pm,sl]
  show nL ks+1<=1+(n.length+1+(1+(rq (ks.map ac)+1+0)))
  omega
theorem Ow:∀(l:List aa),nL l<=rq (l.map ac)
 |[]=>by simp[nL]
 |p::l=>by
  have:=Xy p
  have:=Ow l
  rw[nL]
  simp only[vaW,rq]
  omega
end
mutual
def YD:aa->aa->Bool
 |⟨o,n,k,ks⟩,⟨o',n',k',ks'⟩=>(o==o')&&((n==n')&&((k==k')&&VS ks ks'))
def VS:List aa->List aa->Bool
 |[],[]=>true
 |x::xs,y::ys=>YD x y&&VS xs ys
 |_,_=>false
end
mutual
theorem Qt:∀(a b:aa),YD a b=true↔a=b
 |⟨o,n,k,ks⟩,⟨o',n',k',ks'⟩=>by
  rw[YD]
  have:=Qs ks ks'
  simp only[vad,vaT,this,aa.mk.injEq]
theorem Qs:∀(a b:List aa),VS a b=true↔a=b
 |[],[]=>by simp[VS]
 |x::xs,y::ys=>by
  rw[VS]
  have h1:=Qt x y
  have h2:=Qs xs ys
  simp only[vad,h1,h2,vby]
 |[],y::ys=>by simp[VS]
 |x::xs,[]=>by simp[VS]
end
instance:DecidableEq aa:=fun a b=>decidable_of_iff _ (Qt a b)
theorem Ay(p:aa):(⟨p.Op,p.Name,p.N,p.Kids⟩:aa)=p:=by cases p;rfl
theorem wI{a b:aa}:a=b↔a.Op=b.Op/\a.Name=b.Name/\a.N=b.N/\a.Kids=b.Kids:=by
 cases a;cases b
 simp only[aa.mk.injEq]
 rfl
theorem QZ{α:Type}[DecidableEq α]:∀{a b:List α},a.length=b.length->(a.zip b).any (fun x=>decide (x.1≠x.2))= !decide (a=b)
 |[],[],_=>by simp
 |x::a,y::b,h=>by
  have ih:=QZ (a:=a) (b:=b) (by simpa using h)
  rw[List.zip_cons_cons,List.any_cons,ih]
  by_cases h1:x=y<;>by_cases h2:a=b<;>simp[h1,h2]
theorem Ov{α X:Type}[DecidableEq α]{a b:List α}(hl:a.length=b.length)(ha:a.length<9223372036854775808)(body:Int->Option (Int⊕X))(y e:X)
  (hin:∀(i:Nat) (h:i<a.length) (h':i<b.length),body i=some (if decide (a[i]=b[i])=true then .inl (bA ((i:Int)+1))else .inr y)) (hend:body a.length=some (.inr e)):loop body 0=some (if decide (a=b)=true then e else y):=by
 have hz:(a.zip b).length=a.length:=by simp[hl]
 have:=lL (a.zip b) (by omega) body (fun x=>decide (x.1≠x.2)) y e (fun i h=>?_) (by rw[hz];exact hend) 0 (vaB _)
 ·rw[vaU,QZ hl]at this
  rw[show((0:Nat):Int)=0 from rfl]at this
  rw[this]
  by_cases h:a=b<;>simp[h]
 ·have h1:i<a.length:=by omega
  have h2:i<b.length:=by omega
  rw[hin i h1 h2]
  have hzi:(a.zip b)[i]=(a[i],b[i]):=by simp
  rw[hzi]
  by_cases h:a[i]=b[i]<;>simp[h]
abbrev aW:Nat:=1073741824
theorem fo{n:Nat}(h:n<=aW):n<Ul:=by have:=VN;unfold aW at h;omega
theorem SP{R:aa->aa->Option Bool}{a b:List aa}(ha:a.length<=aW)(h:∀x∈a,∀y∈b,R x y=some (decide (x=y))):xV R a b=some (decide (a=b)):=by
 unfold xV
 by_cases hl:a.length=b.length
 ·rw[vaj (by simp[hl])]
  unfold vA
  rw[Ov hl (by unfold aW at ha;omega) (fun zz=>iH R a b (a.length:Int) zz) (.inl ()) (.inr ()) (fun i h1 h2=>?_) ?_]
  ·by_cases he:a=b<;>simp[he]
  ·unfold iH
   rw[vaj (by simp)]
  ·unfold iH
   rw[vai (by simp;omega),bP a i h1]
   simp only[vaa]
   rw[bP b i h2]
   simp only[vaa]
   rw[h _ (vav h1) _ (vav h2)]
   simp only[vaa]
   by_cases he:a[i]=b[i]<;>simp[he]
 ·rw[vai (by simp;omega)]
  rw[decide_eq_false (fun he=>hl (by rw[he]))]
theorem HS(a b:aa)(ha:nP a<=aW):fD a b=some (decide (a=b)):=by
 refine jr (F:=zU) (fun x=>nP x.1) (fun x=>nP x.1<=aW) (fun x=>decide (x.1=x.2)) (fun R x hx ih=>?_) (a,b) ha (fo ha)
 obtain⟨u,v⟩:=x
 have hx:nP u<=aW:=hx
 show uw (fun a a2=>R (a,a2)) u v=some (decide (u=v))
 unfold uw
 have hk:=lJ u
 by_cases h1:u.Op=v.Op
 ·by_cases h2:u.Name=v.Name
  ·by_cases h3:u.N=v.N
   ·rw[vai (by simpa using h1),vai (by simpa using h2),vai (by simpa using h3)]
    rw[SP (a:=u.Kids) (b:=v.Kids) (by omega) (fun x hxa y hyb=>ih (x,y) (mA hxa) (vcu (vaD (mA hxa) hx)))]
    simp[wI (a:=u) (b:=v),h1,h2,h3]
   ·rw[vai (by simpa using h1),vai (by simpa using h2),vaj (by simpa using h3)]
    simp[wI (a:=u) (b:=v),h3]
  ·rw[vai (by simpa using h1),vaj (by simpa using h2)]
   simp[wI (a:=u) (b:=v),h2]
 ·rw[vaj (by simpa using h1)]
  simp[wI (a:=u) (b:=v),h1]
theorem Rj(p:aa)(hp:nP p<=aW):mU p=some p:=by
 refine jr (F:=pw) nP (fun x=>nP x<=aW) id (fun R x hx ih=>?_) p hp (fo hp)
 unfold pw vw tb
 have hlen:=lJ x
 rw[Tb x.Kids (by unfold aW at hx;omega) (fun i s=>(i,s)) _ id id (fun i hi s hs=>?_) (fun s=>?_)]
 ·simp[Ay]
 ·unfold kz
  rw[vai (by simp;omega),bP x.Kids i hi]
  simp only[vaa]
  have hm:=vav hi
  rw[ih _ (mA hm) (vcu (vaD (mA hm) hx))]
  simp only[vaa]
  rw[eJ (by unfold aW at hx;simp;omega)]
  rfl
 ·unfold kz
  rw[vaj (by simp)]
  rfl
theorem Ac(a b:aa)(hb:nP b<=aW):gq a b=some (decide (a=b)):=by
 refine jr (F:=BZ) (fun x=>nP x.2) (fun x=>nP x.2<=aW) (fun x=>decide (x.1=x.2)) (fun R x hx ih=>?_) (a,b) hb (fo hb)
 obtain⟨u,v⟩:=x
 have hx:nP v<=aW:=hx
 show xk (fun a a2=>R (a,a2)) u v=some (decide (u=v))
 unfold xk zb
 have hk:=lJ v
 by_cases h1:u.Op=v.Op
 ·by_cases h2:u.Name=v.Name
  ·by_cases h3:u.N=v.N
   ·by_cases h4:u.Kids.length=v.Kids.length
    ·rw[vaj (by simpa using h1),vaj (by simpa using h2),vaj (by simpa using h3)]
     simp only[h4,bne_self_eq_false,vaa,if_false,vaz]
     unfold zc
     rw[<-h4,Ov h4 (by unfold aW at hx;omega) _ (.inl ()) (.inr ()) (fun i g1 g2=>?_) ?_]
     ·by_cases he:u.Kids=v.Kids<;>simp[he,wI (a:=u) (b:=v),h1,h2,h3]
     ·unfold pb
      rw[vaj (by simp)]
     ·unfold pb
      rw[vai (by simp;omega),bP u.Kids i g1]
      simp only[vaa]
      rw[bP v.Kids i g2]
      simp only[vaa]
      have hm:=vav g2
      rw[ih (u.Kids[i],v.Kids[i]) (mA hm) (vcu (vaD (mA hm) hx))]
      by_cases he:u.Kids[i]=v.Kids[i]<;>simp[he]
    ·have hne:u≠v:=fun e=>h4 (by rw[e])
     rw[vaj (by simpa using h1),vaj (by simpa using h2),vaj (by simpa using h3)]
     have hb:((u.Kids.length:Int)!=(v.Kids.length:Int))=true:=by simp;omega
     simp[hb,hne]
   ·have hne:u≠v:=fun e=>h3 (by rw[e])
    rw[vaj (by simpa using h1),vaj (by simpa using h2),vai (by simpa using h3)]
    simp[hne]
  ·have hne:u≠v:=fun e=>h2 (by rw[e])
   rw[vaj (by simpa using h1),vai (by simpa using h2)]
   simp[hne]
 ·have hne:u≠v:=fun e=>h1 (by rw[e])
  rw[vai (by simpa using h1)]
  simp[hne]
def qQ:aa:=⟨0,[],0,[]⟩
def Ke:aa:=⟨2,[],1,[]⟩
def BM(p:aa):Bool:=decide (p=qQ)||decide (p=Ke)
theorem Ux:nP Ke<=aW:=by decide
theorem QI:nP qQ<=aW:=by decide
theorem OU(p:aa):ze p=some (BM p):=by
 have h1:gq p (⟨0,([]:ag),0,([]:List aa)⟩:aa)=some (decide (p=qQ)):=Ac p qQ QI
 have h2:gq p (⟨2,([]:ag),1,([]:List aa)⟩:aa)=some (decide (p=Ke)):=Ac p Ke Ux
 unfold ze Ik BM
 simp only[vaa,h2,h1]
 cases decide (p=Ke)<;>cases decide (p=qQ)<;>rfl
theorem L2{α σ X:Type}(g:α->σ->σ)(e:σ->X):∀(l:List α) (i:Nat) (s:σ),gH (fun _ x (s:σ)=>(Sum.inl (g x s):σ⊕X)) e l i s=e (l.foldl (fun s x=>g x s) s)
 |[],i,s=>by simp[gH]
 |x::l,i,s=>by
  unfold gH
  simp only
  rw[L2 g e l (i+1) (g x s)]
  rfl
theorem EV{α σ τ X:Type}(l:List α)(hl:l.length<9223372036854775808)(mk:Int->σ->τ)(body:τ->Option (τ⊕X))(I:Nat->σ->Prop)(g:α->σ->σ)(e:σ->X)(s0:σ)(h0:I 0 s0)
  (hin:∀(i:Nat) (h:i<l.length) s,I i s->body (mk i s)=some (.inl (mk (bA ((i:Int)+1)) (g l[i] s)))/\I (i+1) (g l[i] s)) (hend:∀s,I l.length s->body (mk l.length s)=some (.inr (e s))):
  loop body (mk 0 s0)=some (e (l.foldl (fun s x=>g x s) s0)):=by
 have:=ir l hl mk body I (fun _ x s=>.inl (g x s)) e (fun i h s hs=>⟨(hin i h s hs).1,fun s' hs'=>by cases hs';exact(hin i h s hs).2⟩) (fun s hs=>hend s hs) 0 s0 (vaB _) h0
 rw[L2]at this
 exact this
theorem uo(l:List aa)(i:Nat)(h:i<l.length):nL (l.take (i+1))=nL (l.take i)+nP l[i]:=by
 rw[vaK h,AF]
 simp[nL]
theorem j1(l:List aa)(i:Nat):nL (l.take i)<=nL l:=by
 have:=AF (l.take i) (l.drop i)
 rw[vbX]at this
 omega
theorem Qz:∀(l:List aa) (a:Int),l.foldl (fun s x=>s+(nP x:Int)) a=a+(nL l:Int)
 |[],a=>by simp[nL]
 |x::l,a=>by rw[List.foldl_cons,Qz l,nL];omega
theorem DJ(p:aa)(hp:nP p<=aW):oz p=some (nP p:Int):=by
 refine jr (F:=tS) nP (fun x=>nP x<=aW) (fun x=>(nP x:Int)) (fun R x hx ih=>?_) p hp (fo hp)
 show tR (fun p=>R p) x=_
 unfold tR xi
 have hlen:=lJ x
 have hn:=Gb x
 rw[EV x.Kids (by unfold aW at hx;omega) (fun i s=>(s,i)) _ (fun i s=>s=1+(nL (x.Kids.take i):Int)) (fun x s=>s+(nP x:Int)) id 1 (by simp[nL]) (fun i hi s hs=>?_) (fun s _=>?_)]
 ·rw[Qz]
  simp only[id,vaa]
  rw[hn];congr 1;omega
 ·have hm:=vav hi
  have hk:=mA hm
  refine⟨?_,by rw[uo _ _ hi,hs];omega⟩
  unfold nn
  rw[vai (by simp;omega),bP x.Kids i hi]
  simp only[vaa]
  rw[ih _ hk (by omega)]
  simp only[vaa]
  have h1:=j1 x.Kids i
  have h2:=j1 x.Kids (i+1)
  have h3:=uo x.Kids i hi
  unfold aW at hx
  rw[il (n:=s+_) (by omega) (by omega)]
 ·unfold nn
  rw[vaj (by simp)]
  rfl
theorem Sx{α:Type}[DecidableEq α](v:α)(l:List α):l.any (fun x=>decide (v=x))=decide (v∈l):=by
 rw[vb6]
 simp
theorem VT(l:List aa)(v:aa)(hv:nP v<=aW)(hl:l.length<9223372036854775808):DX l v=some (decide (v∈l)):=by
 unfold DX zW
 have h:=lL l hl (fun zz=>gb v l (l.length:Int) zz) (fun x=>decide (v=x)) (.inl ()) (.inr ()) (fun i hi=>?_) ?_ 0 (vaB _)
 ·rw[vaU,Sx]at h
  rw[show((0:Nat):Int)=0 from rfl]at h
  rw[h]
  by_cases hm:v∈l<;>simp[hm]
 ·show gb v l (l.length:Int) (i:Int)=_
  unfold gb
  rw[vai (by simp;omega),bP l i hi]
  simp only[vaa]
  rw[HS v _ hv]
  by_cases he:v=l[i]<;>simp[he]
 ·show gb v l (l.length:Int) (l.length:Int)=_
  unfold gb
  rw[vaj (by simp)]
theorem UF(l:List aa)(v:aa)(hv:nP v<=aW)(hl:l.length<9223372036854775808):HH l v=some (decide (v∈l)):=by
 unfold HH BY
 have h:=lL l hl (fun zz=>g8 v l (l.length:Int) zz) (fun x=>decide (v=x)) (.inl ()) (.inr ()) (fun i hi=>?_) ?_ 0 (vaB _)
 ·rw[vaU,Sx]at h
  rw[show((0:Nat):Int)=0 from rfl]at h
  rw[h]
  by_cases hm:v∈l<;>simp[hm]
 ·show g8 v l (l.length:Int) (i:Int)=_
  unfold g8
  rw[vai (by simp;omega),bP l i hi]
  simp only[vaa]
  rw[Ac _ v hv]
  by_cases he:v=l[i]
  ·simp[he]
  ·have he':¬l[i]=v:=fun h=>he h.symm
   simp[he,he']
 ·show g8 v l (l.length:Int) (l.length:Int)=_
  unfold g8
  rw[vaj (by simp)]
mutual
def rm(op:Int):aa->List aa->List aa
 |⟨o,n,k,ks⟩,a=>let a':=tG op ks a
  if o=op/\(⟨o,n,k,ks⟩:aa)∉a' then a'++[⟨o,n,k,ks⟩]else a'
def tG(op:Int):List aa->List aa->List aa
 |[],a=>a
 |p::ps,a=>tG op ps (rm op p a)
end
theorem QD(op:Int)(p:aa)(a:List aa):rm op p a=if p.Op=op/\p∉tG op p.Kids a then tG op p.Kids a++[p]else tG op p.Kids a:=by
 obtain⟨o,n,k,ks⟩:=p
 rw[rm];rfl
theorem v7(op:Int):∀(l a:List aa),l.foldl (fun s x=>rm op x s) a=tG op l a
 |[],a=>by rw[tG];rfl
 |p::l,a=>by rw[List.foldl_cons,v7 op l,tG]
mutual
theorem I7(op:Int):∀(p:aa) (a:List aa),(rm op p a).length<=a.length+nP p
 | ⟨o,n,k,ks⟩,a => by
  have:=v8 op ks a
  rw[rm,nP]
  show(if o=op/\(⟨o,n,k,ks⟩:aa)∉tG op ks a then tG op ks a++[⟨o,n,k,ks⟩]else tG op ks a).length<=a.length+(nL ks+1)
  split
  ·simp only[vaw,List.length_singleton]
   omega
  ·omega
theorem v8(op:Int):∀(l a:List aa),(tG op l a).length<=a.length+nL l
 |[],a=>by rw[tG,nL];omega
 |p::l,a=>by
  have:=I7 op p a
  have:=v8 op l (rm op p a)
  rw[tG,nL]
  omega
end
theorem LG(op:Int)(l a:List aa)(i:Nat)(h:i<l.length):tG op (l.take (i+1)) a=rm op l[i] (tG op (l.take i) a):=by
 rw[<-v7,<-v7,vaK h,vbI]
 rfl
theorem S2(p:aa)(op:Int)(a:List aa)(hp:nP p+a.length<=aW):CD p op a=some (rm op p a):=by
 refine jr (F:=xW) (fun x=>nP x.1) (fun x=>nP x.1+x.2.2.length<=aW) (fun x=>rm x.2.1 x.1 x.2.2) (fun R x hx ih=>?_) (p,op,a) hp (fo (by show nP p<=aW;omega))
 obtain⟨p,op,a⟩:=x
 have hx:nP p+a.length<=aW:=hx
 show rr (fun p op a=>R (p,op,a)) p op a=some (rm op p a)
 unfold rr vC
 have hlen:=lJ p
 have hn:=Gb p
 rw[EV p.Kids (by unfold aW at hx;omega) (fun i s=>(s,i)) _ (fun i s=>s=tG op (p.Kids.take i) a) (fun x s=>rm op x s) id a (by simp[tG]) (fun i hi s hs=>?_) (fun s _=>?_)]
 ·simp only[id,vaa]
  rw[v7]
  have hl:=v8 op p.Kids a
  unfold vB
  rw[QD]
  by_cases h1:p.Op=op
  ·rw[vai (by simpa using h1),VT _ p (by omega) (by unfold aW at hx;omega)]
   simp only[vaa]
   by_cases h2:p∈tG op p.Kids a
   ·simp[h2]
   ·simp only[h2,decide_false,vbT,if_true,Rj p (by omega),vaa,not_false_eq_true,vcw]
    rw[eJ (by unfold aW at hx;simp;omega)]
    simp[h1]
  ·rw[vaj (by simpa using h1)]
   simp[h1]
 ·have hm:=vav hi
  have hk:=mA hm
  refine⟨?_,by rw[LG _ _ _ _ hi,hs]⟩
  unfold ml
  rw[vai (by simp;omega),bP p.Kids i hi]
  simp only[vaa]
  have h1:=v8 op (p.Kids.take i) a
  have h2:=j1 p.Kids (i+1)
  have h3:=uo p.Kids i hi
  rw[ih (p.Kids[i],op,s) hk (by show nP p.Kids[i]+s.length<=aW;rw[hs];omega)]
  rfl
 ·unfold ml
  rw[vaj (by simp)]
  rfl
theorem PC(p:aa)(op:Int)(a:List aa)(hp:nP p+a.length<=aW):zf p op a=some (rm op p a):=by
 refine jr (F:=uU) (fun x=>nP x.1) (fun x=>nP x.1+x.2.2.length<=aW) (fun x=>rm x.2.1 x.1 x.2.2) (fun R x hx ih=>?_) (p,op,a) hp (fo (by show nP p<=aW;omega))
 obtain⟨p,op,a⟩:=x
 have hx:nP p+a.length<=aW:=hx
 show pd (fun p op a=>R (p,op,a)) p op a=some (rm op p a)
 unfold pd su
 have hlen:=lJ p
 have hn:=Gb p
 rw[EV p.Kids (by unfold aW at hx;omega) (fun i s=>(s,i)) _ (fun i s=>s=tG op (p.Kids.take i) a) (fun x s=>rm op x s) id a (by simp[tG]) (fun i hi s hs=>?_) (fun s _=>?_)]
 ·simp only[id,vaa]
  rw[v7]
  have hl:=v8 op p.Kids a
  unfold sq
  rw[QD]
  by_cases h1:p.Op=op
  ·rw[vai (by simpa using h1),UF _ p (by omega) (by unfold aW at hx;omega)]
   simp only[vaa]
   by_cases h2:p∈tG op p.Kids a
   ·simp[h2]
   ·simp only[h2,decide_false,vbT,if_true,not_false_eq_true,vcw]
    rw[eJ (by unfold aW at hx;simp;omega)]
    simp[h1]
  ·rw[vaj (by simpa using h1)]
   simp[h1]
 ·have hm:=vav hi
  have hk:=mA hm
  refine⟨?_,by rw[LG _ _ _ _ hi,hs]⟩
  unfold kn
  rw[vai (by simp;omega),bP p.Kids i hi]
  simp only[vaa]
  have h1:=v8 op (p.Kids.take i) a
  have h2:=j1 p.Kids (i+1)
  have h3:=uo p.Kids i hi
  rw[ih (p.Kids[i],op,s) hk (by show nP p.Kids[i]+s.length<=aW;rw[hs];omega)]
  rfl
 ·unfold kn
  rw[vaj (by simp)]
  rfl
theorem Of{l:List ag}{v:ag}:(match l.findIdx? (fun x=>x==v)with|some j=>(j:Int)|none=>-1)>=0↔v∈l:=by
 cases h:l.findIdx? (fun x=>x==v)with
 | none =>
  rw[vbv]at h
  simp only
  constructor
  ·intro h';omega
  ·intro hm;have:=h v hm;simp at this
 | some j =>
  obtain⟨hj,h1,_⟩:=vba.1 h
  simp only
  constructor
  ·intro _
   have:l[j]=v:=by simpa using h1
   exact this▸vav hj
  ·intro _;omega
theorem TA(l:List ag)(v:ag)(hl:l.length<9223372036854775808):im l v=some (match l.findIdx? (fun x=>x==v)with|some j=>(j:Int)|none=>-1):=by
 unfold im tL
 have h:=AD l hl (fun zz=>du l v (l.length:Int) zz) (fun x=>x==v) (fun j=>Sum.inl (j:Int)) (.inr ()) (fun i hi=>?_) ?_
 ·rw[h]
  simp only[vaa]
  cases l.findIdx? (fun x=>x==v)<;>rfl
 ·show du l v (l.length:Int) (i:Int)=_
  unfold du
  rw[vai (by simp;omega),bP l i hi]
  simp only[vaa]
  by_cases he:(l[i]==v)=true<;>simp[he]
 ·show du l v (l.length:Int) (l.length:Int)=_
  unfold du
  rw[vaj (by simp)]
theorem S1(l:List ag)(v:ag)(hl:l.length<9223372036854775808):oc l v=some (match l.findIdx? (fun x=>x==v)with|some j=>(j:Int)|none=>-1):=by
 unfold oc qB
 have h:=AD l hl (fun zz=>dD l v (l.length:Int) zz) (fun x=>x==v) (fun j=>Sum.inl (j:Int)) (.inr ()) (fun i hi=>?_) ?_
 ·rw[h]
  simp only[vaa]
  cases l.findIdx? (fun x=>x==v)<;>rfl
 ·show dD l v (l.length:Int) (i:Int)=_
  unfold dD
  rw[vai (by simp;omega),bP l i hi]
  simp only[vaa]
  by_cases he:v=l[i]
  ·subst he;simp
  ·have he':¬l[i]=v:=fun h=>he h.symm
   simp[he,he']
 ·show dD l v (l.length:Int) (l.length:Int)=_
  unfold dD
  rw[vaj (by simp)]
theorem F3(l:List ag)(v:ag)(hl:l.length<9223372036854775808):da l v=some (decide (v∈l)):=by
 unfold da
 rw[S1 l v hl]
 simp only[vaa]
 congr 1
 exact decide_eq_decide.2 Of
def fZ{α:Type}(o:Option α)(Q:α->Prop):Prop:=∃a,o=some a/\Q a
section
variable{α β σ τ X Y:Type}
theorem al{a:α}{Q:α->Prop}(h:Q a):fZ (some a) Q:=⟨a,rfl,h⟩
theorem Qh{o:Option α}{a:α}{Q:α->Prop}(e:o=some a)(h:Q a):fZ o Q:=⟨a,e,h⟩
theorem ay{o:Option α}{f:α->Option β}{R:α->Prop}{Q:β->Prop}(h:fZ o R)(h':∀a,R a->fZ (f a) Q):fZ (o.bind f) Q:=by
 obtain⟨a,rfl,h⟩:=h
 exact h' a h
theorem co{o:Option α}{a:α}{f:α->Option β}{Q:β->Prop}(e:o=some a)(h:fZ (f a) Q):fZ (o.bind f) Q:=by
 rw[e];exact h
theorem fZ.mono{o:Option α}{Q R:α->Prop}(h:fZ o Q)(h':∀a,Q a->R a):fZ o R:=by
 obtain⟨a,e,h⟩:=h
 exact⟨a,e,h' a h⟩
theorem aE{c:Prop}[Decidable c]{a b:Option α}{Q:α->Prop}(h1:c->fZ a Q)(h2:¬c->fZ b Q):fZ (if c then a else b) Q:=by
 by_cases h:c
 ·rw[vai h];exact h1 h
 ·rw[vaj h];exact h2 h
theorem UN{o:Option α}{a:α}:fZ o (fun x=>x=a)↔o=some a:=by
 constructor
 ·rintro⟨x,e,rfl⟩;exact e
 ·intro e;exact⟨a,e,rfl⟩
theorem tA{F:(X->Option Y)->X->Option Y}(μ:X->Nat)(P:X->Prop)(Q:X->Y->Prop)(h:∀(R:X->Option Y) x,P x->(∀y,μ y<μ x->P y->fZ (R y) (Q y))->fZ (F R x) (Q x))(x:X)(hx:P x)(hm:μ x<Ul):fZ (ku F x) (Q x):=by
 have key:∀n x,μ x<n->P x->fZ (VW F n x) (Q x):=by
  intro n
  induction n with
  |zero=>intro x hx;omega
  |succ n ih=>intro x hx hq;exact h _ x hq fun y hy hqy=>ih y (by omega) hqy
 exact key _ x hm hx
theorem AQ(l:List α)(hl:l.length<9223372036854775808)(mk:Int->σ->τ){body:τ->Option (τ⊕X)}(I:Nat->σ->Prop){Q:X->Prop}
  (hin:∀(i:Nat) (h:i<l.length) s,I i s->fZ (body (mk i s)) (fun r=>match r with|.inl t=>∃s',t=mk (bA ((i:Int)+1)) s'/\I (i+1) s'|.inr y=>Q y))
  (hend:∀s,I l.length s->fZ (body (mk l.length s)) (fun r=>match r with|.inl _=>False|.inr y=>Q y)):∀s,I 0 s->fZ (loop body (mk 0 s)) Q:=by
 have key:∀k i s,k+i=l.length->I i s->fZ (loop body (mk (i:Int) s)) Q:=by
  intro k
  induction k with
  |zero=>
   intro i s hi hI
   have:i=l.length:=by omega
   subst this
   obtain⟨r,e,hr⟩:=hend s hI
   rw[mf,e]
   cases r with
   |inl _=>exact hr.elim
   |inr y=>exact⟨y,rfl,hr⟩
  | succ k ih =>
   intro i s hi hI
   obtain⟨r,e,hr⟩:=hin i (by omega) s hI
   rw[mf,e]
   cases r with
   |inl t=>
    obtain⟨s',rfl,hI'⟩:=hr
    simp only
    rw[il (by omega) (by omega),show((i:Int)+1)=((i+1:Nat):Int) by omega]
    exact ih (i+1) s' (by omega) hI'
   |inr y=>exact⟨y,rfl,hr⟩
 exact fun s hs=>key l.length 0 s (by omega) hs
end
section
variable{α β σ τ X Y:Type}
theorem mB(l:List α)(hl:l.length<9223372036854775808)(mk:Int->σ->τ)(body:τ->Option (τ⊕X))(k:Int->σ->α->Option (τ⊕X))(I:Nat->σ->Prop)(g:α->σ->σ)(e:σ->X)(s0:σ)(h0:I 0 s0)
  (hb:∀(i:Int) (s:σ),body (mk i s)=if decide (i<(l.length:Int))=true then(dt l i).bind (k i s)else some (.inr (e s)))
  (hin:∀(i:Nat) (h:i<l.length) s,I i s->k i s l[i]=some (.inl (mk (bA ((i:Int)+1)) (g l[i] s)))/\I (i+1) (g l[i] s)):loop body (mk 0 s0)=some (e (l.foldl (fun s x=>g x s) s0)):=by
 have:=ir l hl mk body I (fun _ x s=>.inl (g x s)) e (fun i h s hs=>⟨?_,fun s' hs'=>by cases hs';exact(hin i h s hs).2⟩) (fun s hs=>by rw[hb,vaj (by simp)]) 0 s0 (vaB _) h0
 ·rw[vaU,show((0:Nat):Int)=0 from rfl]at this
  rw[this]
  have key:∀(l:List α) (i:Nat) (s:σ),gH (fun _ x (s:σ)=>(Sum.inl (g x s):σ⊕X)) e l i s=e (l.foldl (fun s x=>g x s) s):=by
   intro l
   induction l with
   |nil=>intro i s;rfl
   |cons x l ih=>intro i s;unfold gH;simp only;rw[ih];rfl
  rw[key]
 ·rw[hb,vai (by simp;omega),bP l i h]
  simp only[vaa]
  exact(hin i h s hs).1
theorem FE(l:List α)(hl:l.length<9223372036854775808)(mk:Int->σ->τ){body:τ->Option (τ⊕X)}(k:Int->σ->α->Option (τ⊕X))(e:σ->X)(I:Nat->σ->Prop){Q:X->Prop}
  (hb:∀(i:Int) (s:σ),body (mk i s)=if decide (i<(l.length:Int))=true then(dt l i).bind (k i s)else some (.inr (e s)))
  (hin:∀(i:Nat) (h:i<l.length) s,I i s->fZ (k i s l[i]) (fun r=>match r with|.inl t=>∃s',t=mk (bA ((i:Int)+1)) s'/\I (i+1) s'|.inr y=>Q y))
  (hend:∀s,I l.length s->Q (e s)):∀s,I 0 s->fZ (loop body (mk 0 s)) Q:=
 AQ l hl mk I (fun i h s hs=>by
  rw[hb,vai (by simp;omega),bP l i h]
  exact hin i h s hs) (fun s hs=>by
  rw[hb,vaj (by simp)]
  exact⟨_,rfl,hend s hs⟩)
theorem Sc(l:List α)(hl:l.length<9223372036854775808){body:Int->Option (Int⊕X)}(k:Int->α->Option (Int⊕X))(e:X)(I:Nat->Prop){Q:X->Prop}
  (hb:∀(i:Int),body i=if decide (i<(l.length:Int))=true then(dt l i).bind (k i)else some (.inr e))
  (hin:∀(i:Nat) (h:i<l.length),I i->fZ (k i l[i]) (fun r=>match r with|.inl t=>t=bA ((i:Int)+1)/\I (i+1)|.inr y=>Q y))
  (hend:I l.length->Q e) (h0:I 0):fZ (loop body 0) Q:=
 FE l hl (fun i (_:Unit)=>i) (fun i _=>k i) (fun _=>e) (fun i _=>I i) (fun i _=>hb i) (fun i h s hs=>(hin i h hs).mono fun r hr=>by
  cases r with
  |inl t=>exact⟨(),hr.1,hr.2⟩
  |inr y=>exact hr) (fun _ h=>hend h) () h0
end
def lE{α:Type}(p:α->α->Bool):List α->List α->Bool
 |[],[]=>true
 |x::a,y::b=>p x y&&lE p a b
 |_,_=>false
theorem NV{α:Type}{p:α->α->Bool}:∀{a b:List α},lE p a b=true->a.length=b.length
 |[],[],_=>rfl
 |x::a,y::b,h=>by
  rw[lE,vad]at h
  simp[NV h.2]
 |[],y::b,h=>by simp[lE]at h
 |x::a,[],h=>by simp[lE]at h
theorem HJ{α:Type}{p:α->α->Bool}:∀{a b:List α},a.length≠b.length->lE p a b=false:=fun{a b} h=>by
 rw[Bool.eq_false_iff]
 exact fun he=>h (NV he)
theorem Lk{α:Type}{p:α->α->Bool}:∀{a:List α},(∀x∈a,p x x=true)->lE p a a=true
 |[],_=>rfl
 |x::a,h=>by
  rw[lE,h x (by simp),vaX]
  exact Lk fun y hy=>h y (vaS _ hy)
theorem MJ{α:Type}[DecidableEq α]:∀{a b:List α},lE (fun x y=>decide (x=y)) a b=decide (a=b)
 |[],[]=>by simp[lE]
 |x::a,y::b=>by
  rw[lE,MJ]
  by_cases h1:x=y<;>by_cases h2:a=b<;>simp[h1,h2]
 |[],y::b=>by simp[lE]
 |x::a,[]=>by simp[lE]
theorem NW{α:Type}{p:α->α->Bool}:∀{a b:List α},a.length=b.length->(a.zip b).any (fun x=>!p x.1 x.2)= !lE p a b
 |[],[],_=>rfl
 |x::a,y::b,h=>by
  rw[List.zip_cons_cons,List.any_cons,NW (by simpa using h),lE]
  cases p x y<;>rfl
theorem rR{α X:Type}{a b:List α}(hl:a.length=b.length)(ha:a.length<9223372036854775808)(body:Int->Option (Int⊕X))(k:Int->α->α->Option (Int⊕X))(p:α->α->Bool)(y e:X)
  (hb:∀(i:Int),body i=if decide (i<(a.length:Int))=true then(dt a i).bind (fun x=>(dt b i).bind (k i x))else some (.inr e))
  (hk:∀x∈a,∀z∈b,∀i,k i x z=some (if p x z=true then .inl (bA (i+1))else .inr y)):loop body 0=some (if lE p a b=true then e else y):=by
 have hz:(a.zip b).length=a.length:=by simp[hl]
 have:=lL (a.zip b) (by omega) body (fun x=>!p x.1 x.2) y e (fun i h=>?_) (by rw[hb,vaj (by simp[hz])]) 0 (vaB _)
 ·rw[vaU,NW hl]at this
  rw[show((0:Nat):Int)=0 from rfl]at this
  rw[this]
  by_cases h:lE p a b=true<;>simp[h]
 ·have h1:i<a.length:=by omega
  have h2:i<b.length:=by omega
  rw[hb,vai (by simp;omega),bP a i h1]
  simp only[vaa]
  rw[bP b i h2]
  simp only[vaa]
  rw[hk _ (vav h1) _ (vav h2)]
  have hzi:(a.zip b)[i]=(a[i],b[i]):=by simp
  rw[hzi]
  by_cases h:p a[i] b[i]=true<;>simp[h]
mutual
def dP:aa->Nat
 |⟨_,_,_,ks⟩=>dL ks+1
def dL:List aa->Nat
 |[]=>0
 |p::ps=>max (dP p) (dL ps)
end
theorem Xp(p:aa):dP p=dL p.Kids+1:=by obtain⟨o,n,k,ks⟩:=p;rw[dP];rfl
mutual
theorem U1:∀(p:aa),dP p<=nP p
 |⟨o,n,k,ks⟩=>by have:=U0 ks;rw[dP,nP];omega
theorem U0:∀(l:List aa),dL l<=nL l
 |[]=>by simp[dL]
 |p::l=>by have:=U1 p;have:=U0 l;rw[dL,nL];omega
end
theorem Qy:∀(l:List aa) (a:Nat),l.foldl (fun(s:Int) x=>if(dP x:Int)>s then(dP x:Int)else s) (a:Int)=((max a (dL l):Nat):Int)
 |[],a=>by simp[dL]
 |x::l,a=>by
  rw[List.foldl_cons,show(if(dP x:Int)>(a:Int)then(dP x:Int)else(a:Int))=((max a (dP x):Nat):Int) by split<;>omega,Qy l,dL,Nat.max_assoc]
theorem N7(p:aa)(hp:nP p<=aW):vM p=some (dP p:Int):=by
 refine jr (F:=tQ) nP (fun x=>nP x<=aW) (fun x=>(dP x:Int)) (fun R x hx ih=>?_) p hp (fo hp)
 show tP (fun p=>R p) x=_
 unfold tP xg
 have hlen:=lJ x
 have hd:=U1 x
 have he:=Xp x
 have hz:(0:Int)=((0:Nat):Int):=rfl
 rw[mB x.Kids (by unfold aW at hx;omega) (fun i s=>(s,i)) _ (fun i s x=>(R x).bind fun r=>some (.inl ((if r>s then r else s),bA (i+1)))) (fun _ _=>True) (fun x s=>if(dP x:Int)>s then(dP x:Int)else s) id 0 trivial (fun i s=>rfl) (fun i hi s _=>⟨?_,trivial⟩)]
 ·rw[hz,Qy]
  simp only[id,vaa]
  unfold aW at hx
  rw[il (by omega) (by omega)]
  congr 1;omega
 ·have hm:=vav hi
  have hk:=mA hm
  rw[ih _ hk (by omega)]
  rfl
theorem Rq(t:ae):(⟨t.Op,t.Name,t.Args,t.Names,t.Pred,t.Preds⟩:ae)=t:=by cases t;rfl
theorem PH(t:ae):(⟨t.Op,t.Name,t.Args,t.Names,⟨t.Pred.Op,t.Pred.Name,t.Pred.N,t.Pred.Kids⟩,t.Preds⟩:ae)=t:=by rw[Ay,Rq]
mutual
def dJ:ae->Nat
 |⟨_,_,xs,ns,_,ps⟩=>sR xs+ns.length+ps.length+1
def sR:List ae->Nat
 |[]=>0
 |a::xs=>dJ a+sR xs
end
theorem AA(t:ae):dJ t=sR t.Args+t.Names.length+t.Preds.length+1:=by obtain⟨o,n,xs,ns,p,ps⟩:=t;rw[dJ];rfl
theorem S9(t:ae):1<=dJ t:=by rw[AA];omega
theorem ES:∀{l:List ae} {x:ae},x∈l->dJ x<=sR l
 | y :: l,x,h => by
  rw[sR]
  rcases vaE.1 h with rfl|h
  ·omega
  ·have:=ES h;omega
theorem ER:∀(l:List ae),l.length<=sR l
 |[]=>by simp[sR]
 |p::l=>by rw[sR];have:=ER l;have:=S9 p;simp only[vaV];omega
theorem hO{t a:ae}(h:a∈t.Args):dJ a<dJ t:=by rw[AA t];have:=ES h;omega
theorem jW(t:ae):t.Args.length<dJ t:=by rw[AA];have:=ER t.Args;omega
theorem rS(t:ae):t.Names.length<dJ t:=by rw[AA];omega
theorem kC(t:ae):t.Preds.length<dJ t:=by rw[AA];omega
mutual
def sH(Q:aa->Prop):ae->Prop
 |⟨_,_,xs,_,p,ps⟩=>Q p/\(∀q∈ps,Q q)/\vV Q xs
def vV(Q:aa->Prop):List ae->Prop
 |[]=>True
 |a::xs=>sH Q a/\vV Q xs
end
theorem vW(Q:aa->Prop)(t:ae):sH Q t↔Q t.Pred/\(∀q∈t.Preds,Q q)/\vV Q t.Args:=by obtain⟨o,n,xs,ns,p,ps⟩:=t;rw[sH];rfl
theorem oH(Q:aa->Prop):∀(l:List ae),vV Q l↔∀t∈l,sH Q t
 |[]=>by simp[vV]
 |a::l=>by rw[vV,oH Q l];simp
theorem Xw(l:List aa):l.length<=rq (l.map ac):=by
 have:=Nb l
 have:=Ow l
 omega
theorem Xx(l:List ag):l.length<=rq (l.map cS):=by
 have h:=OG (l.map cS) (fun x hx=>by
  obtain⟨s,_,rfl⟩:=vas.1 hx
  simp only[cS,Er,pm];omega)
 rwa[vbz]at h
theorem JD(t:ae):Er (af t)=1+(pm (.str t.Name)+(pm (sl af t.Args)+(pm (sl cS t.Names)+(1+(pm (.str t.Pred.Name)+(1+(pm (sl ac t.Pred.Kids)+(pm (sl ac t.Preds)+0)))))))):=by
 rw[ba];rfl
mutual
theorem M9:∀(t:ae),dJ t<=Er (af t)
 |⟨o,n,xs,ns,p,ps⟩=>by
  have h1:=Ot xs
  have h2:=Xw ps
  have h3:=Xx ns
  rw[dJ,JD]
  show _<=1+(pm (.str n)+(pm (sl af xs)+(pm (sl cS ns)+(1+(pm (.str p.Name)+(1+(pm (sl ac p.Kids)+(pm (sl ac ps)+0))))))))
  simp only[pm,sl]
  omega
theorem Ot:∀(l:List ae),sR l<=rq (l.map af)
 |[]=>by simp[sR]
 |a::l=>by
  have:=M9 a
  have:=Ot l
  rw[sR]
  simp only[vaW,rq]
  omega
end
def Ly(a b:aa):Bool:=(BM a&&BM b)||decide (a=b)
mutual
def mW:ae->ae->Bool
 |⟨o,n,xs,ns,p,ps⟩,⟨o',n',xs',ns',p',ps'⟩=>decide (o=o')&&(decide (n=n')&&(decide (ns=ns')&&(Ly p p'&&(lE Ly ps ps'&&vG xs xs'))))
def vG:List ae->List ae->Bool
 |[],[]=>true
 |a::xs,b::bs=>mW a b&&vG xs bs
 |_,_=>false
end
theorem J9:∀(a b:List ae),vG a b=lE mW a b
 |[],[]=>by rw[vG,lE]
 |a::xs,b::bs=>by rw[vG,lE,J9 xs bs]
 |[],b::bs=>by simp[vG,lE]
 |a::xs,[]=>by simp[vG,lE]
theorem OW(a b:ae):mW a b=(decide (a.Op=b.Op)&&(decide (a.Name=b.Name)&&(decide (a.Names=b.Names)&&(Ly a.Pred b.Pred&&(lE Ly a.Preds b.Preds&&lE mW a.Args b.Args))))):=by
 obtain⟨o,n,xs,ns,p,ps⟩:=a
 obtain⟨o',n',xs',ns',p',ps'⟩:=b
 rw[mW,J9];rfl
theorem N9(p:aa):Ly p p=true:=by simp[Ly]
mutual
theorem Ka:∀(t:ae),mW t t=true
 |⟨o,n,xs,ns,p,ps⟩=>by
  rw[mW,Gk xs,N9,Lk (fun x _=>N9 x)]
  simp
theorem Gk:∀(l:List ae),vG l l=true
 |[]=>by rw[vG]
 |a::xs=>by rw[vG,Ka a,Gk xs];rfl
end
theorem LX(a b:aa)(hb:nP b<=aW):vQ a b=some (Ly a b):=by
 unfold vQ Ly
 rw[OU a]
 simp only[vaa]
 rw[OU b,Ac a b hb]
 cases BM a<;>cases BM b<;>simp
theorem FB(a b:List ag)(ha:a.length<9223372036854775808):rZ a b=some (decide (a=b)):=by
 unfold rZ
 by_cases hl:a.length=b.length
 ·rw[vaj (by simp[hl])]
  unfold y6
  rw[rR hl ha (fun zz=>uO a b (a.length:Int) zz) (fun i x z=>if(!(x==z))=true then some (.inr (.inl ()))else some (.inl (bA (i+1)))) (fun x y=>decide (x=y)) (.inl ()) (.inr ()) (fun i=>rfl) (fun x _ z _ i=>by by_cases h:x=z<;>simp[h]),MJ]
  by_cases h:a=b<;>simp[h]
 ·rw[vai (by simp;omega),decide_eq_false (fun he=>hl (by rw[he]))]
theorem R5(a b:ae)(ha:dJ a<=aW)(hb:sH (fun p=>nP p<=aW) b):sA a b=some (mW a b):=by
 refine jr (F:=B5) (fun x=>dJ x.1) (fun x=>dJ x.1<=aW/\sH (fun p=>nP p<=aW) x.2) (fun x=>mW x.1 x.2) (fun R x hx ih=>?_) (a,b) ⟨ha,hb⟩ (fo ha)
 obtain⟨u,v⟩:=x
 obtain⟨hu,hv⟩:=hx
 have hu:dJ u<=aW:=hu
 have hv:sH (fun p=>nP p<=aW) v:=hv
 show xp (fun a a2=>R (a,a2)) u v=some (mW u v)
 obtain⟨v1,v2,v3⟩:=(vW _ v).1 hv
 have l1:=jW u
 have l2:=rS u
 have l3:=kC u
 unfold aW at hu
 unfold xp zo
 rw[OW]
 by_cases h1:u.Op=v.Op
 ·by_cases h2:u.Name=v.Name
  ·by_cases h3:u.Args.length=v.Args.length
   ·by_cases h4:u.Preds.length=v.Preds.length
    ·rw [vaj (by simpa using h1),vaj (by simpa using h2),vaj (by simp [h3]),vaj (by simp [h4]),FB _ _ (by omega),LX _ _ v1]
     simp only[vaa]
     by_cases h5:u.Names=v.Names
     ·by_cases h6:Ly u.Pred v.Pred=true
      ·simp only[h1,h2,h5,h6,decide_true,vck,vaz,if_false,vaa,vaX]
       unfold zp
       rw[rR h4 (by omega) (fun zz=>u7 u v (u.Preds.length:Int) zz) (fun i x z=>(vQ x z).bind fun r=>if(!r)=true then some (.inr (.inl ()))else some (.inl (bA (i+1)))) Ly (.inl ()) (.inr ()) (fun i=>rfl) (fun x _ z hz i=>by
        rw[LX _ _ (v2 z hz)]
        cases h:Ly x z<;>simp)]
       by_cases h7:lE Ly u.Preds v.Preds=true
       ·simp only[h7,if_true,vaa,vaX]
        unfold zq
        rw[rR h3 (by omega) (fun zz=>u9 (fun a a2=>R (a,a2)) u v (u.Args.length:Int) zz) (fun i x z=>(R (x,z)).bind fun r=>if(!r)=true then some (.inr (.inl ()))else some (.inl (bA (i+1)))) mW (.inl ()) (.inr ()) (fun i=>rfl) (fun x hx z hz i=>by
         rw[ih (x,z) (hO hx) ⟨by have:=hO hx;show dJ x<=aW;unfold aW;omega,(oH _ _).1 v3 z hz⟩]
         cases h:mW x z<;>simp)]
        cases h:lE mW u.Args v.Args<;>simp
       ·simp only[h7,if_false,vaa,vbU,vaz]
      ·simp only[h1,h2,h5,h6,decide_true,vck,vaz,if_false,vaa,vbT,if_true,vbU,vaX]
     ·simp only[h1,h2,h5,decide_true,decide_false,vbT,if_true,vaa,vbU,vaX]
    ·rw[vaj (by simpa using h1),vaj (by simpa using h2),vaj (by simp[h3]),vai (by simp;omega),HJ h4]
     simp
   ·rw[vaj (by simpa using h1),vaj (by simpa using h2),vai (by simp;omega),HJ h3]
    simp
  ·rw[vaj (by simpa using h1),vai (by simpa using h2)]
   simp[h2]
 ·rw[vai (by simpa using h1)]
  simp[h1]
section
variable{α β σ τ X Y:Type}
theorem kG{A:Type}(l:List α)(hl:l.length<9223372036854775808){body:Int->Option (Int⊕(A⊕Unit))}(k:Int->α->Option (Int⊕(A⊕Unit)))(P:α->Prop)(B:A->Prop)
  (hb:∀(i:Int),body i=if decide (i<(l.length:Int))=true then(dt l i).bind (k i)else some (.inr (.inr ())))
  (hk:∀x∈l,∀i,fZ (k i x) (fun r=>r.elim (fun t=>t=bA (i+1)/\P x) (fun y=>y.elim B (fun _=>False)))):fZ (loop body 0) (fun r=>r.elim B (fun _=>∀x∈l,P x)):=by
 refine Sc l hl k (.inr ()) (fun i=>∀j (h:j<l.length),j<i->P l[j]) hb (fun i hi hI=>(hk _ (vav hi) i).mono fun r hr=>?_) (fun hI x hx=>?_) (fun j _ h=>absurd h (vaM _))
 ·cases r with
  | inl t =>
   refine⟨hr.1,fun j hj h=>?_⟩
   by_cases he:j=i
   ·subst he;exact hr.2
   ·exact hI j hj (by omega)
  |inr y=>cases y with
   |inl a=>exact hr
   |inr u=>exact hr.elim
 ·obtain⟨j,hj,rfl⟩:=vcD hx
  exact hI j hj hj
end
theorem tv{a b:List ag}{x:ag}:x∈og a b↔x∈a\/x∈b:=(CQ a b).2 x
theorem Ae(a b:List ag):Gp (og a b):=(CQ a b).1
theorem TF{a b c d:List ag}(h:∀x,(x∈a\/x∈b)↔(x∈c\/x∈d)):og a b=og c d:=
 xI (Ae a b) (Ae c d) fun x=>by rw[tv,tv];exact h x
theorem QT{l a b:List ag}(hl:Gp l)(h:∀x,x∈l↔x∈a\/x∈b):l=og a b:=xI hl (Ae a b) fun x=>by rw[tv];exact h x
theorem wF(a b:List ag):(og a b).length<=a.length+b.length:=by
 have h1:=F0 (kg (a++b))
 have h2:=od (a++b)
 rw[vaw]at h2
 unfold og
 omega
theorem Uv(x:ag):Gp [x]:=by simp[Gp]
theorem QC:Gp ([]:List ag):=by simp[Gp]
def uj{α σ:Type}(g:Nat->α->σ->σ):List α->Nat->σ->σ
 |[],_,s=>s
 |x::l,i,s=>uj g l (i+1) (g i x s)
theorem Ji{α σ τ X:Type}(l:List α)(hl:l.length<9223372036854775808)(mk:Int->σ->τ)(body:τ->Option (τ⊕X))(k:Int->σ->α->Option (τ⊕X))(I:Nat->σ->Prop)(g:Nat->α->σ->σ)(e:σ->X)(s0:σ)(h0:I 0 s0)
  (hb:∀(i:Int) (s:σ),body (mk i s)=if decide (i<(l.length:Int))=true then(dt l i).bind (k i s)else some (.inr (e s)))
  (hin:∀(i:Nat) (h:i<l.length) s,I i s->k i s l[i]=some (.inl (mk (bA ((i:Int)+1)) (g i l[i] s)))/\I (i+1) (g i l[i] s)):loop body (mk 0 s0)=some (e (uj g l 0 s0)):=by
 have:=ir l hl mk body I (fun i x s=>.inl (g i x s)) e (fun i h s hs=>⟨?_,fun s' hs'=>by cases hs';exact(hin i h s hs).2⟩) (fun s hs=>by rw[hb,vaj (by simp)]) 0 s0 (vaB _) h0
 ·rw[vaU,show((0:Nat):Int)=0 from rfl]at this
  rw[this]
  have key:∀(l:List α) (i:Nat) (s:σ),gH (fun i x (s:σ)=>(Sum.inl (g i x s):σ⊕X)) e l i s=e (uj g l i s):=by
   intro l
   induction l with
   |nil=>intro i s;rfl
   |cons x l ih=>intro i s;unfold gH;simp only;rw[ih];rfl
  rw[key]
 ·rw[hb,vai (by simp;omega),bP l i h]
  simp only[vaa]
  exact(hin i h s hs).1
mutual
def Ma:aa->List ag
 |⟨o,n,k,ks⟩=>(if o=3 then[n]else[])++L9 ks
def L9:List aa->List ag
 |[]=>[]
 |p::ps=>Ma p++L9 ps
end
theorem Wc(p:aa):Ma p=(if p.Op=3 then[p.Name]else[])++L9 p.Kids:=by obtain⟨o,n,k,ks⟩:=p;rw[Ma];rfl
theorem Nx{x:ag}:∀{l:List aa},x∈L9 l↔∃p∈l,x∈Ma p
 |[]=>by simp[L9]
 |p::l=>by rw[L9,vaF,Nx];simp
mutual
theorem HU:∀(p:aa),(Ma p).length<=nP p
 |⟨o,n,k,ks⟩=>by
  have:=Nw ks
  rw[Ma,nP,vaw]
  split<;>simp<;>omega
theorem Nw:∀(l:List aa),(L9 l).length<=nL l
 |[]=>by simp[L9]
 |p::l=>by
  have:=HU p
  have:=Nw l
  rw[L9,nL,vaw];omega
end
mutual
theorem O3:∀(p:aa) (s:List ag),nP p<=aW->s.length+(Ma p).length<=1073741824->Eo qd p s=some (true,s++Ma p)
 | ⟨o,n,k,ks⟩,s,hp,hs => by
  rw[nP]at hp
  rw[Ma,vaw]at hs
  have hk:=Nb ks
  have h1:qd s ⟨o,n,k,ks⟩=some (true,s++(if o=3 then[n]else[])):=by
   unfold qd
   show(if(o==3)=true then(app s [n]).bind fun l=>some (true,l)else some (true,s))=_
   by_cases h:o=3
   ·rw[vai (by simpa using h),vai h,eJ (by rw[vai h]at hs;simp at hs ⊢;omega)]
    rfl
   ·rw[vaj (by simpa using h),vaj h,vbs]
  have h2:=L7 ks (s++(if o=3 then[n]else[])) (by omega) (by rw[vaw];omega)
  rw[Eo,h1]
  simp only[vaa]
  rw[vai (by unfold aW at hp;omega),h2,Ma,vbo]
theorem L7:∀(l:List aa) (s:List ag),nL l<=aW->s.length+(L9 l).length<=1073741824->tD qd l s=some (true,s++L9 l)
 |[],s,_,_=>by rw[tD,L9,vbs]
 |p::l,s,hp,hs=>by
  rw[nL]at hp
  rw[L9,vaw]at hs
  rw[tD,O3 p s (by omega) (by omega)]
  simp only[vaa]
  rw[L7 l _ (by omega) (by rw[vaw];omega),L9,vbo]
end
def gU(p:aa):List ag:=og (Ma p) []
theorem EO{p:aa}{x:ag}:x∈gU p↔x∈Ma p:=by unfold gU;rw[tv];simp
theorem vZ(p:aa):(gU p).length<=nP p:=by
 have h1:=wF (Ma p) []
 have h2:=HU p
 unfold gU
 simp at h1
 omega
theorem Tn(p:aa)(hp:nP p<=400000000):rU p=some (gU p):=by
 have h:=HU p
 unfold rU
 rw[O3 p [] (by unfold aW;omega) (by simp;omega)]
 simp only[vaa,va4]
 rw[zO _ _ (by simp;omega)]
 rfl
theorem zK{α:Type}(f:α->List ag):∀(l:List α) (s:List ag),Gp s->Gp (l.foldl (fun s x=>og s (f x)) s)/\∀x,x∈l.foldl (fun s x=>og s (f x)) s↔x∈s\/∃y∈l,x∈f y
 |[],s,h=>⟨h,by simp⟩
 |y::l,s,h=>by
  obtain⟨h1,h2⟩:=zK f l (og s (f y)) (Ae _ _)
  refine⟨h1,fun x=>?_⟩
  rw[List.foldl_cons,h2,tv]
  simp only[vaE,exists_eq_or_imp,or_assoc]
theorem TC(p:aa)(hp:nP p<=200000000):C4 p=some (gU p):=by
 refine jr (F:=BX) nP (fun x=>nP x<=200000000) gU (fun R x hx ih=>?_) p hp (fo (by unfold aW;omega))
 show xh (fun p=>R p) x=_
 unfold xh y9
 rw[show(if(x.Op==3)=true then some ([x.Name]:List ag)else some ([]:List ag))=some (if x.Op=3 then[x.Name]else[]) by by_cases h:x.Op=3<;>simp[h]]
 simp only[vaa]
 unfold za
 have hlen:=lJ x
 have hn:=Gb x
 have h0:(if x.Op=3 then[x.Name]else[]:List ag).length<=1:=by split<;>simp
 have hi0:Gp (if x.Op=3 then[x.Name]else[]:List ag):=by split;exact Uv _;exact QC
 rw[mB x.Kids (by omega) (fun i s=>(s,i)) _ (fun i s y=>(R y).bind fun r=>(kh s r).bind fun r6=>some (.inl (r6,bA (i+1)))) (fun i s=>s.length<=1+nL (x.Kids.take i)) (fun y s=>og s (gU y)) id (if x.Op=3 then[x.Name]else[]) (by simpa[nL]using h0) (fun i s=>rfl) (fun i hi s hs=>?_)]
 ·simp only[id,vaa]
  obtain⟨f1,f2⟩:=zK gU x.Kids (if x.Op=3 then[x.Name]else[]) hi0
  congr 1
  refine QT f1 fun y=>?_
  rw[f2,Wc,vaF,Nx]
  simp only[EO,vbB,or_false]
 ·have hm:=vav hi
  have hk:=mA hm
  have h1:=uo x.Kids i hi
  have h2:=j1 x.Kids (i+1)
  have h3:=vZ x.Kids[i]
  refine⟨?_,?_⟩
  ·rw[ih _ hk (by omega)]
   simp only[vaa]
   rw[wY _ _ (by omega) (by omega)]
   rfl
  ·have:=wF s (gU x.Kids[i])
   omega
def rh(o:Int)(ns:List ag)(i:Nat):List ag:=if o=6 then ns.take i else[]
mutual
def vT:ae->List ag
 |⟨o,n,xs,ns,p,ps⟩=>(Ma p++L9 ps).filter (fun s=>!(s==[118]))++UT o ns 0 xs
def UT(o:Int)(ns:List ag):Nat->List ae->List ag
 |_,[]=>[]
 |i,a::xs=>(vT a).filter (fun s=>!decide (s∈rh o ns i))++UT o ns (i+1) xs
end
theorem Vc(t:ae):vT t=(Ma t.Pred++L9 t.Preds).filter (fun s=>!(s==[118]))++UT t.Op t.Names 0 t.Args:=by obtain⟨o,n,xs,ns,p,ps⟩:=t;rw[vT];rfl
mutual
def wT:ae->Nat
 |⟨_,_,xs,_,p,ps⟩=>nP p+nL ps+uK xs
def uK:List ae->Nat
 |[]=>0
 |a::xs=>wT a+uK xs
end
theorem Mb(t:ae):wT t=nP t.Pred+nL t.Preds+uK t.Args:=by obtain⟨o,n,xs,ns,p,ps⟩:=t;rw[wT];rfl
theorem QX:∀{l:List ae} {x:ae},x∈l->wT x<=uK l
 | y :: l,x,h => by
  rw[uK]
  rcases vaE.1 h with rfl|h
  ·omega
  ·have:=QX h;omega
theorem UX{t a:ae}(h:a∈t.Args):wT a<=wT t:=by rw[Mb t];have:=QX h;omega
theorem Ep(l:List ae)(i:Nat)(h:i<l.length):uK (l.take (i+1))=uK (l.take i)+wT l[i]:=by
 have key:∀(a b:List ae),uK (a++b)=uK a+uK b:=by
  intro a b
  induction a with
  |nil=>simp[uK]
  |cons x a ih=>rw[vbk,uK,uK,ih];omega
 rw[vaK h,key]
 simp[uK]
theorem An:∀(l:List ae) (i:Nat),uK (l.take i)<=uK l
 |[],i=>by simp
 |x::l,0=>by simp[uK]
 |x::l,i+1=>by rw[List.take_succ_cons,uK,uK];have:=An l i;omega
mutual
theorem TN:∀(t:ae),(vT t).length<=wT t
 |⟨o,n,xs,ns,p,ps⟩=>by
  have h1:=QW o ns 0 xs
  have h2:=HU p
  have h3:=Nw ps
  have h4:=va2 (fun s=>!(s==[118])) (Ma p++L9 ps)
  rw[vT,wT,vaw]
  rw[vaw]at h4
  omega
theorem QW(o:Int)(ns:List ag):∀(i:Nat) (l:List ae),(UT o ns i l).length<=uK l
 |i,[]=>by simp[UT]
 |i,a::xs=>by
  have h1:=TN a
  have h2:=QW o ns (i+1) xs
  have h3:=va2 (fun s=>!decide (s∈rh o ns i)) (vT a)
  rw[UT,uK,vaw]
  omega
end
def freeT(t:ae):List ag:=og (vT t) []
theorem LB{t:ae}{x:ag}:x∈freeT t↔x∈vT t:=by unfold freeT;rw[tv];simp
theorem rO(t:ae):(freeT t).length<=wT t:=by
 have h1:=wF (vT t) []
 have h2:=TN t
 unfold freeT
 simp at h1
 omega
theorem Nu{o:Int}{ns:List ag}{x:ag}:∀{l:List ae} {i:Nat},x∈UT o ns i l↔∃(j:Nat) (h:j<l.length),x∈vT l[j]/\x∉rh o ns (i+j)
 |[],i=>by simp[UT]
 | a :: l,i => by
  rw[UT,vaF,Nu]
  simp only[vaL,vaQ,vbi]
  constructor
  ·rintro(h|⟨j,hj,h1,h2⟩)
   ·exact⟨0,by simp,by simpa using h⟩
   ·exact⟨j+1,by simp;omega,by simpa using h1,by rw[show i+(j+1)=i+1+j by omega];exact h2⟩
  ·rintro⟨j,hj,h1,h2⟩
   cases j with
   |zero=>exact .inl ⟨by simpa using h1,by simpa using h2⟩
   |succ j=>exact .inr ⟨j,by simp at hj;omega,by simpa using h1,by rw[show i+1+j=i+(j+1) by omega];exact h2⟩
theorem QU{α:Type}(l:List α)(i:Nat)(hl:l.length<9223372036854775808):Hy l none (some (if(l.length:Int)<(i:Int)then(l.length:Int)else(i:Int)))=some (l.take i):=by
 by_cases h:l.length<i
 ·rw[vai (by omega),Qf l l.length (vam _),vbP (vam _),vbP (by omega)]
 ·rw[vaj (by omega),Qf l i (by omega)]
theorem Rc(t:ae)(i:Nat)(h:t.Names.length<9223372036854775808):ka t i=some (rh t.Op t.Names i):=by
 unfold ka rh
 by_cases ho:t.Op=6
 ·rw[vaj (by simpa using ho),QU _ i h,vai ho]
  rfl
 ·rw[vai (by simpa using ho),vaj ho]
theorem Az(f:ag->Bool):∀(l a:List ag),l.foldl (fun s x=>if f x=true then s++[x]else s) a=a++l.filter f
 |[],a=>by simp
 |x::l,a=>by
  rw[List.foldl_cons,Az f l]
  by_cases h:f x=true<;>simp[h]
theorem Og{α:Type}(f:α->List ag):∀(l:List α) (a:List ag),l.foldl (fun s x=>s++f x) a=a++l.flatMap f
 |[],a=>by simp
 |x::l,a=>by rw[List.foldl_cons,Og f l,vcI,vbo]
theorem LA{α:Type}(f:Nat->α->List ag):∀(l:List α) (i:Nat) (a:List ag) (x:ag),x∈uj (fun i y s=>s++f i y) l i a↔x∈a\/∃(j:Nat) (h:j<l.length),x∈f (i+j) l[j]
 |[],i,a,x=>by simp[uj]
 | y :: l,i,a,x => by
  rw[uj,LA f l (i+1),vaF,or_assoc]
  refine or_congr_right ⟨?_,?_⟩
  ·rintro(h|⟨j,hj,h⟩)
   ·exact⟨0,by simp,by simpa using h⟩
   ·exact⟨j+1,by simp;omega,by rw[show i+(j+1)=i+1+j by omega];simpa using h⟩
  ·rintro⟨j,hj,h⟩
   cases j with
   |zero=>exact .inl (by simpa using h)
   |succ j=>exact .inr ⟨j,by simp at hj;omega,by rw[show i+1+j=i+(j+1) by omega];simpa using h⟩
theorem RR(l out:List ag)(h:out.length+l.length<=1073741824):iK l (l.length:Int) out 0=some (out++l.filter (fun s=>!(s==[118]))):=by
 unfold iK
 rw[mB l (by omega) (fun i s=>(s,i)) _ (fun i s x=>if(!(x==([118]:ag)))=true then(app s ([x]:List ag)).bind fun l8=>some (.inl (l8,bA (i+1)))else some (.inl (s,bA (i+1)))) (fun i s=>s.length<=out.length+i) (fun x s=>if(!(x==[118]))=true then s++[x]else s) id out (by simp) (fun i s=>rfl) (fun i hi s hs=>?_),Az]
 ·rfl
 ·refine⟨?_,by split<;>(try rw[vaw,List.length_singleton])<;>omega⟩
  by_cases hx:(!(l[i]==([118]:ag)))=true
  ·rw[vai hx,vai hx,eJ (by simp;omega)]
   rfl
  ·rw[vaj hx,vaj hx]
theorem RS(b l out:List ag)(hb:b.length<9223372036854775808)(h:out.length+l.length<=1073741824):iL b l (l.length:Int) out 0=some (out++l.filter (fun s=>!decide (s∈b))):=by
 unfold iL
 rw[mB l (by omega) (fun i s=>(s,i)) _ (fun i s x=>(da b x).bind fun r17=>if(!r17)=true then(app s ([x]:List ag)).bind fun l8=>some (.inl (l8,bA (i+1)))else some (.inl (s,bA (i+1)))) (fun i s=>s.length<=out.length+i) (fun x s=>if(!decide (x∈b))=true then s++[x]else s) id out (by simp) (fun i s=>rfl) (fun i hi s hs=>?_),Az]
 ·rfl
 ·refine⟨?_,by split<;>(try rw[vaw,List.length_singleton])<;>omega⟩
  rw[F3 b _ hb]
  simp only[vaa]
  by_cases hx:(!decide (l[i]∈b))=true
  ·rw[vai hx,vai hx,eJ (by simp;omega)]
   rfl
  ·rw[vaj hx,vaj hx]
theorem LU{p:aa}{ps:List aa}{x:ag}:(∃q∈[p]++ps,x∈Ma q)↔x∈Ma p++L9 ps:=by
 rw[vaF,Nx]
 simp
theorem Td(p:aa)(ps:List aa):nL ([p]++ps)=nP p+nL ps:=by
 rw[AF];simp[nL]
theorem RT(t:ae)(hw:wT t<=200000000)(hl:dJ t<=200000000):nN t=some (freeT t):=by
 refine jr (F:=tk) dJ (fun x=>wT x<=200000000/\dJ x<=200000000) freeT (fun R x hx ih=>?_) t ⟨hw,hl⟩ (fo (by unfold aW;omega))
 obtain⟨hw,hl⟩:=hx
 show nO (fun t=>R t) x=_
 have h1:=jW x
 have h2:=rS x
 have h3:=kC x
 have hwe:=Mb x
 have hn1:=Td x.Pred x.Preds
 unfold nO
 rw[eJ (by simp;omega)]
 simp only[vaa]
 unfold qu
 rw[mB ([x.Pred]++x.Preds) (by simp;omega) (fun i s=>(s,i)) _ (fun i s y=>(rU y).bind fun r4=>(iK r4 (r4.length:Int) s 0).bind fun o9=>some (.inl (o9,bA (i+1)))) (fun i s=>s.length<=nL (([x.Pred]++x.Preds).take i)) (fun y s=>s++(gU y).filter (fun s=>!(s==[118]))) id [] (by simp[nL]) (fun i s=>rfl) (fun i hi s hs=>?_),Og]
 ·simp only[id,vaa,va4]
  have hlen0:∀(l:List aa),(l.flatMap fun y=>(gU y).filter (fun s=>!(s==[118]))).length<=nL l:=by
   intro l
   induction l with
   |nil=>simp[nL]
   |cons y l ih=>
    have g1:=va2 (fun s=>!(s==[118])) (gU y)
    have g2:=vZ y
    rw[vcI,vaw,nL]
    omega
  have hlen:=hlen0 ([x.Pred]++x.Preds)
  have hmem:∀z,z∈(([x.Pred]++x.Preds).flatMap fun y=>(gU y).filter (fun s=>!(s==[118])))↔z∈(Ma x.Pred++L9 x.Preds).filter (fun s=>!(s==[118])):=by
   intro z
   rw[List.mem_flatMap,vaL,<-LU]
   simp only[vaL,EO]
   constructor
   ·rintro⟨y,hy,h,h'⟩;exact⟨⟨y,hy,h⟩,h'⟩
   ·rintro⟨⟨y,hy,h⟩,h'⟩;exact⟨y,hy,h,h'⟩
  generalize (([x.Pred]++x.Preds).flatMap fun y=>(gU y).filter (fun s=>!(s==[118])))=o10 at hlen hmem
  unfold qv
  have hI:∀(i:Nat) (h:i<x.Args.length) (s:List ag),s.length<=o10.length+uK (x.Args.take i)->(s++(freeT x.Args[i]).filter (fun z=>!decide (z∈rh x.Op x.Names i))).length<=o10.length+uK (x.Args.take (i+1)):=fun i h s hs=>by
   have g1:=va2 (fun z=>!decide (z∈rh x.Op x.Names i)) (freeT x.Args[i])
   have g2:=rO x.Args[i]
   have g3:=Ep x.Args i h
   rw[vaw];omega
  rw[Ji x.Args (by omega) (fun i s=>(s,i)) _ (fun i s y=>(ka x i).bind fun r13=>(R y).bind fun r14=>(iL r13 r14 (r14.length:Int) s 0).bind fun o20=>some (.inl (o20,bA (i+1)))) (fun i s=>s.length<=o10.length+uK (x.Args.take i)) (fun i y s=>s++(freeT y).filter (fun z=>!decide (z∈rh x.Op x.Names i))) id o10 (by simp[uK]) (fun i s=>rfl) (fun i hi s hs=>⟨?_,hI i hi s hs⟩)]
  ·simp only[id,vaa]
   have hlast:(uj (fun i y s=>s++(freeT y).filter (fun z=>!decide (z∈rh x.Op x.Names i))) x.Args 0 o10).length<=o10.length+uK x.Args:=by
    have key:∀(l:List ae) (i:Nat) (a:List ag),(uj (fun i y s=>s++(freeT y).filter (fun z=>!decide (z∈rh x.Op x.Names i))) l i a).length<=a.length+uK l:=by
     intro l
     induction l with
     |nil=>intro i a;simp[uj]
     |cons y l ih=>
      intro i a
      have g1:=va2 (fun z=>!decide (z∈rh x.Op x.Names i)) (freeT y)
      have g2:=rO y
      have g3:=ih (i+1) (a++(freeT y).filter (fun z=>!decide (z∈rh x.Op x.Names i)))
      rw[uj,uK]
      rw[vaw]at g3
      omega
    exact key x.Args 0 o10
   rw[zO _ _ (by simp;exact va1 hlast (by omega))]
   simp only[vaa]
   congr 1
   refine TF fun z=>?_
   rw[LA,Vc,vaF,hmem,Nu]
   simp only[vaL,LB,vaQ,vbi,vbB,or_false]
  ·have hm:=vav hi
   have g2:=rO x.Args[i]
   have g3:=Ep x.Args i hi
   have g4:=An x.Args (i+1)
   have g5:=hO hm
   have g6:=UX hm
   rw[Rc x i (by omega)]
   simp only[vaa]
   rw[ih _ g5 ⟨by omega,by omega⟩]
   simp only[vaa]
   have hbl:(rh x.Op x.Names i).length<9223372036854775808:=by
    unfold rh
    split
    ·rw[vaZ];omega
    ·simp
   rw[RS _ _ _ hbl (by omega)]
   rfl
 ·have hm:=vav hi
  have g1:=uo ([x.Pred]++x.Preds) i hi
  have g2:=j1 ([x.Pred]++x.Preds) (i+1)
  have g3:=vZ ([x.Pred]++x.Preds)[i]
  have g4:=va2 (fun s=>!(s==[118])) (gU ([x.Pred]++x.Preds)[i])
  refine⟨?_,by rw[vaw];omega⟩
  rw[Tn _ (by omega)]
  simp only[vaa]
  rw[RR _ _ (by omega)]
  rfl
theorem TB{l:List ag}{v:ag}(hl:l.length<9223372036854775808):∃r,im l v=some r/\(decide (r<0)= !decide (v∈l))/\(decide (r>=0)=decide (v∈l)):=by
 obtain⟨r,hr,hm⟩:∃r,im l v=some r/\(r>=0↔v∈l):=⟨_,TA l v hl,Of⟩
 refine⟨r,hr,?_,decide_eq_decide.2 hm⟩
 by_cases h:v∈l
 ·have:=hm.2 h
  rw[decide_eq_false (by omega),vau h];rfl
 ·have:¬(r>=0):=fun e=>h (hm.1 e)
  rw[vau (by omega),decide_eq_false h];rfl
def qG(ns l:List ag):List ag:=l.filter (fun s=>!decide (s∈ns))
theorem Oo{ns l:List ag}{x:ag}:x∈qG ns l↔x∈l/\x∉ns:=by
 unfold qG
 rw[vaL]
 simp
theorem Dv(ns l:List ag):(qG ns l).length<=l.length:=va2 ..
theorem Kl(a ns:List ag)(ha:a.length<=1073741824)(hn:ns.length<9223372036854775808):jU a ns=some (qG ns a):=by
 unfold jU sF
 rw[mB a (by omega) (fun i s=>(s,i)) _ (fun i s x=>(im ns x).bind fun r3=>if(decide (r3<0))=true then(app s ([x]:List ag)).bind fun l5=>some (.inl (l5,bA (i+1)))else some (.inl (s,bA (i+1)))) (fun i s=>s.length<=i) (fun x s=>if(!decide (x∈ns))=true then s++[x]else s) id [] (by simp) (fun i s=>rfl) (fun i hi s hs=>?_),Az]
 ·rfl
 ·refine⟨?_,by split<;>(try rw[vaw,List.length_singleton])<;>omega⟩
  obtain⟨r,e1,e2,_⟩:=TB (l:=ns) (v:=a[i]) hn
  rw[e1]
  simp only[vaa,e2]
  by_cases hx:(!decide (a[i]∈ns))=true
  ·rw[vai hx,vai hx,eJ (by simp;omega)]
   rfl
  ·rw[vaj hx,vaj hx]
theorem SU{α:Type}(f:Nat->α->List ag):∀(l:List α) (i:Nat) (a:List ag),Gp a->Gp (uj (fun i y s=>og s (f i y)) l i a)/\∀x,x∈uj (fun i y s=>og s (f i y)) l i a↔x∈a\/∃(j:Nat) (h:j<l.length),x∈f (i+j) l[j]
 |[],i,a,h=>⟨h,by simp[uj]⟩
 | y :: l,i,a,h => by
  obtain⟨h1,h2⟩:=SU f l (i+1) (og a (f i y)) (Ae _ _)
  refine⟨h1,fun x=>?_⟩
  rw[uj,h2,tv,or_assoc]
  refine or_congr_right ⟨?_,?_⟩
  ·rintro(h|⟨j,hj,h⟩)
   ·exact⟨0,by simp,by simpa using h⟩
   ·exact⟨j+1,by simp;omega,by rw[show i+(j+1)=i+1+j by omega];simpa using h⟩
  ·rintro⟨j,hj,h⟩
   cases j with
   |zero=>exact .inl (by simpa using h)
   |succ j=>exact .inr ⟨j,by simp at hj;omega,by rw[show i+1+j=i+(j+1) by omega];simpa using h⟩
theorem R0(t:ae)(hw:wT t<=100000000)(hl:dJ t<=100000000):Iz t=some (freeT t):=by
 refine jr (F:=B4) dJ (fun x=>wT x<=100000000/\dJ x<=100000000) freeT (fun R x hx ih=>?_) t ⟨hw,hl⟩ (fo (by unfold aW;omega))
 obtain⟨hw,hl⟩:=hx
 show xo (fun t=>R t) x=_
 have h1:=jW x
 have h2:=rS x
 have h3:=kC x
 have hwe:=Mb x
 have hn1:=Td x.Pred x.Preds
 unfold xo
 rw[eJ (by simp;omega)]
 simp only[vaa]
 unfold zm
 rw[mB ([x.Pred]++x.Preds) (by simp;omega) (fun i s=>(s,i)) _ (fun i s y=>(C4 y).bind fun r4=>(jU r4 ([([118]:ag)]:List ag)).bind fun r5=>(kh s r5).bind fun r6=>some (.inl (r6,bA (i+1)))) (fun i s=>s.length<=nL (([x.Pred]++x.Preds).take i)) (fun y s=>og s (qG [([118]:ag)] (gU y))) id [] (by simp[nL]) (fun i s=>rfl) (fun i hi s hs=>?_)]
 ·simp only[id,vaa]
  obtain⟨f1,f2⟩:=zK (fun y=>qG [([118]:ag)] (gU y)) ([x.Pred]++x.Preds) [] QC
  have hlen0:∀(l:List aa) (a:List ag),(l.foldl (fun s y=>og s (qG [([118]:ag)] (gU y))) a).length<=a.length+nL l:=by
   intro l
   induction l with
   |nil=>intro a;simp
   |cons y l ih=>
    intro a
    have g1:=Dv [([118]:ag)] (gU y)
    have g2:=vZ y
    have g3:=ih (og a (qG [([118]:ag)] (gU y)))
    have g4:=wF a (qG [([118]:ag)] (gU y))
    rw[List.foldl_cons,nL]
    omega
  have hlen:=hlen0 ([x.Pred]++x.Preds) []
  simp only[List.length_nil,vaH]at hlen
  have hmem:∀z,z∈(([x.Pred]++x.Preds).foldl (fun s y=>og s (qG [([118]:ag)] (gU y))) [])↔z∈(Ma x.Pred++L9 x.Preds).filter (fun s=>!(s==[118])):=by
   intro z
   rw[f2,vaL,<-LU]
   simp only[vbB,false_or,Oo,EO,va9]
   constructor
   ·rintro⟨y,hy,h,h'⟩;exact⟨⟨y,hy,h⟩,by simpa using h'⟩
   ·rintro⟨⟨y,hy,h⟩,h'⟩;exact⟨y,hy,h,by simpa using h'⟩
  generalize (([x.Pred]++x.Preds).foldl (fun s y=>og s (qG [([118]:ag)] (gU y))) [])=o10 at hlen hmem f1
  unfold zn
  have hI:∀(i:Nat) (h:i<x.Args.length) (s:List ag),s.length<=o10.length+uK (x.Args.take i)->(og s (qG (rh x.Op x.Names i) (freeT x.Args[i]))).length<=o10.length+uK (x.Args.take (i+1)):=fun i h s hs=>by
   have g1:=Dv (rh x.Op x.Names i) (freeT x.Args[i])
   have g2:=rO x.Args[i]
   have g3:=Ep x.Args i h
   have g4:=wF s (qG (rh x.Op x.Names i) (freeT x.Args[i]))
   omega
  rw[Ji x.Args (by omega) (fun i s=>(s,i)) _ (fun i s y=>(Hy x.Names none (some (if(x.Names.length:Int)<i then(x.Names.length:Int)else i))).bind fun l10=>(pS x l10).bind fun o12=>(R y).bind fun r13=>(jU r13 o12).bind fun r14=>(kh s r14).bind fun r15=>some (.inl (r15,bA (i+1)))) (fun i s=>s.length<=o10.length+uK (x.Args.take i)) (fun i y s=>og s (qG (rh x.Op x.Names i) (freeT y))) id o10 (by simp[uK]) (fun i s=>rfl) (fun i hi s hs=>⟨?_,hI i hi s hs⟩)]
  ·simp only[id,vaa]
   obtain⟨g1,g2⟩:=SU (fun i y=>qG (rh x.Op x.Names i) (freeT y)) x.Args 0 o10 f1
   congr 1
   refine QT g1 fun z=>?_
   rw[g2,Vc,vaF,hmem,Nu]
   simp only[Oo,LB,vbB,or_false]
  ·have hm:=vav hi
   have g2:=rO x.Args[i]
   have g3:=Ep x.Args i hi
   have g4:=An x.Args (i+1)
   have g5:=hO hm
   have g6:=UX hm
   have g7:=Dv (rh x.Op x.Names i) (freeT x.Args[i])
   rw[QU _ i (by omega)]
   simp only[vaa]
   rw[show pS x (x.Names.take i)=some (rh x.Op x.Names i) by
    unfold pS rh
    by_cases ho:x.Op=6<;>simp[ho]]
   simp only[vaa]
   rw[ih _ g5 ⟨by omega,by omega⟩]
   simp only[vaa]
   have hbl:(rh x.Op x.Names i).length<9223372036854775808:=by
    unfold rh
    split
    ·rw[vaZ];omega
    ·simp
   rw[Kl _ _ (by omega) hbl]
   simp only[vaa]
   rw[wY _ _ (by omega) (by omega)]
   rfl
 ·have hm:=vav hi
  have g1:=uo ([x.Pred]++x.Preds) i hi
  have g2:=j1 ([x.Pred]++x.Preds) (i+1)
  have g3:=vZ ([x.Pred]++x.Preds)[i]
  have g4:=Dv [([118]:ag)] (gU ([x.Pred]++x.Preds)[i])
  have g5:=wF s (qG [([118]:ag)] (gU ([x.Pred]++x.Preds)[i]))
  refine⟨?_,by omega⟩
  rw[TC _ (by omega)]
  simp only[vaa]
  rw[Kl _ _ (by omega) (by simp)]
  simp only[vaa]
  rw[wY _ _ (by omega) (by omega)]
  rfl
mutual
def Cb(L:Nat):ae->Prop
 |⟨_,_,xs,ns,_,_⟩=>(∀s∈ns,s.length<=L)/\zE L xs
def zE(L:Nat):List ae->Prop
 |[]=>True
 |a::xs=>Cb L a/\zE L xs
end
theorem NY(L:Nat)(t:ae):Cb L t↔(∀s∈t.Names,s.length<=L)/\zE L t.Args:=by obtain⟨o,n,xs,ns,p,ps⟩:=t;rw[Cb];rfl
theorem Lm(L:Nat):∀(l:List ae),zE L l↔∀t∈l,Cb L t
 |[]=>by simp[zE]
 |a::l=>by rw[zE,Lm L l];simp
theorem Sw{L:Nat}{t a:ae}(h:Cb L t)(ha:a∈t.Args):Cb L a:=(Lm L _).1 ((NY L t).1 h).2 a ha
mutual
theorem Ln{L M:Nat}(h:L<=M):∀(t:ae),Cb L t->Cb M t
 |⟨_,_,xs,ns,_,_⟩,ht=>by
  rw[Cb]at ht ⊢
  exact⟨fun s hs=>va1 (ht.1 s hs) h,IL h xs ht.2⟩
theorem IL{L M:Nat}(h:L<=M):∀(l:List ae),zE L l->zE M l
 |[],_=>trivial
 |a::xs,hl=>by
  rw[zE]at hl ⊢
  exact⟨Ln h a hl.1,IL h xs hl.2⟩
end
theorem UK{ns:List ag}{s:ag}(h:s∈ns):s.length<=rq (ns.map cS):=by
 have h2:=OH (vas.2 ⟨s,h,rfl⟩:cS s∈ns.map cS)
 simp only[cS,Er,pm]at h2
 omega
mutual
theorem Qn(B:Nat):∀(t:ae),Er (af t)<=B->Cb B t
 |⟨o,n,xs,ns,p,ps⟩,h=>by
  rw[JD]at h
  have h:1+(pm (.str n)+(pm (sl af xs)+(pm (sl cS ns)+(1+(pm (.str p.Name)+(1+(pm (sl ac p.Kids)+(pm (sl ac ps)+0))))))))<=B:=h
  simp only[pm,sl]at h
  rw[Cb]
  exact⟨fun s hs=>by have:=UK hs;omega,NX B xs (by omega)⟩
theorem NX(B:Nat):∀(l:List ae),rq (l.map af)<=B->zE B l
 |[],_=>trivial
 |a::xs,h=>by
  simp only[vaW,rq]at h
  rw[zE]
  exact⟨Qn B a (by omega),NX B xs (by omega)⟩
end
mutual
theorem TP:∀(t:ae),wT t<=Er (af t)
 |⟨o,n,xs,ns,p,ps⟩=>by
  have h1:=TO xs
  have h2:=Ow ps
  have h3:=Ow p.Kids
  have h4:=Gb p
  rw[wT,JD]
  show _<=1+(pm (.str n)+(pm (sl af xs)+(pm (sl cS ns)+(1+(pm (.str p.Name)+(1+(pm (sl ac p.Kids)+(pm (sl ac ps)+0))))))))
  simp only[pm,sl]
  omega
theorem TO:∀(l:List ae),uK l<=rq (l.map af)
 |[]=>by simp[uK]
 |a::l=>by
  have:=TP a
  have:=TO l
  rw[uK]
  simp only[vaW,rq]
  omega
end
mutual
theorem Pe(B:Nat):∀(t:ae),wT t<=B->sH (fun p=>nP p<=B) t
 |⟨o,n,xs,ns,p,ps⟩,h=>by
  rw[wT]at h
  rw[sH]
  exact⟨by omega,fun q hq=>by have:=Jj hq;omega,Qo B xs (by omega)⟩
theorem Qo(B:Nat):∀(l:List ae),uK l<=B->vV (fun p=>nP p<=B) l
 |[],_=>trivial
 |a::xs,h=>by
  rw[uK]at h
  rw[vV]
  exact⟨Pe B a (by omega),Qo B xs (by omega)⟩
end
theorem IK:Ar=some true:=by kernel_rfl
theorem Rl(t:ae)(ht:dJ t<=aW):fZ (EH t) (fun _=>True):=by
 refine tA (F:=zB) dJ (fun x=>dJ x<=aW) (fun _ _=>True) (fun R x hx ih=>?_) t ht (fo ht)
 show fZ (uf (fun t=>R t) x) _
 unfold uf xz
 have h1:=jW x
 refine ay (R:=fun _=>True) (FE x.Args (by unfold aW at hx;omega) (fun i s=>(s,i)) (fun i s y=>(R y).bind fun r=>some (.inl (bA (s+r),bA (i+1)))) id (fun _ _=>True) (fun i s=>rfl) (fun i hi s _=>?_) (fun _ _=>trivial) 1 trivial) (fun a _=>al trivial)
 exact ay (ih _ (hO (vav hi)) (by have:=hO (vav hi);omega)) (fun a _=>al ⟨_,rfl,trivial⟩)
theorem Ur(l:List ae)(hl:sR l<=aW)(hp:vV (fun p=>nP p<=aW) l):fZ (MH l) (fun _=>True):=by
 refine tA (F:=EJ) sR (fun x=>sR x<=aW/\vV (fun p=>nP p<=aW) x) (fun _ _=>True) (fun R l hx ih=>?_) l ⟨hl,hp⟩ (fo hl)
 obtain⟨hl,hp⟩:=hx
 show fZ (As (fun a=>R a) l) _
 unfold As B8
 have h1:=ER l
 refine ay (kG l (by unfold aW at hl;omega) _ (fun _=>True) (fun _=>True) (fun i=>rfl) (fun x hx i=>?_)) (fun a _=>by cases a<;>exact al trivial)
 have hx1:=ES hx
 have hq:=(vW _ _).1 ((oH _ _).1 hp _ hx)
 have h2:=kC x
 have h3:=AA x
 refine ay (R:=fun _=>True) ?_ (fun o _=>aE (fun _=>al trivial) (fun _=>?_))
 ·unfold B7
  rw[PH]
  exact ay (Rl x (by omega)) fun _ _=>aE (fun _=>al trivial) fun _=>co (a:=(nP x.Pred:Int)) (by rw[Ay];exact DJ _ hq.1) (aE (fun _=>al trivial) fun _=>aE (fun _=>al trivial) fun _=>aE (fun _=>al trivial) fun _=>ay (ih x.Args (by omega) ⟨by omega,hq.2.2⟩) fun _ _=>al trivial)
 ·unfold B9
  refine ay (kG x.Preds (by unfold aW at hl;omega) _ (fun _=>True) (fun _=>True) (fun i=>rfl) (fun q hq' i=>?_)) (fun a _=>by
   cases a with
   |inl _=>exact al trivial
   |inr _=>exact al ⟨rfl,trivial⟩)
  exact co (DJ q (hq.2.1 q hq')) (aE (fun _=>al trivial) (fun _=>al ⟨rfl,trivial⟩))
def cE(c:Int):Bool:=decide (97<=c)&&decide (c<=122)
def lI(c:Int):Bool:=decide (65<=c)&&decide (c<=90)
def Bt(c:Int):Bool:=decide (48<=c)&&decide (c<=57)
theorem nF(c:Int):j5 c=some (cE c):=by unfold j5 cE;split<;>simp_all<;>omega
theorem wj(c:Int):lN c=some (lI c):=by unfold lN lI;split<;>simp_all<;>omega
theorem sU(c:Int):mQ c=some (Bt c):=by unfold mQ Bt;split<;>simp_all<;>omega
theorem kj(c:Int):gp c=some (cE c):=by unfold gp cE;split<;>simp_all<;>omega
theorem sh(c:Int):gN c=some (lI c):=by unfold gN lI;split<;>simp_all<;>omega
theorem qR(c:Int):ki c=some (Bt c):=by unfold ki Bt;split<;>simp_all<;>omega
def gW(b:UInt8):Bool:=cE b.toNat||Bt b.toNat||(b.toNat:Int)==95
def fm(b:UInt8):Bool:=cE b.toNat||lI b.toNat||Bt b.toNat
def kf(s:ag):Bool:=decide ((s.length:Int)>=1)&&decide ((s.length:Int)<=24)
def U9(s:ag):Bool:=cr.any fun k=>k==s
def jt(p:Int->Bool)(s:ag):Bool:=match s with|[]=>false|c::_=>p c.toNat
abbrev Mi(s:ag):Prop:=s.length<9223372036854775808
theorem sX(s:ag):mR s=some (kf s):=by
 unfold mR kf
 by_cases h:(s.length:Int)>=1
 ·rw[vai (vau h),vau h];rfl
 ·rw[vaj (by simpa using h),decide_eq_false h];rfl
theorem E5(s:ag):pn s=some (U9 s):=by
 unfold pn oN
 have h42:cr.length=42:=rfl
 have:=lL cr (by rw[h42];omega) (fun zz=>e9 s zz) (fun k=>k==s) (Sum.inl ()) (Sum.inr ()) (fun i h=>by
  rw[h42]at h
  simp only[e9]
  rw[vai (by simp;omega),bP _ i (by rw[h42];omega)]
  simp only[vaa]
  split<;>simp_all) (by simp only[e9];rw[vaj (by rw[h42];simp)]) 0 (vaB _)
 simp only[Int.ofNat_zero,vaU]at this
 rw[this]
 unfold U9
 cases cr.any (fun k=>k==s)<;>rfl
theorem GI:w9=some cr:=rfl
theorem H4(s:ag):mM s=some (U9 s):=by
 unfold mM
 have h42:cr.length=42:=rfl
 rw[GI]
 simp only[vaa]
 rw[pI _ _ (by rw[h42];omega)]
 simp only[vaa,Dm]
 rfl
def nC(s:ag):Bool:=kf s&&jt cE s&&!U9 s&&s.all gW
def kv(s:ag):Bool:=kf s&&jt lI s&&s.all fm&&!(s==[73,110,116])&&!(s==[66,111,111,108])&&!(s==[67,101,108,108])&&!(s==[70,117,110])
def sN(b:Bool):Int:=if b then 0 else 3
theorem Jn(b:Bool):ur b=some (sN b):=by unfold ur sN;cases b<;>rfl
theorem FD{s:ag}(h:kf s=true):∃c r,s=c::r:=by
 cases s with
 |nil=>simp[kf]at h
 |cons c r=>exact⟨c,r,rfl⟩
theorem Fa(s:ag)(i:Nat)(h:i<s.length):pp s i=some (!gW s[i]):=by
 unfold pp gW
 simp only[jY s i h,vaa,nF,sU]
 cases cE (s[i].toNat:Int)<;>cases Bt (s[i].toNat:Int)<;>simp[bne]
theorem Gs(s:ag)(i:Nat)(h:i<s.length):gX s i=some (!gW s[i]):=by
 unfold gX gW
 simp only[jY s i h,vaa,kj,qR]
 cases cE (s[i].toNat:Int)<;>cases Bt (s[i].toNat:Int)<;>simp[bne]
theorem Fc(s:ag)(hs:Mi s)(i:Nat)(hi:i<=s.length):pq s i=some (if(s.drop i).any (fun b=>!gW b)=true then .inl ()else .inr ()):=by
 unfold pq
 refine lL s hs _ (fun b=>!gW b) _ _ (fun j h=>?_) ?_ i hi
 ·simp only[mj]
  rw[vai (by simp;omega),Fa s j h]
  simp only[vaa]
  split<;>simp_all
 ·simp only[mj];rw[vaj (by simp)]
theorem Gu(s:ag)(hs:Mi s):nf s s.length 0=some (if s.any (fun b=>!gW b)=true then .inl ()else .inr ()):=by
 unfold nf
 have:=lL s hs (fun zz=>jF s s.length zz) (fun b=>!gW b) (.inl ()) (.inr ()) (fun j h=>by
  simp only[jF]
  rw[vai (by simp;omega),Gs s j h]
  simp only[vaa]
  split<;>simp_all) (by simp only[jF];rw[vaj (by simp)]) 0 (vaB _)
 simpa using this
theorem L5{b:UInt8}(h:cE b.toNat=true):gW b=true:=by simp[gW,h]
theorem E8(s:ag):po s=some (!(kf s&&jt cE s&&!U9 s)):=by
 unfold po
 rw[sX]
 simp only[vaa]
 by_cases h:kf s=true
 ·obtain⟨c,r,rfl⟩:=FD h
  simp only[h,oI,vaa,nF,E5,jt]
  cases cE (c.toNat:Int)<;>simp
 ·simp[h]
theorem By(s:ag)(hs:Mi s):sW s=some (nC s):=by
 unfold sW nC
 rw[E8]
 simp only[vaa]
 by_cases h:(kf s&&jt cE s&&!U9 s)=true
 ·have hs1:kf s=true:=by revert h;cases kf s<;>simp
  obtain⟨c,r,rfl⟩:=FD hs1
  have hc:cE (c.toNat:Int)=true:=by revert h;simp[jt];intro _ h _;exact h
  have hL:=Fc (c::r) hs 1 (by simp)
  simp only[Int.ofNat_one]at hL
  rw[h,hL]
  simp only[vcC,vaU,List.all_cons,L5 hc,vaX]
  rw[vbj]
  simp only[vbY]
  cases r.all gW<;>simp
 ·simp[h]
theorem Jk(s:ag)(hs:Mi s):uq s=some (sN (nC s)):=by
 unfold uq
 rw[By s hs]
 simp[Jn]
theorem Gq(s:ag):nc s=some (!(kf s&&jt cE s&&!U9 s)):=by
 unfold nc kf
 cases s with
 |nil=>simp
 | cons c r =>
  have h1:¬(((c::r).length:Int)<1):=by simp;omega
  have h2:(((c::r).length:Int)>=1):=by omega
  simp only[h1,h2,decide_false,decide_true,vaX,vaz,if_false,oI,vaa,kj,H4,jt]
  by_cases h:(((c::r).length:Int)>24)
  ·have h':¬(((c::r).length:Int)<=24):=by omega
   simp only[h,h',decide_true,decide_false,if_true]
   simp
  ·have h':(((c::r).length:Int)<=24):=by omega
   simp only[h,h',decide_true,decide_false,if_false,vaz]
   cases cE (c.toNat:Int)<;>simp
theorem C0(s:ag)(hs:Mi s):oq s=some (sN (nC s)):=by
 unfold oq
 rw[Gq,Gu s hs]
 unfold nC sN
 cases(kf s&&jt cE s&&!U9 s)with
 |false=>simp
 |true=>
  simp only[vaa,vck,vaz,if_false,vaX]
  rw[vbj]
  simp only[vbY]
  cases s.all gW<;>simp
theorem vd(s:ag)(i:Nat)(h:i<s.length):fi s i=some (!fm s[i]):=by
 unfold fi fm
 simp only[jY s i h,vaa,nF,wj,sU]
 cases cE (s[i].toNat:Int)<;>cases lI (s[i].toNat:Int)<;>simp
theorem GB(s:ag)(i:Nat)(h:i<s.length):gZ s i=some (!fm s[i]):=by
 unfold gZ fm
 simp only[jY s i h,vaa,kj,sh,qR]
 cases cE (s[i].toNat:Int)<;>cases lI (s[i].toNat:Int)<;>simp
theorem oh(s:ag)(hs:Mi s):fb s=some (s.all fm):=by
 unfold fb jk
 have:=lL s hs (fun zz=>dh s zz) (fun b=>!fm b) (.inl ()) (.inr ()) (fun j h=>by
  simp only[dh]
  rw[vai (by simp;omega),vd s j h]
  simp only[vaa]
  split<;>simp_all) (by simp only[dh];rw[vaj (by simp)]) 0 (vaB _)
 simp only[Int.ofNat_zero,vaU]at this
 rw[this,vbj]
 simp only[vbY]
 cases s.all fm<;>rfl
theorem DF(s:ag)(hs:Mi s):nH s=some (!(kf s&&jt lI s&&s.all fm)):=by
 unfold nH
 rw[sX]
 simp only[vaa]
 by_cases h:kf s=true
 ·obtain⟨c,r,rfl⟩:=FD h
  simp only[h,oI,vaa,wj,oh _ hs,jt]
  cases lI (c.toNat:Int)<;>simp
 ·simp[h]
theorem Jp(s:ag)(hs:Mi s):uu s=some (kv s):=by
 unfold uu kv
 rw[DF s hs]
 simp only[vaa]
 cases(kf s&&jt lI s&&s.all fm)<;>cases(s==[73,110,116])<;>cases(s==[66,111,111,108])<;>cases(s==[67,101,108,108])<;>cases(s==[70,117,110])<;>rfl
theorem Gz(s:ag):ng s=some (!(kf s&&jt lI s&&!(s==[73,110,116])&&!(s==[66,111,111,108])&&!(s==[67,101,108,108])&&!(s==[70,117,110]))):=by
 unfold ng kf
 cases s with
 |nil=>simp
 | cons c r =>
  have h1:¬(((c::r).length:Int)<1):=by simp;omega
  have h2:(((c::r).length:Int)>=1):=by omega
  simp only[h1,h2,decide_false,decide_true,vaX,vaz,if_false,oI,vaa,sh,jt]
  by_cases h:(((c::r).length:Int)>24)
  ·have h':¬(((c::r).length:Int)<=24):=by omega
   simp only[h,h',decide_true,decide_false,if_true]
   simp
  ·have h':(((c::r).length:Int)<=24):=by omega
   simp only[h,h',decide_true,decide_false,if_false,vaz]
   cases lI (c.toNat:Int)<;>cases(c::r==[73,110,116])<;>cases(c::r==[66,111,111,108])<;>cases(c::r==[67,101,108,108])<;>cases(c::r==[70,117,110])<;>rfl
theorem GF(s:ag)(hs:Mi s):ni s s.length 0=some (if s.any (fun b=>!fm b)=true then .inl ()else .inr ()):=by
 unfold ni
 have:=lL s hs (fun zz=>jI s s.length zz) (fun b=>!fm b) (.inl ()) (.inr ()) (fun j h=>by
  simp only[jI]
  rw[vai (by simp;omega),GB s j h]
  simp only[vaa]
  split<;>simp_all) (by simp only[jI];rw[vaj (by simp)]) 0 (vaB _)
 simpa using this
theorem Mj(s:ag)(hs:Mi s):rF s=some (sN (kv s)):=by
 unfold rF
 rw[Gz,GF s hs]
 unfold kv sN
 rw[vbj]
 simp only[vbY]
 cases(kf s&&jt lI s)<;>cases s.all fm<;>cases(s==[73,110,116])<;>cases(s==[66,111,111,108])<;>cases(s==[67,101,108,108])<;>cases(s==[70,117,110])<;>rfl
end Go.Proofs.YtggeppllafbidaaGreatDoor
