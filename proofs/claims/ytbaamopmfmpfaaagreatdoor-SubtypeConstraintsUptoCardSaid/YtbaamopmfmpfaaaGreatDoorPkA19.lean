/- PROVED: a part of the proof. Conditions: none. -/
import Derived.Test.YtbaamopmfmpfaaaGreatDoorPkA18
import Derived.Test.YtbaamopmfmpfaaaGreatDoorPkA7
import Derived.Test.YtbaamopmfmpfaaaGreatDoorPkA8
noncomputable section
namespace Go.Proofs.YtbaamopmfmpfaaaGreatDoor
open Go
set_option linter.unusedSimpArgs false
set_option linter.unusedVariables false
abbrev qaJ(x y:ag):Prop:=Op.bytesLess x y=true
theorem Ay:∀(x:ag),Op.bytesLess x x=false
 |[]=>rfl
 |a::x=>by
  unfold Op.bytesLess
  rw[Ay x]
  simp[UInt8.lt_irrefl]
theorem Az:∀{x y z:ag},qaJ x y->qaJ y z->qaJ x z
 |_,_,[],h1,h2=>by simp[qaJ,Op.bytesLess]at h2
 |_,[],_::_,h1,h2=>by simp[qaJ,Op.bytesLess]at h1
 |[],_::_,_::_,_,_=>rfl
 | a :: x,b :: y,c :: z,h1,h2 => by
  unfold qaJ Op.bytesLess at h1 h2 ⊢
  simp only[vbb,vao,vaj,va4]at h1 h2 ⊢
  rcases h1 with h1|⟨rfl,h1⟩
  ·rcases h2 with h2|⟨rfl,h2⟩
   ·exact .inl (UInt8.lt_trans h1 h2)
   ·exact .inl h1
  ·rcases h2 with h2|⟨rfl,h2⟩
   ·exact .inl h2
   ·exact .inr ⟨rfl,Az h1 h2⟩
theorem EH:∀{x y:ag},Op.bytesLess x y=false->Op.bytesLess y x=false->x=y
 |[],[],_,_=>rfl
 |[],_::_,h,_=>by simp[Op.bytesLess]at h
 |_::_,[],_,h=>by simp[Op.bytesLess]at h
 | a :: x,b :: y,h1,h2 => by
  unfold Op.bytesLess at h1 h2
  simp only[Bool.or_eq_false_iff,vbp,Bool.and_eq_false_imp,va4]at h1 h2
  have hab:a=b:=by
   have k1:=UInt8.not_lt.1 h1.1
   have k2:=UInt8.not_lt.1 h2.1
   exact UInt8.le_antisymm k2 k1
  subst hab
  rw[EH (h1.2 rfl) (h2.2 rfl)]
theorem qfE:∀(x y:ag),Op.bytesLess x y=decide (x<y)
 |[],[]=>by simp[Op.bytesLess]
 |_::_,[]=>by simp[Op.bytesLess]
 |[],_::_=>by simp[Op.bytesLess]
 |a::x,b::y=>by
  unfold Op.bytesLess
  rw[qfE x y,vb6]
  simp[List.cons_lt_cons_iff]
theorem ZV(x y:ag):decide (x<=y)= !Op.bytesLess y x:=by
 rw[qfE]
 rw[<-decide_not]
 rfl
abbrev ME(l:List ag):Prop:=l.Pairwise qaJ
theorem Cs:∀{a b:List ag},ME a->ME b->(∀x,x∈a↔x∈b)->a=b
 |[],[],_,_,_=>rfl
 |[],y::b,_,_,h=>by have:=(h y).2 (by simp);simp at this
 |x::a,[],_,_,h=>by have:=(h x).1 (by simp);simp at this
 | x :: a,y :: b,ha,hb,h => by
  unfold ME at ha hb
  rw[vbA]at ha hb
  have hxy:x=y:=by
   have h1:=(h x).1 (by simp)
   have h2:=(h y).2 (by simp)
   rw[vaw]at h1 h2
   rcases h1 with h1|h1
   ·exact h1
   ·rcases h2 with h2|h2
    ·exact h2.symm
    ·have:=Az (hb.1 x h1) (ha.1 y h2)
     unfold qaJ at this
     rw[Ay]at this
     cases this
  subst hxy
  congr 1
  refine Cs ha.2 hb.2 fun z=>?_
  constructor
  ·intro hz
   have:=(h z).1 (by simp[hz])
   rw[vaw]at this
   rcases this with rfl|this
   ·have:=ha.1 _ hz;unfold qaJ at this;rw[Ay]at this;cases this
   ·exact this
  ·intro hz
   have:=(h z).2 (by simp[hz])
   rw[vaw]at this
   rcases this with rfl|this
   ·have:=hb.1 _ hz;unfold qaJ at this;rw[Ay]at this;cases this
   ·exact this
theorem VO(l:List ag):(mZ l).Pairwise fun x y=>Op.bytesLess y x=false:=by
 have:=List.pairwise_mergeSort (le:=fun x y:ag=>decide (x<=y)) (fun a b c h1 h2=>by
  rw[ZV]at h1 h2 ⊢
  simp only[va5]at h1 h2 ⊢
  cases h:Op.bytesLess c a with
  |false=>rfl
  | true =>
   exfalso
   by_cases hb:Op.bytesLess a b=true
   ·have:=Az h hb
    unfold qaJ at this
    rw[h2]at this
    cases this
   ·have:a=b:=EH (by simpa using hb) h1
    subst this
    rw[h2]at h
    cases h) (fun a b=>by
  rw[ZV,ZV]
  cases h:Op.bytesLess b a with
  |false=>rfl
  | true =>
   cases h':Op.bytesLess a b with
   |false=>rfl
   |true=>
    have:=Az h h'
    unfold qaJ at this
    rw[Ay]at this
    cases this) l
 refine vcS ?_ this
 intro a b h
 rw[ZV]at h
 simpa using h
theorem qbR(l:List ag)(x:ag):x∈mZ l↔x∈l:=List.mem_mergeSort
theorem G3(d:List ag)(hs:d.Pairwise fun x y=>Op.bytesLess y x=false):∀m,m<=d.length->ME (Lib.compactUpTo d.toArray m)/\∀x,x∈Lib.compactUpTo d.toArray m↔∃(j:Nat) (h:j<d.length),j<m/\d[j]=x
 |0,_=>by
  refine⟨by simp[Lib.compactUpTo,ME],fun x=>?_⟩
  simp[Lib.compactUpTo]
 | m + 1,hm => by
  obtain⟨h1,h2⟩:=G3 d hs m (by omega)
  have hg:∀j (h:j<d.length),d.toArray[j]! =d[j]:=fun j h=>by simp[h]
  rw[Lib.compactUpTo_succ]
  by_cases hk:Lib.keeps d.toArray m=true
  ·rw [vad hk,hg m (by omega)]
   refine⟨?_,fun x=>?_⟩
   ·unfold ME
    rw[List.pairwise_append]
    refine⟨h1,by simp,fun x hx y hy=>?_⟩
    simp at hy
    subst hy
    obtain⟨j,hj,hjm,rfl⟩:=(h2 x).1 hx
    have hne:d[m - 1]≠d[m]:=by
     unfold Lib.keeps at hk
     simp only[vao]at hk
     rcases hk with hk|hk
     ·omega
     ·rw[hg m (by omega),hg (m - 1) (by omega)]at hk
      exact fun e=>hk e.symm
    have hlt:Op.bytesLess d[m - 1] d[m]=true:=by
     have k1:=(vci.1 hs) (m - 1) m (by omega) (by omega) (by omega)
     cases h:Op.bytesLess d[m - 1] d[m]with
     |true=>rfl
     |false=>exact absurd (EH h k1) hne
    by_cases hj2:j=m - 1
    ·subst hj2;exact hlt
    ·have k2:=(vci.1 hs) j (m - 1) (by omega) (by omega) (by omega)
     cases h:Op.bytesLess d[j] d[m - 1]with
     |true=>exact Az h hlt
     |false=>
      have:=EH h k2
      rw[this];exact hlt
   ·rw[vaE,h2]
    constructor
    ·rintro(⟨j,hj,hjm,rfl⟩|hx)
     ·exact⟨j,hj,by omega,rfl⟩
     ·simp at hx;exact⟨m,by omega,by omega,hx.symm⟩
    ·rintro⟨j,hj,hjm,rfl⟩
     by_cases e:j=m
     ·subst e;exact .inr (by simp)
     ·exact .inl ⟨j,hj,by omega,rfl⟩
  ·rw [vae hk,va1]
   refine⟨h1,fun x=>?_⟩
   rw[h2]
   constructor
   ·rintro⟨j,hj,hjm,rfl⟩;exact⟨j,hj,by omega,rfl⟩
   ·rintro⟨j,hj,hjm,rfl⟩
    by_cases e:j=m
    ·subst e
     have:j≠0/\d.toArray[j]! =d.toArray[j - 1]! :=by
      unfold Lib.keeps at hk
      simp only[vao,not_or,ne_eq,Decidable.not_not]at hk
      exact hk
     rw[hg j hj,hg (j - 1) (by omega)]at this
     exact⟨j - 1,by omega,by omega,this.2.symm⟩
    ·exact⟨j,hj,by omega,rfl⟩
def kq(a b:List ag):List ag:=Lib.compact (mZ (a++b))
theorem IH(a b:List ag):ME (kq a b)/\∀x,x∈kq a b↔x∈a\/x∈b:=by
 obtain⟨h1,h2⟩:=G3 (mZ (a++b)) (VO _) _ (vah _)
 refine⟨h1,fun x=>?_⟩
 rw[show kq a b=Lib.compactUpTo (mZ (a++b)).toArray (mZ (a++b)).length from rfl,h2,<-vaE,<-qbR,List.mem_iff_getElem]
 constructor
 ·rintro⟨j,h,_,e⟩;exact⟨j,h,e⟩
 ·rintro⟨j,h,e⟩;exact⟨j,h,h,e⟩
theorem E4(a b:List ag)(h:a.length+b.length<=1073741824):qm a b=some (kq a b):=by
 unfold qm
 rw[cN (by simp;omega)]
 simp only[vaa]
 rw[cN (by simp;omega)]
 rfl
def Qg(s:ag):List ag->List ag
 |[]=>[s]
 |x::r=>if Op.bytesLess x s=true then x::Qg s r else if(x==s)=true then s::r else s::x::r
def kk(s:ag):List ag->Nat
 |[]=>0
 |x::r=>if Op.bytesLess x s=true then kk s r+1 else 0
theorem qfU(s:ag):∀l,kk s l<=l.length
 |[]=>vah _
 |x::r=>by have:=qfU s r;unfold kk;split<;>simp<;>omega
theorem qcX(s:ag):∀l,Qg s l=l.take (kk s l)++s::l.drop (kk s l+if(l[kk s l]? ==some s)=true then 1 else 0)
 |[]=>by simp[Qg,kk]
 | x :: r => by
  have ih:=qcX s r
  unfold Qg kk
  by_cases h:Op.bytesLess x s=true
  ·rw[vad h,vad h,ih]
   simp only[List.take_succ_cons,List.getElem?_cons_succ,vaG]
   rw[show kk s r+1+(if(r[kk s r]? ==some s)=true then 1 else 0)=(kk s r+if(r[kk s r]? ==some s)=true then 1 else 0)+1 by omega,vb7]
  ·rw[vae h,vae h]
   by_cases hx:(x==s)=true
   ·have:x=s:=by simpa using hx
    simp[this]
   ·have:¬x=s:=by simpa using hx
    simp[this]
theorem Oi(s:ag):∀l,(Qg s l).length<=l.length+1
 |[]=>by simp[Qg]
 | x :: r => by
  have:=Oi s r
  unfold Qg
  split
  ·simp;omega
  ·split<;>simp
theorem Vg(s:ag):∀l x,x∈Qg s l↔x=s\/x∈l
 |[],x=>by simp[Qg]
 | y :: r,x => by
  have:=Vg s r x
  unfold Qg
  by_cases h:Op.bytesLess y s=true
  ·rw[vad h,vaw,this,vaw]
   constructor
   ·rintro(h|h|h)<;>simp[h]
   ·rintro(h|h|h)<;>simp[h]
  ·rw[vae h]
   by_cases hy:(y==s)=true
   ·have e:y=s:=by simpa using hy
    rw[vad hy,e]
    simp
   ·rw[vae hy]
    simp
theorem ZT(s:ag):∀{l},ME l->ME (Qg s l)
 |[],_=>by simp[Qg,ME]
 | x :: r,h => by
  unfold ME at h ⊢
  rw[vbA]at h
  unfold Qg
  by_cases hx:Op.bytesLess x s=true
  ·rw[vad hx,vbA]
   refine⟨fun y hy=>?_,ZT s h.2⟩
   rw[Vg]at hy
   rcases hy with rfl|hy
   ·exact hx
   ·exact h.1 y hy
  ·rw [vae hx]
   by_cases he:(x==s)=true
   ·have e:x=s:=by simpa using he
    subst e
    rw[vad he,vbA]
    exact h
   ·have hsx:qaJ s x:=by
     cases hc:Op.bytesLess s x with
     |true=>exact hc
     |false=>
      have:=EH (by simpa using hx) hc
      simp[this]at he
    rw[vae he,vbA,vbA]
    refine⟨fun y hy=>?_,h⟩
    rw[vaw]at hy
    rcases hy with rfl|hy
    ·exact hsx
    ·exact Az hsx (h.1 y hy)
theorem qaf(s:ag):∀(l:List ag) (i:Nat) (out:List ag),mV (fun i x (out:List ag)=>if Op.bytesLess x s=true then(Sum.inl (out++[x]):List ag⊕(List ag×Nat))else .inr (out,i)) (fun out=>(out,i+l.length)) l i out=(out++l.take (kk s l),i+kk s l)
 |[],i,out=>by simp[mV,kk]
 | x :: l,i,out => by
  have ih:=qaf s l (i+1) (out++[x])
  unfold mV kk
  by_cases h:Op.bytesLess x s=true
  ·simp only[h,if_true]
   rw[show i+(x::l).length=i+1+l.length by simp;omega,ih]
   simp
   omega
  ·simp[h]
theorem TO{α σ X Y:Type}(g:X->Y)(f:Nat->α->σ->σ⊕X)(e:σ->X):∀(l:List α) (i:Nat) (s:σ),mV (fun i x s=>Sum.map id g (f i x s)) (fun s=>g (e s)) l i s=g (mV f e l i s)
 |[],i,s=>rfl
 |x::l,i,s=>by
  unfold mV
  cases f i x s with
  |inl s'=>exact TO g f e l (i+1) s'
  |inr y=>rfl
def qdf{σ:Type}(y:σ×Nat):σ×Int:=(y.1,(y.2:Int))
theorem OK(a:List ag)(s:ag)(ha:a.length<=1000000000):yw a s=some (Qg s a):=by
 unfold yw Hy
 have:=kP a (by omega) (fun i (out:List ag)=>(out,i)) (fun zz=>qI a s zz.1 zz.2) (fun i out=>out.length=i)
  (fun i x out=>Sum.map id qdf (if Op.bytesLess x s=true then(Sum.inl (out++[x]):List ag⊕(List ag×Nat))else .inr (out,i))) (fun out=>qdf (out,0+a.length)) (fun i hi out hI=>by
   have hb:sE a s i=some (Op.bytesLess a[i] s):=by
    simp only[sE]
    rw[vad (by simp;omega),bo _ i hi]
    rfl
   refine⟨?_,fun s' hs'=>?_⟩
   ·simp only[qI]
    rw[hb]
    simp only[vaa]
    by_cases hl:Op.bytesLess a[i] s=true
    ·rw[vad hl,vad hl,bo _ i hi]
     simp only[vaa]
     rw[cN (by simp;omega)]
     rfl
    ·rw[vae hl,vae hl]
     rfl
   ·by_cases hl:Op.bytesLess a[i] s=true
    ·rw[vad hl]at hs';cases hs';simp;omega
    ·rw[vae hl]at hs';cases hs') (fun out _=>by
   have hb:sE a s a.length=some false:=by
    simp only[sE]
    rw[vae (by simp)]
   simp only[qI]
   rw[hb]
   simp[qdf]) 0 [] (vaN _) rfl
 simp only[Int.ofNat_zero,vaV]at this
 have hm:=TO qdf (fun i x (out:List ag)=>if Op.bytesLess x s=true then(Sum.inl (out++[x]):List ag⊕(List ag×Nat))else .inr (out,i)) (fun out=>(out,0+a.length)) a 0 []
 rw[this.trans (va9 some hm),qaf s a 0 []]
 simp only[vaC,vaK,vaa,qdf]
 have hk:=qfU s a
 rw[cN (by simp;omega)]
 simp only[vaa]
 have hj:Bk a s (kk s a)=some ((kk s a+if(a[kk s a]? ==some s)=true then 1 else 0:Nat):Int):=by
  unfold Bk Hx
  by_cases hlt:kk s a<a.length
  ·rw[vad (by simp;omega),bo _ _ hlt]
   simp only[vaa,vab hlt]
   have e:(some a[kk s a]==some s)=(a[kk s a]==s):=rfl
   rw[e]
   by_cases h:(a[kk s a]==s)=true
   ·rw[vad h,vad h,dB (by omega) (by omega)]
    rfl
   ·rw[vae h,vae h]
    rfl
  ·have hn:a[kk s a]? =none:=by simp;omega
   rw[vae (by simp;omega),hn]
   rfl
 rw[hj]
 simp only[vaa]
 have hle:kk s a+(if(a[kk s a]? ==some s)=true then 1 else 0)<=a.length:=by
  by_cases hlt:kk s a<a.length
  ·split<;>omega
  ·have hn:a[kk s a]? =none:=by simp;omega
   rw[hn]
   simp
   omega
 rw[Ft a _ hle]
 simp only[vaa]
 rw[cN (by simp;omega),qcX]
 simp
theorem IF{α σ:Type}(g:σ->α->σ):∀(l:List α) (i:Nat) (s:σ),mV (fun _ x s=>(Sum.inl (g s x):σ⊕σ)) (fun s=>s) l i s=l.foldl g s
 |[],i,s=>rfl
 |x::l,i,s=>IF g l (i+1) (g s x)
theorem Ie:∀(l out:List ag),ME out->ME (l.foldl (fun o x=>Qg x o) out)/\(∀x,x∈l.foldl (fun o x=>Qg x o) out↔x∈out\/x∈l)/\(l.foldl (fun o x=>Qg x o) out).length<=out.length+l.length
 |[],out,h=>⟨h,by simp,by simp⟩
 | y :: l,out,h => by
  obtain⟨h1,h2,h3⟩:=Ie l (Qg y out) (ZT y h)
  have:=Oi y out
  refine⟨h1,fun x=>?_,by simp only[List.foldl_cons,vaP];omega⟩
  rw[List.foldl_cons,h2,Vg,vaw]
  constructor
  ·rintro((h|h)|h)<;>simp[h]
  ·rintro(h|h|h)<;>simp[h]
theorem ke(a b:List ag)(ha:a.length<=400000000)(hb:b.length<=400000000):gj a b=some (kq a b):=by
 unfold gj qF qG
 have t1:=kP a (by omega) (fun i (out:List ag)=>(out,i)) (fun zz=>mi a a.length zz.1 zz.2) (fun i out=>out.length<=i) (fun _ x out=>(Sum.inl (Qg x out):List ag⊕List ag)) (fun o=>o) (fun i hi out hI=>by
   refine⟨?_,fun s' hs'=>?_⟩
   ·simp only[mi]
    rw[vad (by simp;omega),bo _ i hi]
    simp only[vaa]
    rw[OK _ _ (by omega)]
    rfl
   ·cases hs'
    have:=Oi a[i] out
    omega) (fun out _=>by simp only[mi];rw[vae (by simp)]) 0 [] (vaN _) (vah _)
 simp only[Int.ofNat_zero,vaV]at t1
 rw[IF (fun o x=>Qg x o)]at t1
 obtain⟨f1,f2,f3⟩:=Ie a [] (by simp[ME])
 have t2:=kP b (by omega) (fun i (out:List ag)=>(out,i)) (fun zz=>dy b b.length zz.1 zz.2) (fun i out=>out.length<=400000000+i) (fun _ x out=>(Sum.inl (Qg x out):List ag⊕List ag)) (fun o=>o) (fun i hi out hI=>by
   refine⟨?_,fun s' hs'=>?_⟩
   ·simp only[dy]
    rw[vad (by simp;omega),bo _ i hi]
    simp only[vaa]
    rw[OK _ _ (by omega)]
    rfl
   ·cases hs'
    have:=Oi b[i] out
    omega) (fun out _=>by simp only[dy];rw[vae (by simp)]) 0 (a.foldl (fun o x=>Qg x o) []) (vaN _) (by simp at f3;omega)
 simp only[Int.ofNat_zero,vaV]at t2
 rw[IF (fun o x=>Qg x o)]at t2
 rw[t1]
 simp only[vaa]
 rw[t2]
 simp only[vaa,vav]
 obtain⟨g1,g2,_⟩:=Ie b _ f1
 obtain⟨u1,u2⟩:=IH a b
 refine Cs g1 u1 fun x=>?_
 rw[g2,f2,u2]
 simp
mutual
def nP:aa->Nat
 |⟨_,_,_,ks⟩=>nL ks+1
def nL:List aa->Nat
 |[]=>0
 |p::ps=>nP p+nL ps
end
theorem QD(p:aa):nP p=nL p.Kids+1:=by obtain⟨o,n,k,ks⟩:=p;rw[nP];rfl
theorem Vq(p:aa):1<=nP p:=by rw[QD];omega
theorem Cy:∀{l:List aa} {x:aa},x∈l->nP x<=nL l
 | y :: l,x,h => by
  rw[nL]
  rcases vaw.1 h with rfl|h
  ·omega
  ·have:=Cy h;omega
theorem Cx:∀(l:List aa),l.length<=nL l
 |[]=>by simp[nL]
 |p::l=>by rw[nL];have:=Cx l;have:=Vq p;simp only[vaP];omega
theorem pT{p x:aa}(h:x∈p.Kids):nP x<nP p:=by rw[QD p];have:=Cy h;omega
theorem rx(p:aa):p.Kids.length<nP p:=by rw[QD];have:=Cx p.Kids;omega
theorem AN:∀(a b:List aa),nL (a++b)=nL a+nL b
 |[],b=>by simp[nL]
 |p::a,b=>by rw[vaG,nL,AN a b,nL];omega
mutual
theorem qfW:∀(p:aa),nP p<=gf (ac p)
 |⟨o,n,k,ks⟩=>by
  have:=Z2 ks
  rw[nP,aJ]
  simp only[gf,pm,sl]
  show nL ks+1<=1+(n.length+1+(1+(bZ (ks.map ac)+1+0)))
  omega
theorem Z2:∀(l:List aa),nL l<=bZ (l.map ac)
 |[]=>by simp[nL]
 |p::l=>by
  have:=qfW p
  have:=Z2 l
  rw[nL]
  simp only[vay,bZ]
  omega
end
mutual
def qkd:aa->aa->Bool
 |⟨o,n,k,ks⟩,⟨o',n',k',ks'⟩=>(o==o')&&((n==n')&&((k==k')&&qgL ks ks'))
def qgL:List aa->List aa->Bool
 |[],[]=>true
 |x::xs,y::ys=>qkd x y&&qgL xs ys
 |_,_=>false
end
mutual
theorem ZI:∀(a b:aa),qkd a b=true↔a=b
 |⟨o,n,k,ks⟩,⟨o',n',k',ks'⟩=>by
  rw[qkd]
  have:=ZH ks ks'
  simp only[vaj,va4,this,aa.mk.injEq]
theorem ZH:∀(a b:List aa),qgL a b=true↔a=b
 |[],[]=>by simp[qgL]
 |x::xs,y::ys=>by
  rw[qgL]
  have h1:=ZI x y
  have h2:=ZH xs ys
  simp only[vaj,h1,h2,vbv]
 |[],y::ys=>by simp[qgL]
 |x::xs,[]=>by simp[qgL]
end
instance:DecidableEq aa:=fun a b=>decidable_of_iff _ (ZI a b)
theorem wq(p:aa):(⟨p.Op,p.Name,p.N,p.Kids⟩:aa)=p:=by cases p;rfl
theorem AZ{a b:aa}:a=b↔a.Op=b.Op/\a.Name=b.Name/\a.N=b.N/\a.Kids=b.Kids:=by
 cases a;cases b
 simp only[aa.mk.injEq]
 rfl
theorem qaq{α:Type}[DecidableEq α]:∀{a b:List α},a.length=b.length->(a.zip b).any (fun x=>decide (x.1≠x.2))= !decide (a=b)
 |[],[],_=>by simp
 |x::a,y::b,h=>by
  have ih:=qaq (a:=a) (b:=b) (by simpa using h)
  rw[List.zip_cons_cons,List.any_cons,ih]
  by_cases h1:x=y<;>by_cases h2:a=b<;>simp[h1,h2]
theorem Xi{α X:Type}[DecidableEq α]{a b:List α}(hl:a.length=b.length)(ha:a.length<9223372036854775808)(body:Int->Option (Int⊕X))(y e:X)
  (hin:∀(i:Nat) (h:i<a.length) (h':i<b.length),body i=some (if decide (a[i]=b[i])=true then .inl (aR ((i:Int)+1))else .inr y)) (hend:body a.length=some (.inr e)):loop body 0=some (if decide (a=b)=true then e else y):=by
 have hz:(a.zip b).length=a.length:=by simp[hl]
 have:=J4 (a.zip b) (by omega) body (fun x=>decide (x.1≠x.2)) y e (fun i h=>?_) (by rw[hz];exact hend) 0 (vaN _)
 ·rw[vaV,qaq hl]at this
  rw[show((0:Nat):Int)=0 from rfl]at this
  rw[this]
  by_cases h:a=b<;>simp[h]
 ·have h1:i<a.length:=by omega
  have h2:i<b.length:=by omega
  rw[hin i h1 h2]
  have hzi:(a.zip b)[i]=(a[i],b[i]):=by simp
  rw[hzi]
  by_cases h:a[i]=b[i]<;>simp[h]
abbrev bq:Nat:=1073741824
theorem ed{n:Nat}(h:n<=bq):n<qee:=by have:=qgE;unfold bq at h;omega
theorem qcG{R:aa->aa->Option Bool}{a b:List aa}(ha:a.length<=bq)(h:∀x∈a,∀y∈b,R x y=some (decide (x=y))):CD R a b=some (decide (a=b)):=by
 unfold CD
 by_cases hl:a.length=b.length
 ·rw[vae (by simp[hl])]
  unfold Ab
  rw[Xi hl (by unfold bq at ha;omega) (fun zz=>kS R a b (a.length:Int) zz) (.inl ()) (.inr ()) (fun i h1 h2=>?_) ?_]
  ·by_cases he:a=b<;>simp[he]
  ·unfold kS
   rw[vae (by simp)]
  ·unfold kS
   rw[vad (by simp;omega),bo a i h1]
   simp only[vaa]
   rw[bo b i h2]
   simp only[vaa]
   rw[h _ (vak h1) _ (vak h2)]
   simp only[vaa]
   by_cases he:a[i]=b[i]<;>simp[he]
 ·rw[vad (by simp;omega)]
  rw[decide_eq_false (fun he=>hl (by rw[he]))]
theorem Kz(a b:aa)(ha:nP a<=bq):jZ a b=some (decide (a=b)):=by
 refine eP (F:=Fi) (fun x=>nP x.1) (fun x=>nP x.1<=bq) (fun x=>decide (x.1=x.2)) (fun R x hx ih=>?_) (a,b) ha (ed ha)
 obtain⟨u,v⟩:=x
 have hx:nP u<=bq:=hx
 show y6 (fun a a2=>R (a,a2)) u v=some (decide (u=v))
 unfold y6
 have hk:=rx u
 by_cases h1:u.Op=v.Op
 ·by_cases h2:u.Name=v.Name
  ·by_cases h3:u.N=v.N
   ·rw[vad (by simpa using h1),vad (by simpa using h2),vad (by simpa using h3)]
    rw[qcG (a:=u.Kids) (b:=v.Kids) (by omega) (fun x hxa y hyb=>ih (x,y) (pT hxa) (vcB (vaJ (pT hxa) hx)))]
    simp[AZ (a:=u) (b:=v),h1,h2,h3]
   ·rw[vad (by simpa using h1),vad (by simpa using h2),vae (by simpa using h3)]
    simp[AZ (a:=u) (b:=v),h3]
  ·rw[vad (by simpa using h1),vae (by simpa using h2)]
   simp[AZ (a:=u) (b:=v),h2]
 ·rw[vae (by simpa using h1)]
  simp[AZ (a:=u) (b:=v),h1]
theorem Ta(p:aa)(hp:nP p<=bq):qp p=some p:=by
 refine eP (F:=tL) nP (fun x=>nP x<=bq) id (fun R x hx ih=>?_) p hp (ed hp)
 unfold tL Aa xV
 have hlen:=rx x
 rw[Xh x.Kids (by unfold bq at hx;omega) (fun i s=>(i,s)) _ id id (fun i hi s hs=>?_) (fun s=>?_)]
 ·simp[wq]
 ·unfold nF
  rw[vad (by simp;omega),bo x.Kids i hi]
  simp only[vaa]
  have hm:=vak hi
  rw[ih _ (pT hm) (vcB (vaJ (pT hm) hx))]
  simp only[vaa]
  rw[cN (by unfold bq at hx;simp;omega)]
  rfl
 ·unfold nF
  rw[vae (by simp)]
  rfl
theorem Q8(a b:aa)(hb:nP b<=bq):qK a b=some (decide (a=b)):=by
 refine eP (F:=HA) (fun x=>nP x.2) (fun x=>nP x.2<=bq) (fun x=>decide (x.1=x.2)) (fun R x hx ih=>?_) (a,b) hb (ed hb)
 obtain⟨u,v⟩:=x
 have hx:nP v<=bq:=hx
 show Bt (fun a a2=>R (a,a2)) u v=some (decide (u=v))
 unfold Bt DM
 have hk:=rx v
 by_cases h1:u.Op=v.Op
 ·by_cases h2:u.Name=v.Name
  ·by_cases h3:u.N=v.N
   ·by_cases h4:u.Kids.length=v.Kids.length
    ·rw[vae (by simpa using h1),vae (by simpa using h2),vae (by simpa using h3)]
     simp only[h4,bne_self_eq_false,vaa,if_false,va6]
     unfold DN
     rw[<-h4,Xi h4 (by unfold bq at hx;omega) _ (.inl ()) (.inr ()) (fun i g1 g2=>?_) ?_]
     ·by_cases he:u.Kids=v.Kids<;>simp[he,AZ (a:=u) (b:=v),h1,h2,h3]
     ·unfold tq
      rw[vae (by simp)]
     ·unfold tq
      rw[vad (by simp;omega),bo u.Kids i g1]
      simp only[vaa]
      rw[bo v.Kids i g2]
      simp only[vaa]
      have hm:=vak g2
      rw[ih (u.Kids[i],v.Kids[i]) (pT hm) (vcB (vaJ (pT hm) hx))]
      by_cases he:u.Kids[i]=v.Kids[i]<;>simp[he]
    ·have hne:u≠v:=fun e=>h4 (by rw[e])
     rw[vae (by simpa using h1),vae (by simpa using h2),vae (by simpa using h3)]
     have hb:((u.Kids.length:Int)!=(v.Kids.length:Int))=true:=by simp;omega
     simp[hb,hne]
   ·have hne:u≠v:=fun e=>h3 (by rw[e])
    rw[vae (by simpa using h1),vae (by simpa using h2),vad (by simpa using h3)]
    simp[hne]
  ·have hne:u≠v:=fun e=>h2 (by rw[e])
   rw[vae (by simpa using h1),vad (by simpa using h2)]
   simp[hne]
 ·have hne:u≠v:=fun e=>h1 (by rw[e])
  rw[vad (by simpa using h1)]
  simp[hne]
def gQ:aa:=⟨0,[],0,[]⟩
def qr:aa:=⟨2,[],1,[]⟩
def EW:aa:=⟨2,[],0,[]⟩
def TZ(p:aa):Bool:=decide (p=gQ)||decide (p=qr)
theorem qfy(p:aa)(hp:nP p<=bq):AU p=some (TZ p):=by
 have h1:jZ p (⟨0,([]:ag),0,([]:List aa)⟩:aa)=some (decide (p=gQ)):=Kz p gQ hp
 have h2:jZ p (⟨2,([]:ag),1,([]:List aa)⟩:aa)=some (decide (p=qr)):=Kz p qr hp
 unfold AU gX TZ
 rw[h1]
 simp only[vaa,if_true,h2]
 cases decide (p=gQ)<;>rfl
theorem Z3:nP gQ<=bq:=by decide
theorem TN{α σ X:Type}(g:α->σ->σ)(e:σ->X):∀(l:List α) (i:Nat) (s:σ),mV (fun _ x (s:σ)=>(Sum.inl (g x s):σ⊕X)) e l i s=e (l.foldl (fun s x=>g x s) s)
 |[],i,s=>by simp[mV]
 |x::l,i,s=>by
  unfold mV
  simp only
  rw[TN g e l (i+1) (g x s)]
  rfl
theorem qbd{α σ τ X:Type}(l:List α)(hl:l.length<9223372036854775808)(mk:Int->σ->τ)(body:τ->Option (τ⊕X))(I:Nat->σ->Prop)(g:α->σ->σ)(e:σ->X)(s0:σ)(h0:I 0 s0)
  (hin:∀(i:Nat) (h:i<l.length) s,I i s->body (mk i s)=some (.inl (mk (aR ((i:Int)+1)) (g l[i] s)))/\I (i+1) (g l[i] s)) (hend:∀s,I l.length s->body (mk l.length s)=some (.inr (e s))):
  loop body (mk 0 s0)=some (e (l.foldl (fun s x=>g x s) s0)):=by
 have:=kP l hl mk body I (fun _ x s=>.inl (g x s)) e (fun i h s hs=>⟨(hin i h s hs).1,fun s' hs'=>by cases hs';exact(hin i h s hs).2⟩) (fun s hs=>hend s hs) 0 s0 (vaN _) h0
 rw[TN]at this
 exact this
theorem y4(l:List aa)(i:Nat)(h:i<l.length):nL (l.take (i+1))=nL (l.take i)+nP l[i]:=by
 rw[vaM h,AN]
 simp[nL]
theorem pU(l:List aa)(i:Nat):nL (l.take i)<=nL l:=by
 have:=AN (l.take i) (l.drop i)
 rw[vcy]at this
 omega
theorem ZQ:∀(l:List aa) (a:Int),l.foldl (fun s x=>s+(nP x:Int)) a=a+(nL l:Int)
 |[],a=>by simp[nL]
 |x::l,a=>by rw[List.foldl_cons,ZQ l,nL];omega
theorem qdg(p:aa)(hp:nP p<=bq):KQ p=some (nP p:Int):=by
 refine eP (F:=DL) nP (fun x=>nP x<=bq) (fun x=>(nP x:Int)) (fun R x hx ih=>?_) p hp (ed hp)
 show yy (fun p=>R p) x=_
 unfold yy Br
 have hlen:=rx x
 have hn:=QD x
 rw[qbd x.Kids (by unfold bq at hx;omega) (fun i s=>(s,i)) _ (fun i s=>s=1+(nL (x.Kids.take i):Int)) (fun x s=>s+(nP x:Int)) id 1 (by simp[nL]) (fun i hi s hs=>?_) (fun s _=>?_)]
 ·rw[ZQ]
  simp only[id,vaa]
  rw[hn];congr 1;omega
 ·have hm:=vak hi
  have hk:=pT hm
  refine⟨?_,by rw[y4 _ _ hi,hs];omega⟩
  unfold qJ
  rw[vad (by simp;omega),bo x.Kids i hi]
  simp only[vaa]
  rw[ih _ hk (by omega)]
  simp only[vaa]
  have h1:=pU x.Kids i
  have h2:=pU x.Kids (i+1)
  have h3:=y4 x.Kids i hi
  unfold bq at hx
  rw[dB (n:=s+_) (by omega) (by omega)]
 ·unfold qJ
  rw[vae (by simp)]
  rfl
def qex(s:Option aa)(x:aa):aa:=match s with
 |none=>x
 |some q=>⟨15,[],0,[q,x]⟩
def qaD:List aa->Option aa->aa
 |[],s=>s.getD qr
 |x::l,s=>if TZ x=true then qaD l s else if x=EW then EW else qaD l (some (qex s x))
abbrev T8:Type:=Int×ag×Int×List aa×Int×ag×Int×List aa
def t8(a b:aa):T8:=(a.Op,a.Name,a.N,a.Kids,b.Op,b.Name,b.N,b.Kids)
def Zv:T8⊕T8->aa
 |.inl o=>⟨o.1,o.2.1,o.2.2.1,o.2.2.2.1⟩
 |.inr o=>⟨o.2.2.2.2.1,o.2.2.2.2.2.1,o.2.2.2.2.2.2.1,o.2.2.2.2.2.2.2⟩
def qcf(x:aa)(s:Option aa):Option aa⊕(T8⊕T8):=
 if TZ x=true then .inl s else if x=EW then .inr (.inl (t8 EW (s.getD qr)))else .inl (some (qex s x))
theorem PF:∀(l:List aa) (i:Nat) (s:Option aa),Zv (mV (fun _ x s=>qcf x s) (fun s=>.inr (t8 gQ (s.getD qr))) l i s)=qaD l s
 |[],i,s=>by simp[mV,qaD,Zv,t8,wq]
 | x :: l,i,s => by
  unfold mV qaD qcf
  by_cases h1:TZ x=true
  ·simp only[h1,if_true]
   exact PF l (i+1) s
  ·by_cases h2:x=EW
   ·simp only[h1,h2,if_true]
    rfl
   ·simp only[h1,h2,if_false]
    exact PF l (i+1) _
theorem qcg(l:List aa)(hl:∀x∈l,nP x<=bq)(hn:l.length<9223372036854775808):Kk l=some (qaD l none):=by
 unfold Kk Fg
 have h:=kP l hn (fun i (s:Option aa)=>(s.isSome,i,(0:Int),([]:ag),(0:Int),([]:List aa),(s.getD qr).Op,(s.getD qr).Name,(s.getD qr).N,(s.getD qr).Kids))
  (fun zz=>gW l (l.length:Int) zz.1 zz.2.1 zz.2.2.1 zz.2.2.2.1 zz.2.2.2.2.1 zz.2.2.2.2.2.1 zz.2.2.2.2.2.2.1 zz.2.2.2.2.2.2.2.1 zz.2.2.2.2.2.2.2.2.1 zz.2.2.2.2.2.2.2.2.2) (fun _ _=>True) (fun _ x s=>qcf x s) (fun s=>.inr (t8 gQ (s.getD qr)))
  (fun i hi s _=>⟨?_,fun _ _=>trivial⟩) (fun s _=>?_) 0 none (vaN _) trivial
 ·have hr:=PF l 0 none
  rw[vaV]at h
  have hc:gX true=some qr:=rfl
  rw[hc]
  simp only[vaa]
  have h':loop (fun(zz:Bool×Int×Int×ag×Int×(List aa)×Int×ag×Int×(List aa))=>gW l (l.length:Int) zz.1 zz.2.1 zz.2.2.1 zz.2.2.2.1 zz.2.2.2.2.1 zz.2.2.2.2.2.1 zz.2.2.2.2.2.2.1 zz.2.2.2.2.2.2.2.1 zz.2.2.2.2.2.2.2.2.1 zz.2.2.2.2.2.2.2.2.2) (false,0,0,([]:ag),0,([]:List aa),qr.Op,qr.Name,qr.N,qr.Kids)=_:=h
  rw[h']
  simp only[vaa]
  rw[<-hr]
  cases mV (fun _ x s=>qcf x s) (fun s=>Sum.inr (t8 gQ (s.getD qr))) l 0 none<;>rfl
 ·show gW l (l.length:Int) s.isSome (i:Int) 0 [] 0 [] _ _ _ _=_
  unfold gW qcf
  have hx:=hl _ (vak hi)
  rw[vad (by simp;omega),bo l i hi]
  simp only[vaa]
  generalize l[i]=x at hx
  rw[qfy x hx]
  simp only[vaa]
  by_cases h1:TZ x=true
  ·simp only[h1,if_true]
  ·have hc:gX false=some EW:=rfl
   simp only[h1,if_false,hc,vaa,Kz x EW hx]
   by_cases h2:x=EW
   ·simp only[h2,decide_true,if_true]
    rfl
   ·simp only[h2,decide_false,if_false,va6,Ta x hx,vaa]
    cases s with
    |none=>simp[qex]
    |some q=>
     simp[qex,wq]
     exact⟨rfl,rfl,rfl,rfl⟩
 ·show gW l (l.length:Int) s.isSome (l.length:Int) 0 [] 0 [] _ _ _ _=_
  unfold gW
  rw[vae (by simp)]
  rfl
theorem WT{l:List ag}{v:ag}:(match l.findIdx? (fun x=>x==v)with|some j=>(j:Int)|none=>-1)>=0↔v∈l:=by
 cases h:l.findIdx? (fun x=>x==v)with
 | none =>
  rw[vch]at h
  simp only
  constructor
  ·intro h';omega
  ·intro hm;have:=h v hm;simp at this
 | some j =>
  obtain⟨hj,h1,_⟩:=List.findIdx?_eq_some_iff_getElem.1 h
  simp only
  constructor
  ·intro _
   have:l[j]=v:=by simpa using h1
   exact this▸vak hj
  ·intro _;omega
theorem Q6(l:List ag)(v:ag)(hl:l.length<9223372036854775808):gI l v=some (match l.findIdx? (fun x=>x==v)with|some j=>(j:Int)|none=>-1):=by
 unfold gI yq
 have h:=LK l hl (fun zz=>eT l v (l.length:Int) zz) (fun x=>x==v) (fun j=>Sum.inl (j:Int)) (.inr ()) (fun i hi=>?_) ?_
 ·rw[h]
  simp only[vaa]
  cases l.findIdx? (fun x=>x==v)<;>rfl
 ·show eT l v (l.length:Int) (i:Int)=_
  unfold eT
  rw[vad (by simp;omega),bo l i hi]
  simp only[vaa]
  by_cases he:(l[i]==v)=true<;>simp[he]
 ·show eT l v (l.length:Int) (l.length:Int)=_
  unfold eT
  rw[vae (by simp)]
theorem W2(l:List ag)(v:ag)(hl:l.length<9223372036854775808):rQ l v=some (match l.findIdx? (fun x=>x==v)with|some j=>(j:Int)|none=>-1):=by
 unfold rQ va
 have h:=LK l hl (fun zz=>fc l v (l.length:Int) zz) (fun x=>x==v) (fun j=>Sum.inl (j:Int)) (.inr ()) (fun i hi=>?_) ?_
 ·rw[h]
  simp only[vaa]
  cases l.findIdx? (fun x=>x==v)<;>rfl
 ·show fc l v (l.length:Int) (i:Int)=_
  unfold fc
  rw[vad (by simp;omega),bo l i hi]
  simp only[vaa]
  by_cases he:v=l[i]
  ·subst he;simp
  ·have he':¬l[i]=v:=fun h=>he h.symm
   simp[he,he']
 ·show fc l v (l.length:Int) (l.length:Int)=_
  unfold fc
  rw[vae (by simp)]
theorem yS(l:List ag)(v:ag)(hl:l.length<9223372036854775808):fm l v=some (decide (v∈l)):=by
 unfold fm
 rw[W2 l v hl]
 simp only[vaa]
 congr 1
 exact decide_eq_decide.2 WT
def fy{α:Type}(o:Option α)(Q:α->Prop):Prop:=∃a,o=some a/\Q a
section
variable{α β σ τ X Y:Type}
theorem aq{a:α}{Q:α->Prop}(h:Q a):fy (some a) Q:=⟨a,rfl,h⟩
theorem VU{o:Option α}{a:α}{Q:α->Prop}(e:o=some a)(h:Q a):fy o Q:=⟨a,e,h⟩
theorem ax{o:Option α}{f:α->Option β}{R:α->Prop}{Q:β->Prop}(h:fy o R)(h':∀a,R a->fy (f a) Q):fy (o.bind f) Q:=by
 obtain⟨a,rfl,h⟩:=h
 exact h' a h
theorem cT{o:Option α}{a:α}{f:α->Option β}{Q:β->Prop}(e:o=some a)(h:fy (f a) Q):fy (o.bind f) Q:=by
 rw[e];exact h
theorem fy.mono{o:Option α}{Q R:α->Prop}(h:fy o Q)(h':∀a,Q a->R a):fy o R:=by
 obtain⟨a,e,h⟩:=h
 exact⟨a,e,h' a h⟩
theorem aT{c:Prop}[Decidable c]{a b:Option α}{Q:α->Prop}(h1:c->fy a Q)(h2:¬c->fy b Q):fy (if c then a else b) Q:=by
 by_cases h:c
 ·rw[vad h];exact h1 h
 ·rw[vae h];exact h2 h
theorem px{F:(X->Option Y)->X->Option Y}(μ:X->Nat)(P:X->Prop)(Q:X->Y->Prop)(h:∀(R:X->Option Y) x,P x->(∀y,μ y<μ x->P y->fy (R y) (Q y))->fy (F R x) (Q x))(x:X)(hx:P x)(hm:μ x<qee):fy (kJ F x) (Q x):=by
 have key:∀n x,μ x<n->P x->fy (qiB F n x) (Q x):=by
  intro n
  induction n with
  |zero=>intro x hx;omega
  |succ n ih=>intro x hx hq;exact h _ x hq fun y hy hqy=>ih y (by omega) hqy
 exact key _ x hm hx
theorem A0(l:List α)(hl:l.length<9223372036854775808)(mk:Int->σ->τ){body:τ->Option (τ⊕X)}(I:Nat->σ->Prop){Q:X->Prop}
  (hin:∀(i:Nat) (h:i<l.length) s,I i s->fy (body (mk i s)) (fun r=>match r with|.inl t=>∃s',t=mk (aR ((i:Int)+1)) s'/\I (i+1) s'|.inr y=>Q y))
  (hend:∀s,I l.length s->fy (body (mk l.length s)) (fun r=>match r with|.inl _=>False|.inr y=>Q y)):∀s,I 0 s->fy (loop body (mk 0 s)) Q:=by
 have key:∀k i s,k+i=l.length->I i s->fy (loop body (mk (i:Int) s)) Q:=by
  intro k
  induction k with
  |zero=>
   intro i s hi hI
   have:i=l.length:=by omega
   subst this
   obtain⟨r,e,hr⟩:=hend s hI
   rw[km,e]
   cases r with
   |inl _=>exact hr.elim
   |inr y=>exact⟨y,rfl,hr⟩
  | succ k ih =>
   intro i s hi hI
   obtain⟨r,e,hr⟩:=hin i (by omega) s hI
   rw[km,e]
   cases r with
   |inl t=>
    obtain⟨s',rfl,hI'⟩:=hr
    simp only
    rw[dB (by omega) (by omega),show((i:Int)+1)=((i+1:Nat):Int) by omega]
    exact ih (i+1) s' (by omega) hI'
   |inr y=>exact⟨y,rfl,hr⟩
 exact fun s hs=>key l.length 0 s (by omega) hs
end
section
variable{α β σ τ X Y:Type}
theorem qk(l:List α)(hl:l.length<=1073741824)(mk:Int->List β->τ)(body:τ->Option (τ⊕X))(h:α->Option β)(g:α->β)(e:List β->X)
  (hb:∀(i:Int) (s:List β),body (mk i s)=if decide (i<(l.length:Int))=true then(cz l i).bind (fun x=>(h x).bind fun r=>(app s ([r]:List β)).bind fun q=>some (.inl (mk (aR (i+1)) q)))else some (.inr (e s)))
  (hg:∀x∈l,h x=some (g x)):loop body (mk 0 [])=some (e (l.map g)):=by
 refine Xh l (by omega) mk body g e (fun i hi s hs=>?_) (fun s=>?_)
 ·rw[hb,vad (by simp;omega),bo l i hi]
  simp only[vaa]
  rw[hg _ (vak hi)]
  simp only[vaa]
  rw[cN (by simp;omega)]
  rfl
 ·rw[hb,vae (by simp)]
theorem qbc(l:List α)(hl:l.length<9223372036854775808)(body:Int->Option (Int⊕X))(k:Int->α->Option (Int⊕X))(p:α->Bool)(y e:X)
  (hb:∀(i:Int),body i=if decide (i<(l.length:Int))=true then(cz l i).bind (k i)else some (.inr e))
  (hk:∀x∈l,∀i,k i x=some (if p x=true then .inr y else .inl (aR (i+1)))):loop body 0=some (if l.any p=true then y else e):=by
 have:=J4 l hl body p y e (fun i hi=>?_) (by rw[hb,vae (by simp)]) 0 (vaN _)
 ·rw[vaV]at this
  exact this
 ·rw[hb,vad (by simp;omega),bo l i hi]
  simp only[vaa]
  exact hk _ (vak hi) i
theorem ik(l:List α)(hl:l.length<9223372036854775808)(mk:Int->σ->τ)(body:τ->Option (τ⊕X))(k:Int->σ->α->Option (τ⊕X))(I:Nat->σ->Prop)(g:α->σ->σ)(e:σ->X)(s0:σ)(h0:I 0 s0)
  (hb:∀(i:Int) (s:σ),body (mk i s)=if decide (i<(l.length:Int))=true then(cz l i).bind (k i s)else some (.inr (e s)))
  (hin:∀(i:Nat) (h:i<l.length) s,I i s->k i s l[i]=some (.inl (mk (aR ((i:Int)+1)) (g l[i] s)))/\I (i+1) (g l[i] s)):loop body (mk 0 s0)=some (e (l.foldl (fun s x=>g x s) s0)):=by
 have:=kP l hl mk body I (fun _ x s=>.inl (g x s)) e (fun i h s hs=>⟨?_,fun s' hs'=>by cases hs';exact(hin i h s hs).2⟩) (fun s hs=>by rw[hb,vae (by simp)]) 0 s0 (vaN _) h0
 ·rw[vaV,show((0:Nat):Int)=0 from rfl]at this
  rw[this]
  have key:∀(l:List α) (i:Nat) (s:σ),mV (fun _ x (s:σ)=>(Sum.inl (g x s):σ⊕X)) e l i s=e (l.foldl (fun s x=>g x s) s):=by
   intro l
   induction l with
   |nil=>intro i s;rfl
   |cons x l ih=>intro i s;unfold mV;simp only;rw[ih];rfl
  rw[key]
 ·rw[hb,vad (by simp;omega),bo l i h]
  simp only[vaa]
  exact(hin i h s hs).1
theorem TV(l:List α)(hl:l.length<9223372036854775808)(mk:Int->σ->τ){body:τ->Option (τ⊕X)}(k:Int->σ->α->Option (τ⊕X))(e:σ->X)(I:Nat->σ->Prop){Q:X->Prop}
  (hb:∀(i:Int) (s:σ),body (mk i s)=if decide (i<(l.length:Int))=true then(cz l i).bind (k i s)else some (.inr (e s)))
  (hin:∀(i:Nat) (h:i<l.length) s,I i s->fy (k i s l[i]) (fun r=>match r with|.inl t=>∃s',t=mk (aR ((i:Int)+1)) s'/\I (i+1) s'|.inr y=>Q y))
  (hend:∀s,I l.length s->Q (e s)):∀s,I 0 s->fy (loop body (mk 0 s)) Q:=
 A0 l hl mk I (fun i h s hs=>by
  rw[hb,vad (by simp;omega),bo l i h]
  exact hin i h s hs) (fun s hs=>by
  rw[hb,vae (by simp)]
  exact⟨_,rfl,hend s hs⟩)
theorem qbW(l:List α)(hl:l.length<9223372036854775808){body:Int->Option (Int⊕X)}(k:Int->α->Option (Int⊕X))(e:X)(I:Nat->Prop){Q:X->Prop}
  (hb:∀(i:Int),body i=if decide (i<(l.length:Int))=true then(cz l i).bind (k i)else some (.inr e))
  (hin:∀(i:Nat) (h:i<l.length),I i->fy (k i l[i]) (fun r=>match r with|.inl t=>t=aR ((i:Int)+1)/\I (i+1)|.inr y=>Q y))
  (hend:I l.length->Q e) (h0:I 0):fy (loop body 0) Q:=
 TV l hl (fun i (_:Unit)=>i) (fun i _=>k i) (fun _=>e) (fun i _=>I i) (fun i _=>hb i) (fun i h s hs=>(hin i h hs).mono fun r hr=>by
  cases r with
  |inl t=>exact⟨(),hr.1,hr.2⟩
  |inr y=>exact hr) (fun _ h=>hend h) () h0
end
def Da{α:Type}(p:α->α->Bool):List α->List α->Bool
 |[],[]=>true
 |x::a,y::b=>p x y&&Da p a b
 |_,_=>false
theorem Wz{α:Type}{p:α->α->Bool}:∀{a b:List α},Da p a b=true->a.length=b.length
 |[],[],_=>rfl
 |x::a,y::b,h=>by
  rw[Da,vaj]at h
  simp[Wz h.2]
 |[],y::b,h=>by simp[Da]at h
 |x::a,[],h=>by simp[Da]at h
theorem Zr{α:Type}{p:α->α->Bool}:∀{a b:List α},a.length≠b.length->Da p a b=false:=fun{a b} h=>by
 rw[vco]
 exact fun he=>h (Wz he)
theorem WA{α:Type}{p:α->α->Bool}:∀{a b:List α},a.length=b.length->(a.zip b).any (fun x=>!p x.1 x.2)= !Da p a b
 |[],[],_=>rfl
 |x::a,y::b,h=>by
  rw[List.zip_cons_cons,List.any_cons,WA (by simpa using h),Da]
  cases p x y<;>rfl
theorem Tq{α X:Type}{a b:List α}(hl:a.length=b.length)(ha:a.length<9223372036854775808)(body:Int->Option (Int⊕X))(k:Int->α->α->Option (Int⊕X))(p:α->α->Bool)(y e:X)
  (hb:∀(i:Int),body i=if decide (i<(a.length:Int))=true then(cz a i).bind (fun x=>(cz b i).bind (k i x))else some (.inr e))
  (hk:∀x∈a,∀z∈b,∀i,k i x z=some (if p x z=true then .inl (aR (i+1))else .inr y)):loop body 0=some (if Da p a b=true then e else y):=by
 have hz:(a.zip b).length=a.length:=by simp[hl]
 have:=J4 (a.zip b) (by omega) body (fun x=>!p x.1 x.2) y e (fun i h=>?_) (by rw[hb,vae (by simp[hz])]) 0 (vaN _)
 ·rw[vaV,WA hl]at this
  rw[show((0:Nat):Int)=0 from rfl]at this
  rw[this]
  by_cases h:Da p a b=true<;>simp[h]
 ·have h1:i<a.length:=by omega
  have h2:i<b.length:=by omega
  rw[hb,vad (by simp;omega),bo a i h1]
  simp only[vaa]
  rw[bo b i h2]
  simp only[vaa]
  rw[hk _ (vak h1) _ (vak h2)]
  have hzi:(a.zip b)[i]=(a[i],b[i]):=by simp
  rw[hzi]
  by_cases h:p a[i] b[i]=true<;>simp[h]
theorem AE{α:Type}(l:List α)(h:l.length<=1073741824):nS l=some l:=vad h
mutual
def dP:aa->Nat
 |⟨_,_,_,ks⟩=>dL ks+1
def dL:List aa->Nat
 |[]=>0
 |p::ps=>max (dP p) (dL ps)
end
theorem qiy(p:aa):dP p=dL p.Kids+1:=by obtain⟨o,n,k,ks⟩:=p;rw[dP];rfl
mutual
theorem qfN:∀(p:aa),dP p<=nP p
 |⟨o,n,k,ks⟩=>by have:=qfM ks;rw[dP,nP];omega
theorem qfM:∀(l:List aa),dL l<=nL l
 |[]=>by simp[dL]
 |p::l=>by have:=qfN p;have:=qfM l;rw[dL,nL];omega
end
theorem ZP:∀(l:List aa) (a:Nat),l.foldl (fun(s:Int) x=>if(dP x:Int)>s then(dP x:Int)else s) (a:Int)=((max a (dL l):Nat):Int)
 |[],a=>by simp[dL]
 |x::l,a=>by
  rw[List.foldl_cons,show(if(dP x:Int)>(a:Int)then(dP x:Int)else(a:Int))=((max a (dP x):Nat):Int) by split<;>omega,ZP l,dL,Nat.max_assoc]
theorem qcD(p:aa)(hp:nP p<=bq):KO p=some (dP p:Int):=by
 refine eP (F:=DG) nP (fun x=>nP x<=bq) (fun x=>(dP x:Int)) (fun R x hx ih=>?_) p hp (ed hp)
 show yx (fun p=>R p) x=_
 unfold yx Bp
 have hlen:=rx x
 have hd:=qfN x
 have he:=qiy x
 have hz:(0:Int)=((0:Nat):Int):=rfl
 rw[ik x.Kids (by unfold bq at hx;omega) (fun i s=>(s,i)) _ (fun i s x=>(R x).bind fun r=>some (.inl ((if r>s then r else s),aR (i+1)))) (fun _ _=>True) (fun x s=>if(dP x:Int)>s then(dP x:Int)else s) id 0 trivial (fun i s=>rfl) (fun i hi s _=>⟨?_,trivial⟩)]
 ·rw[hz,ZP]
  simp only[id,vaa]
  unfold bq at hx
  rw[dB (by omega) (by omega)]
  congr 1;omega
 ·have hm:=vak hi
  have hk:=pT hm
  rw[ih _ hk (by omega)]
  rfl
def ph(ns:List ag)(bs:List aa)(n:ag):Option aa:=(ns.findIdx? (fun x=>x==n)).bind fun j=>bs[j]?
mutual
def GM(f:ag->Option aa):aa->aa
 |⟨o,n,k,ks⟩=>(if o=3 then f n else none).getD ⟨o,n,k,qaj f ks⟩
def qaj(f:ag->Option aa):List aa->List aa
 |[]=>[]
 |p::ps=>GM f p::qaj f ps
end
theorem VM(f:ag->Option aa):∀(l:List aa),qaj f l=l.map (GM f)
 |[]=>by rw[qaj];rfl
 |p::l=>by rw[qaj,VM f l];rfl
theorem qdX(f:ag->Option aa)(p:aa):GM f p=(if p.Op=3 then f p.Name else none).getD ⟨p.Op,p.Name,p.N,p.Kids.map (GM f)⟩:=by
 obtain⟨o,n,k,ks⟩:=p
 rw[GM,VM];rfl
mutual
theorem qf0(f:ag->Option aa)(M:Nat)(hM:1<=M)(hf:∀n q,f n=some q->nP q<=M):∀(p:aa),nP (GM f p)<=nP p * M
 | ⟨o,n,k,ks⟩ => by
  have:=qfZ f M hM hf ks
  rw[GM]
  cases h:(if o=3 then f n else none)with
  |none=>
   simp only[Option.getD_none]
   rw[nP,nP,va7];omega
  | some q =>
   simp only[Option.getD_some]
   have:f n=some q:=by
    split at h
    ·exact h
    ·cases h
   have:=hf n q this
   rw[nP,va7]
   have:0<=nL ks * M:=vaN _
   omega
theorem qfZ(f:ag->Option aa)(M:Nat)(hM:1<=M)(hf:∀n q,f n=some q->nP q<=M):∀(l:List aa),nL (qaj f l)<=nL l * M
 |[]=>by simp[qaj,nL]
 |p::l=>by
  have:=qf0 f M hM hf p
  have:=qfZ f M hM hf l
  rw[qaj,nL,nL,va7];omega
end
theorem qc7{ns:List ag}{bs:List aa}{n:ag}{q:aa}(h:ph ns bs n=some q):q∈bs:=by
 unfold ph at h
 cases hf:ns.findIdx? (fun x=>x==n)with
 |none=>rw[hf]at h;cases h
 |some j=>
  rw[hf]at h
  exact vaA h
theorem qg2(ns:List ag)(bs:List aa)(p:aa)(hn:ns.length<9223372036854775808):py ns bs p=some ((if p.Op=3 then ph ns bs p.Name else none).elim (.inr ()) (fun q=>.inl (q.Op,q.Name,q.N,q.Kids))):=by
 unfold py uE ph
 by_cases h1:p.Op=3
 ·rw[vad (by simpa using h1),Q6 ns p.Name hn,vad h1]
  simp only[vaa]
  cases hf:ns.findIdx? (fun x=>x==p.Name)with
  |none=>rfl
  | some j =>
   simp only[vaa]
   rw[vad (vbk (show(j:Int)>=0 by omega))]
   simp only[vaa]
   by_cases h2:j<bs.length
   ·rw[vad (vbk (by omega)),bo bs j h2,vab h2]
    rfl
   ·rw[vae (by simp;omega),vat (by omega)]
    rfl
 ·rw[vae (by simpa using h1),vae h1]
  rfl
theorem VJ(p:aa)(ns:List ag)(bs:List aa)(hp:nP p<=bq)(hn:ns.length<9223372036854775808):nk p ns bs=some (GM (ph ns bs) p):=by
 refine eP (F:=wH) (fun x=>nP x.1) (fun x=>nP x.1<=bq/\x.2=(ns,bs)) (fun x=>GM (ph x.2.1 x.2.2) x.1) (fun R x hx ih=>?_) (p,ns,bs) ⟨hp,rfl⟩ (ed hp)
 obtain⟨p,ns',bs'⟩:=x
 obtain⟨hx,he⟩:=hx
 cases he
 have hx:nP p<=bq:=hx
 show qL (fun p names a=>R (p,names,a)) p ns bs=some (GM (ph ns bs) p)
 unfold qL
 rw[qg2 ns bs p hn,qdX]
 cases h:(if p.Op=3 then ph ns bs p.Name else none)with
 |some q=>
  simp only[Option.elim,vaa,wq,Option.getD_some]
 |none=>
  simp only[Option.elim,vaa,Option.getD_none]
  unfold uF
  have hlen:=rx p
  rw[qk p.Kids (by unfold bq at hx;omega) (fun i s=>(s,i)) _ (fun y=>R (y,ns,bs)) (GM (ph ns bs)) id (fun i s=>rfl) (fun y hy=>ih (y,ns,bs) (pT hy) ⟨by have:=pT hy;show nP y<=bq;omega,rfl⟩)]
  rfl
theorem qfd(ns:List ag)(bs:List aa)(p:aa)(hn:ns.length<9223372036854775808)(hb:∀q∈bs,nP q<=bq):nD ns bs p=some ((if p.Op=3 then ph ns bs p.Name else none).elim (.inr ()) (fun q=>.inl (q.Op,q.Name,q.N,q.Kids))):=by
 unfold nD s9 ph Il
 by_cases h1:p.Op=3
 ·rw[vad (by simpa using h1),W2 ns p.Name hn,vad h1]
  simp only[vaa]
  cases hf:ns.findIdx? (fun x=>x==p.Name)with
  |none=>rfl
  | some j =>
   simp only[vaa]
   rw[vad (vbk (show(j:Int)>=0 by omega))]
   simp only[vaa]
   by_cases h2:j<bs.length
   ·rw[vad (vbk (by omega)),bo bs j h2,vab h2]
    simp only[vaa]
    rw[Ta _ (hb _ (vak h2))]
    rfl
   ·rw[vae (by simp;omega),vat (by omega)]
    rfl
 ·rw[vae (by simpa using h1),vae h1]
  rfl
theorem VE(p:aa)(ns:List ag)(bs:List aa)(hp:nP p<=bq)(hn:ns.length<9223372036854775808)(hb:∀q∈bs,nP q<=bq):lH p ns bs=some (GM (ph ns bs) p):=by
 refine eP (F:=u3) (fun x=>nP x.1) (fun x=>nP x.1<=bq/\x.2=(ns,bs)) (fun x=>GM (ph x.2.1 x.2.2) x.1) (fun R x hx ih=>?_) (p,ns,bs) ⟨hp,rfl⟩ (ed hp)
 obtain⟨p,ns',bs'⟩:=x
 obtain⟨hx,he⟩:=hx
 cases he
 have hx:nP p<=bq:=hx
 show pJ (fun p names a=>R (p,names,a)) p ns bs=some (GM (ph ns bs) p)
 unfold pJ
 rw[qfd ns bs p hn hb,qdX]
 cases h:(if p.Op=3 then ph ns bs p.Name else none)with
 |some q=>
  simp only[Option.elim,vaa,wq,Option.getD_some]
 |none=>
  simp only[Option.elim,vaa,Option.getD_none]
  unfold ta
  have hlen:=rx p
  rw[qk p.Kids (by unfold bq at hx;omega) (fun i s=>(i,s)) _ (fun y=>R (y,ns,bs)) (GM (ph ns bs)) id (fun i s=>rfl) (fun y hy=>ih (y,ns,bs) (pT hy) ⟨by have:=pT hy;show nP y<=bq;omega,rfl⟩)]
  rfl
def MB(v:ag)(q:aa)(n:ag):Option aa:=if n=v then some q else none
theorem Xg(v:ag)(q:aa):ph [v] [q]=MB v q:=by
 funext n
 unfold ph MB
 rw[vcQ]
 by_cases h:n=v
 ·subst h;simp
 ·have h':(v==n)=false:=by simpa using fun e=>h e.symm
  simp[h',h]
theorem TF(p:aa)(v:ag)(q:aa)(hp:nP p<=bq)(hq:nP q<=bq):xT p v q=some (GM (MB v q) p):=by
 unfold xT
 rw[VE p [v] [q] hp (by simp) (by simpa using hq),Xg]
 rfl
theorem TL(p:aa)(v:ag)(q:aa)(hp:nP p<=bq):An p v q=some (GM (MB v q) p):=by
 unfold An
 rw[VJ p [v] [q] hp (by simp),Xg]
 rfl
theorem Te(t:ae):(⟨t.Op,t.Name,t.Args,t.Names,t.Pred,t.Preds⟩:ae)=t:=by cases t;rfl
mutual
def cn:ae->Nat
 |⟨_,_,xs,ns,_,ps⟩=>dv xs+ns.length+ps.length+1
def dv:List ae->Nat
 |[]=>0
 |a::xs=>cn a+dv xs
end
theorem tI(t:ae):cn t=dv t.Args+t.Names.length+t.Preds.length+1:=by obtain⟨o,n,xs,ns,p,ps⟩:=t;rw[cn];rfl
theorem pd(t:ae):1<=cn t:=by rw[tI];omega
theorem LE:∀{l:List ae} {x:ae},x∈l->cn x<=dv l
 | y :: l,x,h => by
  rw[dv]
  rcases vaw.1 h with rfl|h
  ·omega
  ·have:=LE h;omega
theorem F8:∀(l:List ae),l.length<=dv l
 |[]=>by simp[dv]
 |p::l=>by rw[dv];have:=F8 l;have:=pd p;simp only[vaP];omega
theorem gy{t a:ae}(h:a∈t.Args):cn a<cn t:=by rw[tI t];have:=LE h;omega
theorem fA(t:ae):t.Args.length<cn t:=by rw[tI];have:=F8 t.Args;omega
theorem iL(t:ae):t.Names.length<cn t:=by rw[tI];omega
theorem AV(t:ae):t.Preds.length<cn t:=by rw[tI];omega
mutual
def H1(Q:aa->Prop):ae->Prop
 |⟨_,_,xs,_,p,ps⟩=>Q p/\(∀q∈ps,Q q)/\EG Q xs
def EG(Q:aa->Prop):List ae->Prop
 |[]=>True
 |a::xs=>H1 Q a/\EG Q xs
end
theorem qce(Q:aa->Prop)(t:ae):H1 Q t↔Q t.Pred/\(∀q∈t.Preds,Q q)/\EG Q t.Args:=by obtain⟨o,n,xs,ns,p,ps⟩:=t;rw[H1];rfl
theorem SU(Q:aa->Prop):∀(l:List ae),EG Q l↔∀t∈l,H1 Q t
 |[]=>by simp[EG]
 |a::l=>by rw[EG,SU Q l];simp
mutual
theorem SV{Q R:aa->Prop}(h:∀p,Q p->R p):∀(t:ae),H1 Q t->H1 R t
 |⟨_,_,xs,_,p,ps⟩,ht=>by
  rw[H1]at ht ⊢
  exact⟨h _ ht.1,fun q hq=>h _ (ht.2.1 q hq),PD h xs ht.2.2⟩
theorem PD{Q R:aa->Prop}(h:∀p,Q p->R p):∀(l:List ae),EG Q l->EG R l
 |[],_=>trivial
 |a::xs,hl=>by
  rw[EG]at hl ⊢
  exact⟨SV h a hl.1,PD h xs hl.2⟩
end
theorem qfV(l:List aa):l.length<=bZ (l.map ac):=by
 have:=Cx l
 have:=Z2 l
 omega
theorem ZX(l:List ag):l.length<=bZ (l.map cS):=by
 have h:=Xx (l.map cS) (fun x hx=>by
  obtain⟨s,_,rfl⟩:=vaq.1 hx
  simp only[cS,gf,pm];omega)
 rwa[vaF]at h
theorem AS(t:ae):gf (af t)=1+(pm (.str t.Name)+(pm (sl af t.Args)+(pm (sl cS t.Names)+(1+(pm (.str t.Pred.Name)+(1+(pm (sl ac t.Pred.Kids)+(pm (sl ac t.Preds)+0)))))))):=by
 rw[bu];rfl
mutual
theorem ZZ:∀(t:ae),cn t<=gf (af t)
 |⟨o,n,xs,ns,p,ps⟩=>by
  have h1:=W7 xs
  have h2:=qfV ps
  have h3:=ZX ns
  rw[cn,AS]
  show _<=1+(pm (.str n)+(pm (sl af xs)+(pm (sl cS ns)+(1+(pm (.str p.Name)+(1+(pm (sl ac p.Kids)+(pm (sl ac ps)+0))))))))
  simp only[pm,sl]
  omega
theorem W7:∀(l:List ae),dv l<=bZ (l.map af)
 |[]=>by simp[dv]
 |a::l=>by
  have:=ZZ a
  have:=W7 l
  rw[dv]
  simp only[vay,bZ]
  omega
end
theorem qe9(t:ae):nP t.Pred<=gf (af t):=by
 have h:=Z2 t.Pred.Kids
 rw[QD,AS]
 simp only[pm,sl]
 omega
mutual
theorem Zu(B:Nat):∀(t:ae),gf (af t)<=B->H1 (fun p=>nP p<=B) t
 |⟨o,n,xs,ns,p,ps⟩,h=>by
  have h0:=qe9 ⟨o,n,xs,ns,p,ps⟩
  rw[AS]at h h0
  have h:1+(pm (.str n)+(pm (sl af xs)+(pm (sl cS ns)+(1+(pm (.str p.Name)+(1+(pm (sl ac p.Kids)+(pm (sl ac ps)+0))))))))<=B:=h
  have h0:nP p<=1+(pm (.str n)+(pm (sl af xs)+(pm (sl cS ns)+(1+(pm (.str p.Name)+(1+(pm (sl ac p.Kids)+(pm (sl ac ps)+0)))))))):=h0
  simp only[pm,sl]at h h0
  rw[H1]
  refine⟨by omega,fun q hq=>?_,WD B xs (by omega)⟩
  have h1:=qfW q
  have h2:=xQ (vaq.2 ⟨q,hq,rfl⟩:ac q∈ps.map ac)
  omega
theorem WD(B:Nat):∀(l:List ae),bZ (l.map af)<=B->EG (fun p=>nP p<=B) l
 |[],_=>trivial
 |a::xs,h=>by
  simp only[vay,bZ]at h
  rw[EG]
  exact⟨Zu B a (by omega),WD B xs (by omega)⟩
end
section
variable{α β σ τ X Y:Type}
theorem Qx(l:List α)(hl:l.length<9223372036854775808)(mk:Int->τ)(body:τ->Option (τ⊕X))(f:α->Option X)(e:X)
  (hin:∀(i:Nat) (h:i<l.length),body (mk (i:Int))=some ((f l[i]).elim (.inl (mk (aR ((i:Int)+1)))) .inr)) (hend:body (mk l.length)=some (.inr e)):loop body (mk 0)=some ((l.findSome? f).elim e id):=by
 have key:∀k i,k+i=l.length->loop body (mk (i:Int))=some (((l.drop i).findSome? f).elim e id):=by
  intro k
  induction k with
  |zero=>
   intro i hi
   have:i=l.length:=by omega
   subst this
   rw[km,hend,vb1]
   rfl
  | succ k ih =>
   intro i hi
   rw[km,hin i (by omega),va8 (by omega),List.findSome?_cons]
   cases h:f l[i]with
   |none=>
    simp only[Option.elim]
    rw[dB (by omega) (by omega),show((i:Int)+1)=((i+1:Nat):Int) by omega]
    exact ih (i+1) (by omega)
   |some y=>rfl
 have:=key l.length 0 (by omega)
 rw[vaV]at this
 exact this
theorem tn{A:Type}(l:List α)(hl:l.length<9223372036854775808){body:Int->Option (Int⊕(A⊕Unit))}(k:Int->α->Option (Int⊕(A⊕Unit)))(P:α->Prop)(B:A->Prop)
  (hb:∀(i:Int),body i=if decide (i<(l.length:Int))=true then(cz l i).bind (k i)else some (.inr (.inr ())))
  (hk:∀x∈l,∀i,fy (k i x) (fun r=>r.elim (fun t=>t=aR (i+1)/\P x) (fun y=>y.elim B (fun _=>False)))):fy (loop body 0) (fun r=>r.elim B (fun _=>∀x∈l,P x)):=by
 refine qbW l hl k (.inr ()) (fun i=>∀j (h:j<l.length),j<i->P l[j]) hb (fun i hi hI=>(hk _ (vak hi) i).mono fun r hr=>?_) (fun hI x hx=>?_) (fun j _ h=>absurd h (vaS _))
 ·cases r with
  | inl t =>
   refine⟨hr.1,fun j hj h=>?_⟩
   by_cases he:j=i
   ·subst he;exact hr.2
   ·exact hI j hj (by omega)
  |inr y=>cases y with
   |inl a=>exact hr
   |inr u=>exact hr.elim
 ·obtain⟨j,hj,rfl⟩:=vcK hx
  exact hI j hj hj
end
theorem pw{a b:List ag}{x:ag}:x∈kq a b↔x∈a\/x∈b:=(IH a b).2 x
theorem Fr(a b:List ag):ME (kq a b):=(IH a b).1
theorem qdY{a b c d:List ag}(h:∀x,(x∈a\/x∈b)↔(x∈c\/x∈d)):kq a b=kq c d:=
 Cs (Fr a b) (Fr c d) fun x=>by rw[pw,pw];exact h x
theorem qam{l a b:List ag}(hl:ME l)(h:∀x,x∈l↔x∈a\/x∈b):l=kq a b:=Cs hl (Fr a b) fun x=>by rw[pw];exact h x
theorem mY(a b:List ag):(kq a b).length<=a.length+b.length:=by
 have h1:=Ml (mZ (a++b))
 have h2:=rR (a++b)
 rw[vag]at h2
 unfold kq
 omega
theorem qeX(x:ag):ME [x]:=by simp[ME]
theorem Vf:ME ([]:List ag):=by simp[ME]
def ru{α σ:Type}(g:Nat->α->σ->σ):List α->Nat->σ->σ
 |[],_,s=>s
 |x::l,i,s=>ru g l (i+1) (g i x s)
theorem Qy{α σ τ X:Type}(l:List α)(hl:l.length<9223372036854775808)(mk:Int->σ->τ)(body:τ->Option (τ⊕X))(k:Int->σ->α->Option (τ⊕X))(I:Nat->σ->Prop)(g:Nat->α->σ->σ)(e:σ->X)(s0:σ)(h0:I 0 s0)
  (hb:∀(i:Int) (s:σ),body (mk i s)=if decide (i<(l.length:Int))=true then(cz l i).bind (k i s)else some (.inr (e s)))
  (hin:∀(i:Nat) (h:i<l.length) s,I i s->k i s l[i]=some (.inl (mk (aR ((i:Int)+1)) (g i l[i] s)))/\I (i+1) (g i l[i] s)):loop body (mk 0 s0)=some (e (ru g l 0 s0)):=by
 have:=kP l hl mk body I (fun i x s=>.inl (g i x s)) e (fun i h s hs=>⟨?_,fun s' hs'=>by cases hs';exact(hin i h s hs).2⟩) (fun s hs=>by rw[hb,vae (by simp)]) 0 s0 (vaN _) h0
 ·rw[vaV,show((0:Nat):Int)=0 from rfl]at this
  rw[this]
  have key:∀(l:List α) (i:Nat) (s:σ),mV (fun i x (s:σ)=>(Sum.inl (g i x s):σ⊕X)) e l i s=e (ru g l i s):=by
   intro l
   induction l with
   |nil=>intro i s;rfl
   |cons x l ih=>intro i s;unfold mV;simp only;rw[ih];rfl
  rw[key]
 ·rw[hb,vad (by simp;omega),bo l i h]
  simp only[vaa]
  exact(hin i h s hs).1
mutual
def On:aa->List ag
 |⟨o,n,k,ks⟩=>(if o=3 then[n]else[])++T0 ks
def T0:List aa->List ag
 |[]=>[]
 |p::ps=>On p++T0 ps
end
theorem qg9(p:aa):On p=(if p.Op=3 then[p.Name]else[])++T0 p.Kids:=by obtain⟨o,n,k,ks⟩:=p;rw[On];rfl
theorem V0{x:ag}:∀{l:List aa},x∈T0 l↔∃p∈l,x∈On p
 |[]=>by simp[T0]
 |p::l=>by rw[T0,vaE,V0];simp
mutual
theorem Oo:∀(p:aa),(On p).length<=nP p
 |⟨o,n,k,ks⟩=>by
  have:=VZ ks
  rw[On,nP,vag]
  split<;>simp<;>omega
theorem VZ:∀(l:List aa),(T0 l).length<=nL l
 |[]=>by simp[T0]
 |p::l=>by
  have:=Oo p
  have:=VZ l
  rw[T0,nL,vag];omega
end
mutual
theorem X2:∀(p:aa) (s:List ag),nP p<=bq->s.length+(On p).length<=1073741824->VY uk p s=some (true,s++On p)
 | ⟨o,n,k,ks⟩,s,hp,hs => by
  rw[nP]at hp
  rw[On,vag]at hs
  have hk:=Cx ks
  have h1:uk s ⟨o,n,k,ks⟩=some (true,s++(if o=3 then[n]else[])):=by
   unfold uk
   show(if(o==3)=true then(app s [n]).bind fun l=>some (true,l)else some (true,s))=_
   by_cases h:o=3
   ·rw[vad (by simpa using h),vad h,cN (by rw[vad h]at hs;simp at hs ⊢;omega)]
    rfl
   ·rw[vae (by simpa using h),vae h,va1]
  have h2:=TX ks (s++(if o=3 then[n]else[])) (by omega) (by rw[vag];omega)
  rw[VY,h1]
  simp only[vaa]
  rw[vad (by unfold bq at hp;omega),h2,On,vba]
theorem TX:∀(l:List aa) (s:List ag),nL l<=bq->s.length+(T0 l).length<=1073741824->VX uk l s=some (true,s++T0 l)
 |[],s,_,_=>by rw[VX,T0,va1]
 |p::l,s,hp,hs=>by
  rw[nL]at hp
  rw[T0,vag]at hs
  rw[VX,X2 p s (by omega) (by omega)]
  simp only[vaa]
  rw[TX l _ (by omega) (by rw[vag];omega),T0,vba]
end
def d7(p:aa):List ag:=kq (On p) []
theorem AI{p:aa}{x:ag}:x∈d7 p↔x∈On p:=by unfold d7;rw[pw];simp
theorem lE(p:aa):(d7 p).length<=nP p:=by
 have h1:=mY (On p) []
 have h2:=Oo p
 unfold d7
 simp at h1
 omega
theorem Xt(p:aa)(hp:nP p<=400000000):sZ p=some (d7 p):=by
 have h:=Oo p
 unfold sZ
 rw[X2 p [] (by unfold bq;omega) (by simp;omega)]
 simp only[vaa,vaC]
 rw[E4 _ _ (by simp;omega)]
 rfl
theorem yX{α:Type}(f:α->List ag):∀(l:List α) (s:List ag),ME s->ME (l.foldl (fun s x=>kq s (f x)) s)/\∀x,x∈l.foldl (fun s x=>kq s (f x)) s↔x∈s\/∃y∈l,x∈f y
 |[],s,h=>⟨h,by simp⟩
 |y::l,s,h=>by
  obtain⟨h1,h2⟩:=yX f l (kq s (f y)) (Fr _ _)
  refine⟨h1,fun x=>?_⟩
  rw[List.foldl_cons,h2,pw]
  simp only[vaw,exists_eq_or_imp,or_assoc]
theorem Q7(p:aa)(hp:nP p<=200000000):tU p=some (d7 p):=by
 refine eP (F:=Hz) nP (fun x=>nP x<=200000000) d7 (fun R x hx ih=>?_) p hp (ed (by unfold bq;omega))
 show Bq (fun p=>R p) x=_
 unfold Bq DI
 rw[show(if(x.Op==3)=true then some ([x.Name]:List ag)else some ([]:List ag))=some (if x.Op=3 then[x.Name]else[]) by by_cases h:x.Op=3<;>simp[h]]
 simp only[vaa]
 unfold DJ
 have hlen:=rx x
 have hn:=QD x
 have h0:(if x.Op=3 then[x.Name]else[]:List ag).length<=1:=by split<;>simp
 have hi0:ME (if x.Op=3 then[x.Name]else[]:List ag):=by split;exact qeX _;exact Vf
 rw[ik x.Kids (by omega) (fun i s=>(s,i)) _ (fun i s y=>(R y).bind fun r=>(gj s r).bind fun r6=>some (.inl (r6,aR (i+1)))) (fun i s=>s.length<=1+nL (x.Kids.take i)) (fun y s=>kq s (d7 y)) id (if x.Op=3 then[x.Name]else[]) (by simpa[nL]using h0) (fun i s=>rfl) (fun i hi s hs=>?_)]
 ·simp only[id,vaa]
  obtain⟨f1,f2⟩:=yX d7 x.Kids (if x.Op=3 then[x.Name]else[]) hi0
  congr 1
  refine qam f1 fun y=>?_
  rw[f2,qg9,vaE,V0]
  simp only[AI,vaH,or_false]
 ·have hm:=vak hi
  have hk:=pT hm
  have h1:=y4 x.Kids i hi
  have h2:=pU x.Kids (i+1)
  have h3:=lE x.Kids[i]
  refine⟨?_,?_⟩
  ·rw[ih _ hk (by omega)]
   simp only[vaa]
   rw[ke _ _ (by omega) (by omega)]
   rfl
  ·have:=mY s (d7 x.Kids[i])
   omega
def vV(o:Int)(ns:List ag)(i:Nat):List ag:=if o=6 then ns.take i else[]
mutual
def vT:ae->List ag
 |⟨o,n,xs,ns,p,ps⟩=>(On p++T0 ps).filter (fun s=>!(s==[118]))++qfw o ns 0 xs
def qfw(o:Int)(ns:List ag):Nat->List ae->List ag
 |_,[]=>[]
 |i,a::xs=>(vT a).filter (fun s=>!decide (s∈vV o ns i))++qfw o ns (i+1) xs
end
theorem qf5(t:ae):vT t=(On t.Pred++T0 t.Preds).filter (fun s=>!(s==[118]))++qfw t.Op t.Names 0 t.Args:=by obtain⟨o,n,xs,ns,p,ps⟩:=t;rw[vT];rfl
mutual
def wT:ae->Nat
 |⟨_,_,xs,_,p,ps⟩=>nP p+nL ps+uA xs
def uA:List ae->Nat
 |[]=>0
 |a::xs=>wT a+uA xs
end
theorem rX(t:ae):wT t=nP t.Pred+nL t.Preds+uA t.Args:=by obtain⟨o,n,xs,ns,p,ps⟩:=t;rw[wT];rfl
theorem V1:∀{l:List ae} {x:ae},x∈l->wT x<=uA l
 | y :: l,x,h => by
  rw[uA]
  rcases vaw.1 h with rfl|h
  ·omega
  ·have:=V1 h;omega
theorem qcj{t a:ae}(h:a∈t.Args):wT a<=wT t:=by rw[rX t];have:=V1 h;omega
theorem Fy(l:List ae)(i:Nat)(h:i<l.length):uA (l.take (i+1))=uA (l.take i)+wT l[i]:=by
 have key:∀(a b:List ae),uA (a++b)=uA a+uA b:=by
  intro a b
  induction a with
  |nil=>simp[uA]
  |cons x a ih=>rw[vaG,uA,uA,ih];omega
 rw[vaM h,key]
 simp[uA]
theorem FA:∀(l:List ae) (i:Nat),uA (l.take i)<=uA l
 |[],i=>by simp
 |x::l,0=>by simp[uA]
 |x::l,i+1=>by rw[List.take_succ_cons,uA,uA];have:=FA l i;omega
mutual
theorem qd4:∀(t:ae),(vT t).length<=wT t
 |⟨o,n,xs,ns,p,ps⟩=>by
  have h1:=qap o ns 0 xs
  have h2:=Oo p
  have h3:=VZ ps
  have h4:=vaW (fun s=>!(s==[118])) (On p++T0 ps)
  rw[vT,wT,vag]
  rw[vag]at h4
  omega
theorem qap(o:Int)(ns:List ag):∀(i:Nat) (l:List ae),(qfw o ns i l).length<=uA l
 |i,[]=>by simp[qfw]
 |i,a::xs=>by
  have h1:=qd4 a
  have h2:=qap o ns (i+1) xs
  have h3:=vaW (fun s=>!decide (s∈vV o ns i)) (vT a)
  rw[qfw,uA,vag]
  omega
end
def freeT(t:ae):List ag:=kq (vT t) []
theorem Th{t:ae}{x:ag}:x∈freeT t↔x∈vT t:=by unfold freeT;rw[pw];simp
theorem qj(t:ae):(freeT t).length<=wT t:=by
 have h1:=mY (vT t) []
 have h2:=qd4 t
 unfold freeT
 simp at h1
 omega
theorem VW{o:Int}{ns:List ag}{x:ag}:∀{l:List ae} {i:Nat},x∈qfw o ns i l↔∃(j:Nat) (h:j<l.length),x∈vT l[j]/\x∉vV o ns (i+j)
 |[],i=>by simp[qfw]
 | a :: l,i => by
  rw[qfw,vaE,VW]
  simp only[vaR,va5,vbp]
  constructor
  ·rintro(h|⟨j,hj,h1,h2⟩)
   ·exact⟨0,by simp,by simpa using h⟩
   ·exact⟨j+1,by simp;omega,by simpa using h1,by rw[show i+(j+1)=i+1+j by omega];exact h2⟩
  ·rintro⟨j,hj,h1,h2⟩
   cases j with
   |zero=>exact .inl ⟨by simpa using h1,by simpa using h2⟩
   |succ j=>exact .inr ⟨j,by simp at hj;omega,by simpa using h1,by rw[show i+1+j=i+(j+1) by omega];exact h2⟩
theorem qan{α:Type}(l:List α)(i:Nat)(hl:l.length<9223372036854775808):N2 l none (some (if(l.length:Int)<(i:Int)then(l.length:Int)else(i:Int)))=some (l.take i):=by
 by_cases h:l.length<i
 ·rw[vad (by omega),Zj l l.length (vah _),vbr (vah _),vbr (by omega)]
 ·rw[vae (by omega),Zj l i (by omega)]
theorem qaH(t:ae)(i:Nat)(h:t.Names.length<9223372036854775808):mT t i=some (vV t.Op t.Names i):=by
 unfold mT vV
 by_cases ho:t.Op=6
 ·rw[vae (by simpa using ho),qan _ i h,vad ho]
  rfl
 ·rw[vad (by simpa using ho),vae ho]
theorem F7(f:ag->Bool):∀(l a:List ag),l.foldl (fun s x=>if f x=true then s++[x]else s) a=a++l.filter f
 |[],a=>by simp
 |x::l,a=>by
  rw[List.foldl_cons,F7 f l]
  by_cases h:f x=true<;>simp[h]
theorem P9{α:Type}(f:α->List ag):∀(l:List α) (a:List ag),l.foldl (fun s x=>s++f x) a=a++l.flatMap f
 |[],a=>by simp
 |x::l,a=>by rw[List.foldl_cons,P9 f l,vcp,vba]
theorem Tg{α:Type}(f:Nat->α->List ag):∀(l:List α) (i:Nat) (a:List ag) (x:ag),x∈ru (fun i y s=>s++f i y) l i a↔x∈a\/∃(j:Nat) (h:j<l.length),x∈f (i+j) l[j]
 |[],i,a,x=>by simp[ru]
 | y :: l,i,a,x => by
  rw[ru,Tg f l (i+1),vaE,or_assoc]
  refine or_congr_right ⟨?_,?_⟩
  ·rintro(h|⟨j,hj,h⟩)
   ·exact⟨0,by simp,by simpa using h⟩
   ·exact⟨j+1,by simp;omega,by rw[show i+(j+1)=i+1+j by omega];simpa using h⟩
  ·rintro⟨j,hj,h⟩
   cases j with
   |zero=>exact .inl (by simpa using h)
   |succ j=>exact .inr ⟨j,by simp at hj;omega,by rw[show i+1+j=i+(j+1) by omega];simpa using h⟩
theorem qbz(l out:List ag)(h:out.length+l.length<=1073741824):kU l (l.length:Int) out 0=some (out++l.filter (fun s=>!(s==[118]))):=by
 unfold kU
 rw[ik l (by omega) (fun i s=>(s,i)) _ (fun i s x=>if(!(x==([118]:ag)))=true then(app s ([x]:List ag)).bind fun l8=>some (.inl (l8,aR (i+1)))else some (.inl (s,aR (i+1)))) (fun i s=>s.length<=out.length+i) (fun x s=>if(!(x==[118]))=true then s++[x]else s) id out (by simp) (fun i s=>rfl) (fun i hi s hs=>?_),F7]
 ·rfl
 ·refine⟨?_,by split<;>(try rw[vag,List.length_singleton])<;>omega⟩
  by_cases hx:(!(l[i]==([118]:ag)))=true
  ·rw[vad hx,vad hx,cN (by simp;omega)]
   rfl
  ·rw[vae hx,vae hx]
theorem qbA(b l out:List ag)(hb:b.length<9223372036854775808)(h:out.length+l.length<=1073741824):kV b l (l.length:Int) out 0=some (out++l.filter (fun s=>!decide (s∈b))):=by
 unfold kV
 rw[ik l (by omega) (fun i s=>(s,i)) _ (fun i s x=>(fm b x).bind fun r17=>if(!r17)=true then(app s ([x]:List ag)).bind fun l8=>some (.inl (l8,aR (i+1)))else some (.inl (s,aR (i+1)))) (fun i s=>s.length<=out.length+i) (fun x s=>if(!decide (x∈b))=true then s++[x]else s) id out (by simp) (fun i s=>rfl) (fun i hi s hs=>?_),F7]
 ·rfl
 ·refine⟨?_,by split<;>(try rw[vag,List.length_singleton])<;>omega⟩
  rw[yS b _ hb]
  simp only[vaa]
  by_cases hx:(!decide (l[i]∈b))=true
  ·rw[vad hx,vad hx,cN (by simp;omega)]
   rfl
  ·rw[vae hx,vae hx]
theorem TD{p:aa}{ps:List aa}{x:ag}:(∃q∈[p]++ps,x∈On q)↔x∈On p++T0 ps:=by
 rw[vaE,V0]
 simp
theorem qdc(p:aa)(ps:List aa):nL ([p]++ps)=nP p+nL ps:=by
 rw[AN];simp[nL]
theorem qbB(t:ae)(hw:wT t<=200000000)(hl:cn t<=200000000):CH t=some (freeT t):=by
 refine eP (F:=xW) cn (fun x=>wT x<=200000000/\cn x<=200000000) freeT (fun R x hx ih=>?_) t ⟨hw,hl⟩ (ed (by unfold bq;omega))
 obtain⟨hw,hl⟩:=hx
 show rE (fun t=>R t) x=_
 have h1:=fA x
 have h2:=iL x
 have h3:=AV x
 have hwe:=rX x
 have hn1:=qdc x.Pred x.Preds
 unfold rE
 rw[cN (by simp;omega)]
 simp only[vaa]
 unfold u5
 rw[ik ([x.Pred]++x.Preds) (by simp;omega) (fun i s=>(s,i)) _ (fun i s y=>(sZ y).bind fun r4=>(kU r4 (r4.length:Int) s 0).bind fun o9=>some (.inl (o9,aR (i+1)))) (fun i s=>s.length<=nL (([x.Pred]++x.Preds).take i)) (fun y s=>s++(d7 y).filter (fun s=>!(s==[118]))) id [] (by simp[nL]) (fun i s=>rfl) (fun i hi s hs=>?_),P9]
 ·simp only[id,vaa,vaC]
  have hlen0:∀(l:List aa),(l.flatMap fun y=>(d7 y).filter (fun s=>!(s==[118]))).length<=nL l:=by
   intro l
   induction l with
   |nil=>simp[nL]
   |cons y l ih=>
    have g1:=vaW (fun s=>!(s==[118])) (d7 y)
    have g2:=lE y
    rw[vcp,vag,nL]
    omega
  have hlen:=hlen0 ([x.Pred]++x.Preds)
  have hmem:∀z,z∈(([x.Pred]++x.Preds).flatMap fun y=>(d7 y).filter (fun s=>!(s==[118])))↔z∈(On x.Pred++T0 x.Preds).filter (fun s=>!(s==[118])):=by
   intro z
   rw[vcu,vaR,<-TD]
   simp only[vaR,AI]
   constructor
   ·rintro⟨y,hy,h,h'⟩;exact⟨⟨y,hy,h⟩,h'⟩
   ·rintro⟨⟨y,hy,h⟩,h'⟩;exact⟨y,hy,h,h'⟩
  generalize (([x.Pred]++x.Preds).flatMap fun y=>(d7 y).filter (fun s=>!(s==[118])))=o10 at hlen hmem
  unfold u6
  have hI:∀(i:Nat) (h:i<x.Args.length) (s:List ag),s.length<=o10.length+uA (x.Args.take i)->(s++(freeT x.Args[i]).filter (fun z=>!decide (z∈vV x.Op x.Names i))).length<=o10.length+uA (x.Args.take (i+1)):=fun i h s hs=>by
   have g1:=vaW (fun z=>!decide (z∈vV x.Op x.Names i)) (freeT x.Args[i])
   have g2:=qj x.Args[i]
   have g3:=Fy x.Args i h
   rw[vag];omega
  rw[Qy x.Args (by omega) (fun i s=>(s,i)) _ (fun i s y=>(mT x i).bind fun r13=>(R y).bind fun r14=>(kV r13 r14 (r14.length:Int) s 0).bind fun o20=>some (.inl (o20,aR (i+1)))) (fun i s=>s.length<=o10.length+uA (x.Args.take i)) (fun i y s=>s++(freeT y).filter (fun z=>!decide (z∈vV x.Op x.Names i))) id o10 (by simp[uA]) (fun i s=>rfl) (fun i hi s hs=>⟨?_,hI i hi s hs⟩)]
  ·simp only[id,vaa]
   have hlast:(ru (fun i y s=>s++(freeT y).filter (fun z=>!decide (z∈vV x.Op x.Names i))) x.Args 0 o10).length<=o10.length+uA x.Args:=by
    have key:∀(l:List ae) (i:Nat) (a:List ag),(ru (fun i y s=>s++(freeT y).filter (fun z=>!decide (z∈vV x.Op x.Names i))) l i a).length<=a.length+uA l:=by
     intro l
     induction l with
     |nil=>intro i a;simp[ru]
     |cons y l ih=>
      intro i a
      have g1:=vaW (fun z=>!decide (z∈vV x.Op x.Names i)) (freeT y)
      have g2:=qj y
      have g3:=ih (i+1) (a++(freeT y).filter (fun z=>!decide (z∈vV x.Op x.Names i)))
      rw[ru,uA]
      rw[vag]at g3
      omega
    exact key x.Args 0 o10
   rw[E4 _ _ (by simp;exact vaI hlast (by omega))]
   simp only[vaa]
   congr 1
   refine qdY fun z=>?_
   rw[Tg,qf5,vaE,hmem,VW]
   simp only[vaR,Th,va5,vbp,vaH,or_false]
  ·have hm:=vak hi
   have g2:=qj x.Args[i]
   have g3:=Fy x.Args i hi
   have g4:=FA x.Args (i+1)
   have g5:=gy hm
   have g6:=qcj hm
   rw[qaH x i (by omega)]
   simp only[vaa]
   rw[ih _ g5 ⟨by omega,by omega⟩]
   simp only[vaa]
   have hbl:(vV x.Op x.Names i).length<9223372036854775808:=by
    unfold vV
    split
    ·rw[vaO];omega
    ·simp
   rw[qbA _ _ _ hbl (by omega)]
   rfl
 ·have hm:=vak hi
  have g1:=y4 ([x.Pred]++x.Preds) i hi
  have g2:=pU ([x.Pred]++x.Preds) (i+1)
  have g3:=lE ([x.Pred]++x.Preds)[i]
  have g4:=vaW (fun s=>!(s==[118])) (d7 ([x.Pred]++x.Preds)[i])
  refine⟨?_,by rw[vag];omega⟩
  rw[Xt _ (by omega)]
  simp only[vaa]
  rw[qbz _ _ (by omega)]
  rfl
theorem XP{l:List ag}{v:ag}(hl:l.length<9223372036854775808):∃r,gI l v=some r/\(decide (r<0)= !decide (v∈l))/\(decide (r>=0)=decide (v∈l)):=by
 obtain⟨r,hr,hm⟩:∃r,gI l v=some r/\(r>=0↔v∈l):=⟨_,Q6 l v hl,WT⟩
 refine⟨r,hr,?_,decide_eq_decide.2 hm⟩
 by_cases h:v∈l
 ·have:=hm.2 h
  rw[decide_eq_false (by omega),vbk h];rfl
 ·have:¬(r>=0):=fun e=>h (hm.1 e)
  rw[vbk (by omega),decide_eq_false h];rfl
def vp(ns l:List ag):List ag:=l.filter (fun s=>!decide (s∈ns))
theorem W4{ns l:List ag}{x:ag}:x∈vp ns l↔x∈l/\x∉ns:=by
 unfold vp
 rw[vaR]
 simp
theorem JX(ns l:List ag):(vp ns l).length<=l.length:=vaW ..
theorem Rg(a ns:List ag)(ha:a.length<=1073741824)(hn:ns.length<9223372036854775808):mG a ns=some (vp ns a):=by
 unfold mG xk
 rw[ik a (by omega) (fun i s=>(s,i)) _ (fun i s x=>(gI ns x).bind fun r3=>if(decide (r3<0))=true then(app s ([x]:List ag)).bind fun l5=>some (.inl (l5,aR (i+1)))else some (.inl (s,aR (i+1)))) (fun i s=>s.length<=i) (fun x s=>if(!decide (x∈ns))=true then s++[x]else s) id [] (by simp) (fun i s=>rfl) (fun i hi s hs=>?_),F7]
 ·rfl
 ·refine⟨?_,by split<;>(try rw[vag,List.length_singleton])<;>omega⟩
  obtain⟨r,e1,e2,_⟩:=XP (l:=ns) (v:=a[i]) hn
  rw[e1]
  simp only[vaa,e2]
  by_cases hx:(!decide (a[i]∈ns))=true
  ·rw[vad hx,vad hx,cN (by simp;omega)]
   rfl
  ·rw[vae hx,vae hx]
theorem qcM{α:Type}(f:Nat->α->List ag):∀(l:List α) (i:Nat) (a:List ag),ME a->ME (ru (fun i y s=>kq s (f i y)) l i a)/\∀x,x∈ru (fun i y s=>kq s (f i y)) l i a↔x∈a\/∃(j:Nat) (h:j<l.length),x∈f (i+j) l[j]
 |[],i,a,h=>⟨h,by simp[ru]⟩
 | y :: l,i,a,h => by
  obtain⟨h1,h2⟩:=qcM f l (i+1) (kq a (f i y)) (Fr _ _)
  refine⟨h1,fun x=>?_⟩
  rw[ru,h2,pw,or_assoc]
  refine or_congr_right ⟨?_,?_⟩
  ·rintro(h|⟨j,hj,h⟩)
   ·exact⟨0,by simp,by simpa using h⟩
   ·exact⟨j+1,by simp;omega,by rw[show i+(j+1)=i+1+j by omega];simpa using h⟩
  ·rintro⟨j,hj,h⟩
   cases j with
   |zero=>exact .inl (by simpa using h)
   |succ j=>exact .inr ⟨j,by simp at hj;omega,by rw[show i+1+j=i+(j+1) by omega];simpa using h⟩
theorem qbL(t:ae)(hw:wT t<=100000000)(hl:cn t<=100000000):Pn t=some (freeT t):=by
 refine eP (F:=HL) cn (fun x=>wT x<=100000000/\cn x<=100000000) freeT (fun R x hx ih=>?_) t ⟨hw,hl⟩ (ed (by unfold bq;omega))
 obtain⟨hw,hl⟩:=hx
 show BM (fun t=>R t) x=_
 have h1:=fA x
 have h2:=iL x
 have h3:=AV x
 have hwe:=rX x
 have hn1:=qdc x.Pred x.Preds
 unfold BM
 rw[cN (by simp;omega)]
 simp only[vaa]
 unfold Em
 rw[ik ([x.Pred]++x.Preds) (by simp;omega) (fun i s=>(s,i)) _ (fun i s y=>(tU y).bind fun r4=>(mG r4 ([([118]:ag)]:List ag)).bind fun r5=>(gj s r5).bind fun r6=>some (.inl (r6,aR (i+1)))) (fun i s=>s.length<=nL (([x.Pred]++x.Preds).take i)) (fun y s=>kq s (vp [([118]:ag)] (d7 y))) id [] (by simp[nL]) (fun i s=>rfl) (fun i hi s hs=>?_)]
 ·simp only[id,vaa]
  obtain⟨f1,f2⟩:=yX (fun y=>vp [([118]:ag)] (d7 y)) ([x.Pred]++x.Preds) [] Vf
  have hlen0:∀(l:List aa) (a:List ag),(l.foldl (fun s y=>kq s (vp [([118]:ag)] (d7 y))) a).length<=a.length+nL l:=by
   intro l
   induction l with
   |nil=>intro a;simp
   |cons y l ih=>
    intro a
    have g1:=JX [([118]:ag)] (d7 y)
    have g2:=lE y
    have g3:=ih (kq a (vp [([118]:ag)] (d7 y)))
    have g4:=mY a (vp [([118]:ag)] (d7 y))
    rw[List.foldl_cons,nL]
    omega
  have hlen:=hlen0 ([x.Pred]++x.Preds) []
  simp only[List.length_nil,vaK]at hlen
  have hmem:∀z,z∈(([x.Pred]++x.Preds).foldl (fun s y=>kq s (vp [([118]:ag)] (d7 y))) [])↔z∈(On x.Pred++T0 x.Preds).filter (fun s=>!(s==[118])):=by
   intro z
   rw[f2,vaR,<-TD]
   simp only[vaH,false_or,W4,AI,va3]
   constructor
   ·rintro⟨y,hy,h,h'⟩;exact⟨⟨y,hy,h⟩,by simpa using h'⟩
   ·rintro⟨⟨y,hy,h⟩,h'⟩;exact⟨y,hy,h,by simpa using h'⟩
  generalize (([x.Pred]++x.Preds).foldl (fun s y=>kq s (vp [([118]:ag)] (d7 y))) [])=o10 at hlen hmem f1
  unfold En
  have hI:∀(i:Nat) (h:i<x.Args.length) (s:List ag),s.length<=o10.length+uA (x.Args.take i)->(kq s (vp (vV x.Op x.Names i) (freeT x.Args[i]))).length<=o10.length+uA (x.Args.take (i+1)):=fun i h s hs=>by
   have g1:=JX (vV x.Op x.Names i) (freeT x.Args[i])
   have g2:=qj x.Args[i]
   have g3:=Fy x.Args i h
   have g4:=mY s (vp (vV x.Op x.Names i) (freeT x.Args[i]))
   omega
  rw[Qy x.Args (by omega) (fun i s=>(s,i)) _ (fun i s y=>(N2 x.Names none (some (if(x.Names.length:Int)<i then(x.Names.length:Int)else i))).bind fun l10=>(tW x l10).bind fun o12=>(R y).bind fun r13=>(mG r13 o12).bind fun r14=>(gj s r14).bind fun r15=>some (.inl (r15,aR (i+1)))) (fun i s=>s.length<=o10.length+uA (x.Args.take i)) (fun i y s=>kq s (vp (vV x.Op x.Names i) (freeT y))) id o10 (by simp[uA]) (fun i s=>rfl) (fun i hi s hs=>⟨?_,hI i hi s hs⟩)]
  ·simp only[id,vaa]
   obtain⟨g1,g2⟩:=qcM (fun i y=>vp (vV x.Op x.Names i) (freeT y)) x.Args 0 o10 f1
   congr 1
   refine qam g1 fun z=>?_
   rw[g2,qf5,vaE,hmem,VW]
   simp only[W4,Th,vaH,or_false]
  ·have hm:=vak hi
   have g2:=qj x.Args[i]
   have g3:=Fy x.Args i hi
   have g4:=FA x.Args (i+1)
   have g5:=gy hm
   have g6:=qcj hm
   have g7:=JX (vV x.Op x.Names i) (freeT x.Args[i])
   rw[qan _ i (by omega)]
   simp only[vaa]
   rw[show tW x (x.Names.take i)=some (vV x.Op x.Names i) by
    unfold tW vV
    by_cases ho:x.Op=6<;>simp[ho]]
   simp only[vaa]
   rw[ih _ g5 ⟨by omega,by omega⟩]
   simp only[vaa]
   have hbl:(vV x.Op x.Names i).length<9223372036854775808:=by
    unfold vV
    split
    ·rw[vaO];omega
    ·simp
   rw[Rg _ _ (by omega) hbl]
   simp only[vaa]
   rw[ke _ _ (by omega) (by omega)]
   rfl
 ·have hm:=vak hi
  have g1:=y4 ([x.Pred]++x.Preds) i hi
  have g2:=pU ([x.Pred]++x.Preds) (i+1)
  have g3:=lE ([x.Pred]++x.Preds)[i]
  have g4:=JX [([118]:ag)] (d7 ([x.Pred]++x.Preds)[i])
  have g5:=mY s (vp [([118]:ag)] (d7 ([x.Pred]++x.Preds)[i]))
  refine⟨?_,by omega⟩
  rw[Q7 _ (by omega)]
  simp only[vaa]
  rw[Rg _ _ (by omega) (by simp)]
  simp only[vaa]
  rw[ke _ _ (by omega) (by omega)]
  rfl
theorem J5{σ τ X:Type}(n:Nat)(hn:n<9223372036854775808)(mk:Int->σ->τ)(body:τ->Option (τ⊕X))(F:Nat->σ)(y:X)
  (hin:∀i,i<n->body (mk (i:Int) (F i))=some (.inl (mk (aR ((i:Int)+1)) (F (i+1))))) (hend:body (mk (n:Int) (F n))=some (.inr y)):loop body (mk 0 (F 0))=some y:=by
 have key:∀k i,k+i=n->loop body (mk (i:Int) (F i))=some y:=by
  intro k
  induction k with
  |zero=>
   intro i hi
   have:i=n:=by omega
   subst this
   exact jV hend
  |succ k ih=>
   intro i hi
   rw[ql (hin i (by omega)),dB (by omega) (by omega),show((i:Int)+1)=((i+1:Nat):Int) by omega]
   exact ih (i+1) (by omega)
 exact key n 0 (by omega)
abbrev Sb:Type:=List (ag×aa)
abbrev kN(c:Sb):List ag:=c.map (·.1)
abbrev kB(c:Sb):List aa:=c.map (·.2)
def lN(x:ag):aa:=⟨3,x,0,[]⟩
def cY(x:ag)(c:Sb):Sb:=c.filter (fun e=>!(e.1==x))
def xC(x:ag)(c:Sb):Bool:=c.any (fun e=>decide (x∈On e.2))
abbrev S3:Type:=List ag×Sb×List ag
def CW(o:Int)(ns:List ag)(i:Nat)(s:S3):S3:=
 if o=6/\i<ns.length then
  if xC (ns.getD i []) (cY (ns.getD i []) s.2.1)=true then
   (s.1++[eQ s.1 (ns.getD i [])],cY (ns.getD i []) s.2.1++[(ns.getD i [],lN (eQ s.1 (ns.getD i [])))],s.2.2.set i (eQ s.1 (ns.getD i [])))
  else(s.1,cY (ns.getD i []) s.2.1,s.2.2)
 else s
mutual
def AC:ae->Sb->ae
 |⟨o,n,xs,ns,p,ps⟩,c=>
  ⟨o,n,(NL o ns 0 xs (((kB c).flatMap d7++freeT ⟨o,n,xs,ns,p,ps⟩)++ns,c,ns)).1,(NL o ns 0 xs (((kB c).flatMap d7++freeT ⟨o,n,xs,ns,p,ps⟩)++ns,c,ns)).2,GM (ph (kN c) (kB c)) p,ps.map (GM (ph (kN c) (kB c)))⟩
def NL(o:Int)(ns:List ag):Nat->List ae->S3->List ae×List ag
 |_,[],s=>([],s.2.2)
 |i,a::xs,s=>(AC a s.2.1::(NL o ns (i+1) xs (CW o ns i s)).1,(NL o ns (i+1) xs (CW o ns i s)).2)
end
def jw(o:Int)(ns:List ag)(s:S3):Nat->S3
 |0=>s
 |i+1=>CW o ns i (jw o ns s i)
def bM(t:ae)(c:Sb):S3:=(((kB c).flatMap d7++freeT t)++t.Names,c,t.Names)
theorem qcr(o:Int)(ns:List ag)(s:S3):∀(xs:List ae) (i:Nat),NL o ns i xs (jw o ns s i)=((xs.zipIdx i).map (fun y=>AC y.1 (jw o ns s y.2).2.1),(jw o ns s (i+xs.length)).2.2)
 |[],i=>by rw[NL];rfl
 |a::xs,i=>by
  have ih:=qcr o ns s xs (i+1)
  rw[NL,show CW o ns i (jw o ns s i)=jw o ns s (i+1)from rfl,ih,List.zipIdx_cons,vay,vaP,show i+1+xs.length=i+(xs.length+1) by omega]
theorem UP(t:ae)(c:Sb):AC t c=⟨t.Op,t.Name,(t.Args.zipIdx).map (fun y=>AC y.1 (jw t.Op t.Names (bM t c) y.2).2.1),(jw t.Op t.Names (bM t c) t.Args.length).2.2,GM (ph (kN c) (kB c)) t.Pred,t.Preds.map (GM (ph (kN c) (kB c)))⟩:=by
 obtain⟨o,n,xs,ns,p,ps⟩:=t
 have h:=qcr o ns (bM ⟨o,n,xs,ns,p,ps⟩ c) xs 0
 rw[show jw o ns (bM ⟨o,n,xs,ns,p,ps⟩ c) 0=(((kB c).flatMap d7++freeT ⟨o,n,xs,ns,p,ps⟩)++ns,c,ns)from rfl,vaK]at h
 rw[AC,h]
 rfl
def Yu(t:ae)(c:Sb)(i:Nat):List ae:=((t.Args.take i).zipIdx).map (fun y=>AC y.1 (jw t.Op t.Names (bM t c) y.2).2.1)
theorem WK(t:ae)(c:Sb)(i:Nat)(h:i<t.Args.length):Yu t c (i+1)=Yu t c i++[AC t.Args[i] (jw t.Op t.Names (bM t c) i).2.1]:=by
 unfold Yu
 rw[vaM h,List.zipIdx_append,vbH,vaO]
 rw[show min i t.Args.length=i by omega]
 simp[List.zipIdx_cons]
theorem ZA(t:ae)(c:Sb)(i:Nat)(h:i<=t.Args.length):(Yu t c i).length=i:=by
 unfold Yu
 rw[vaF,List.length_zipIdx,vaO]
 omega
theorem Zz(t:ae)(c:Sb):Yu t c t.Args.length=(t.Args.zipIdx).map (fun y=>AC y.1 (jw t.Op t.Names (bM t c) y.2).2.1):=by
 unfold Yu
 rw[vbr (vah _)]
theorem Vi(x:ag):∀(c:Sb),kN (cY x c)=(kN c).filter (fun n=>!(n==x))
 |[]=>rfl
 | e :: c => by
  have ih:=Vi x c
  unfold cY kN at ih ⊢
  rw[vbd,vay,vbd]
  split
  ·rw[vay,ih]
  ·exact ih
theorem qcF(x:ag)(c:Sb):x∉kN (cY x c):=by rw[Vi];simp
theorem Ib{x:ag}{c:Sb}(h:(kN c).Nodup):(kN (cY x c)).Nodup:=by rw[Vi];exact h.filter _
theorem YG(x:ag)(c:Sb):cY x (cY x c)=cY x c:=by
 unfold cY
 rw[vcc]
 congr 1
 funext e
 cases(e.1==x)<;>rfl
theorem Ok(x:ag):∀(c:Sb),nL (kB (cY x c))<=nL (kB c)
 |[]=>by simp[cY,kB]
 | e :: c => by
  have ih:=Ok x c
  unfold cY kB at ih ⊢
  rw[vbd]
  split
  ·rw[vay,vay,nL,nL];omega
  ·rw[vay,nL];omega
theorem Qi(c:Sb):c.length<=nL (kB c):=by
 have:=Cx (kB c)
 rwa[vaF]at this
theorem E3(x:ag):nP (lN x)=1:=by simp[lN,nP,nL]
theorem qe0(c:Sb)(e:ag×aa):nL (kB (c++[e]))=nL (kB c)+nP e.2:=by
 unfold kB
 rw[vbH,AN];simp[nL]
theorem F0(o:Int)(ns:List ag)(s:S3)(h:(kN s.2.1).Nodup):∀i,(kN (jw o ns s i).2.1).Nodup
 |0=>h
 | i + 1 => by
  have ih:=F0 o ns s h i
  show(kN (CW o ns i (jw o ns s i)).2.1).Nodup
  unfold CW
  split
  ·split
   ·unfold kN
    rw[vbH]
    simp only[vay,vbW]
    rw[List.nodup_append]
    refine⟨Ib ih,by simp,fun a ha b hb=>?_⟩
    rw[va3]at hb
    subst hb
    exact fun e=>qcF _ _ (e▸ha)
   ·exact Ib ih
  ·exact ih
theorem ZB(o:Int)(ns:List ag)(s:S3):∀i,nL (kB (jw o ns s i).2.1)<=nL (kB s.2.1)+min i ns.length
 |0=>by simp[jw]
 | i + 1 => by
  have ih:=ZB o ns s i
  show nL (kB (CW o ns i (jw o ns s i)).2.1)<=_
  have hd:=Ok (ns.getD i []) (jw o ns s i).2.1
  unfold CW
  split
  ·rename_i hc
   split
   ·show nL (kB (cY (ns.getD i []) (jw o ns s i).2.1++[(ns.getD i [],lN (eQ (jw o ns s i).1 (ns.getD i [])))]))<=_
    rw[qe0,E3]
    omega
   ·show nL (kB (cY (ns.getD i []) (jw o ns s i).2.1))<=_
    omega
  ·omega
theorem ZC(o:Int)(ns:List ag)(s:S3):∀i,(jw o ns s i).1.length<=s.1.length+i
 |0=>by simp[jw]
 | i + 1 => by
  have ih:=ZC o ns s i
  show(CW o ns i (jw o ns s i)).1.length<=_
  unfold CW
  split
  ·split
   ·simp only[vag,List.length_singleton];omega
   ·simp only;omega
  ·omega
theorem WL(o:Int)(ns:List ag)(s:S3):∀i,(jw o ns s i).2.2.length=s.2.2.length
 |0=>rfl
 | i + 1 => by
  have ih:=WL o ns s i
  show(CW o ns i (jw o ns s i)).2.2.length=_
  unfold CW
  split
  ·split
   ·simp only[vbq];exact ih
   ·exact ih
  ·exact ih
theorem F6:∀(l:List aa),(l.flatMap d7).length<=nL l
 |[]=>by simp[nL]
 |p::l=>by
  have:=F6 l
  have:=lE p
  rw[vcp,vag,nL];omega
theorem VQ(t:ae)(c:Sb):(bM t c).1.length<=nL (kB c)+wT t+cn t:=by
 have h1:=F6 (kB c)
 have h2:=qj t
 have h3:=iL t
 unfold bM
 simp only[vag]
 omega
theorem YA(x:ag)(c:Sb):decide (x∈(kB c).flatMap d7)=xC x c:=by
 unfold xC
 rw[vb6,vao,vbx,vcu]
 simp only[AI,vao,kB,vaq]
 constructor
 ·rintro⟨p,⟨e,he,rfl⟩,h⟩;exact⟨e,he,h⟩
 ·rintro⟨e,he,h⟩;exact⟨e.2,⟨e,he,rfl⟩,h⟩
theorem LD{α:Type}(n:Nat)(l:List α)(i:Nat)(h:i<n)(h2:i<l.length):X6 n l (i:Int)=some l[i]:=by
 unfold X6
 rw[vad ⟨by omega,by omega⟩]
 simp[h2]
theorem VV{α:Type}(l:List α)(i:Nat)(x:α)(h:i<l.length):qft l (i:Int) x=some (l.set i x):=by
 unfold qft
 rw[vad ⟨by omega,by omega⟩]
 rfl
theorem LC{α:Type}(n:Nat)(l:List α)(h:n=l.length):qcO n l=some l:=vad h
theorem Cn(ns:List ag)(i:Nat)(h:i<ns.length):ns.getD i []=ns[i]:=by simp[h]
theorem Tc:∀(k u:Nat),u<10 ^ (k+1)->(Lib.decDigits u).length<=k+1
 |0,u,h=>by
  rw[Lib.decDigits,dif_pos (by omega)];simp
 | k + 1,u,h => by
  rw[Lib.decDigits]
  by_cases h10:u<10
  ·rw[dif_pos h10];simp
  ·rw[dif_neg h10]
   have:=Tc k (u / 10) (by
    have:10 ^ (k+1+1)=10 ^ (k+1) * 10:=Nat.pow_succ ..
    omega)
   simp only[vag,List.length_singleton]
   omega
theorem P5(used:List ag)(base:ag):∀(k n:Nat),n+k<=100000002->(mO used base k n).length<=base.length+10
 |0,n,_=>by rw[mO];simp
 | k + 1,n,h => by
  rw[mO]
  split
  ·exact P5 used base k (n+1) (by omega)
  ·rw[vag]
   have:=Tc 8 n (by omega)
   omega
theorem YL(used:List ag)(base:ag):(eQ used base).length<=base.length+10:=by
 unfold eQ
 split
 ·exact P5 used base 100000001 1 (by omega)
 ·omega
mutual
def yh(L:Nat):ae->Prop
 |⟨_,_,xs,ns,_,_⟩=>(∀s∈ns,s.length<=L)/\vj L xs
def vj(L:Nat):List ae->Prop
 |[]=>True
 |a::xs=>yh L a/\vj L xs
end
theorem Aw(L:Nat)(t:ae):yh L t↔(∀s∈t.Names,s.length<=L)/\vj L t.Args:=by obtain⟨o,n,xs,ns,p,ps⟩:=t;rw[yh];rfl
theorem FV(L:Nat):∀(l:List ae),vj L l↔∀t∈l,yh L t
 |[]=>by simp[vj]
 |a::l=>by rw[vj,FV L l];simp
theorem qcd{L:Nat}{t a:ae}(h:yh L t)(ha:a∈t.Args):yh L a:=(FV L _).1 ((Aw L t).1 h).2 a ha
mutual
theorem FW{L M:Nat}(h:L<=M):∀(t:ae),yh L t->yh M t
 |⟨_,_,xs,ns,_,_⟩,ht=>by
  rw[yh]at ht ⊢
  exact⟨fun s hs=>vaI (ht.1 s hs) h,PC h xs ht.2⟩
theorem PC{L M:Nat}(h:L<=M):∀(l:List ae),vj L l->vj M l
 |[],_=>trivial
 |a::xs,hl=>by
  rw[vj]at hl ⊢
  exact⟨FW h a hl.1,PC h xs hl.2⟩
end
theorem qfo{ns:List ag}{s:ag}(h:s∈ns):s.length<=bZ (ns.map cS):=by
 have h2:=xQ (vaq.2 ⟨s,h,rfl⟩:cS s∈ns.map cS)
 simp only[cS,gf,pm]at h2
 omega
mutual
theorem Jv(B:Nat):∀(t:ae),gf (af t)<=B->yh B t
 |⟨o,n,xs,ns,p,ps⟩,h=>by
  rw[AS]at h
  have h:1+(pm (.str n)+(pm (sl af xs)+(pm (sl cS ns)+(1+(pm (.str p.Name)+(1+(pm (sl ac p.Kids)+(pm (sl ac ps)+0))))))))<=B:=h
  simp only[pm,sl]at h
  rw[yh]
  exact⟨fun s hs=>by have:=qfo hs;omega,WC B xs (by omega)⟩
theorem WC(B:Nat):∀(l:List ae),bZ (l.map af)<=B->vj B l
 |[],_=>trivial
 |a::xs,h=>by
  simp only[vay,bZ]at h
  rw[vj]
  exact⟨Jv B a (by omega),WC B xs (by omega)⟩
end
end Go.Proofs.YtbaamopmfmpfaaaGreatDoor
