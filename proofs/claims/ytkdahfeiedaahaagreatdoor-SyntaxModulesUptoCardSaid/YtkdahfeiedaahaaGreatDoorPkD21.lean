/- PROVED: a part of the proof. Conditions: none. -/
import Derived.Test.YtkdahfeiedaahaaGreatDoorPkD20
import Derived.Lib.SlicesCompact
import Derived.Test.YtkdahfeiedaahaaGreatDoorPkD10
import Derived.Test.YtkdahfeiedaahaaGreatDoorPkD19
noncomputable section
namespace Go.Proofs.YtkdahfeiedaahaaGreatDoor
open Go
set_option linter.unusedSimpArgs false
set_option linter.unusedVariables false
abbrev Q9(l:List ae):Prop:=l.Pairwise Rk
theorem Av:∀{a b:List ae},Q9 a->Q9 b->(∀x,x∈a↔x∈b)->a=b
 |[],[],_,_,_=>rfl
 |[],y::b,_,_,h=>by have:=(h y).2 (by simp);simp at this
 |x::a,[],_,_,h=>by have:=(h x).1 (by simp);simp at this
 | x :: a,y :: b,ha,hb,h => by
  unfold Q9 at ha hb
  rw[va7]at ha hb
  have hxy:x=y:=by
   have h1:=(h x).1 (by simp)
   have h2:=(h y).2 (by simp)
   rw[vay]at h1 h2
   rcases h1 with h1|h1
   ·exact h1
   ·rcases h2 with h2|h2
    ·exact h2.symm
    ·have:=tG (hb.1 x h1) (ha.1 y h2)
     unfold Rk at this
     rw[vO]at this
     cases this
  subst hxy
  congr 1
  refine Av ha.2 hb.2 fun z=>?_
  constructor
  ·intro hz
   have:=(h z).1 (by simp[hz])
   rw[vay]at this
   rcases this with rfl|this
   ·have:=ha.1 _ hz;unfold Rk at this;rw[vO]at this;cases this
   ·exact this
  ·intro hz
   have:=(h z).2 (by simp[hz])
   rw[vay]at this
   rcases this with rfl|this
   ·have:=hb.1 _ hz;unfold Rk at this;rw[vO]at this;cases this
   ·exact this
theorem Eh(d:List ae)(hs:d.Pairwise fun x y=>Op.bytesLess y x=false):∀m,m<=d.length->Q9 (Lib.compactUpTo d.toArray m)/\∀x,x∈Lib.compactUpTo d.toArray m↔∃(j:Nat) (h:j<d.length),j<m/\d[j]=x
 |0,_=>by
  refine⟨by simp[Lib.compactUpTo,Q9],fun x=>?_⟩
  simp[Lib.compactUpTo]
 | m + 1,hm => by
  obtain⟨h1,h2⟩:=Eh d hs m (by omega)
  have hg:∀j (h:j<d.length),d.toArray[j]! =d[j]:=fun j h=>by simp[h]
  rw[Lib.compactUpTo_succ]
  by_cases hk:Lib.keeps d.toArray m=true
  ·rw [vax hk,hg m (by omega)]
   refine⟨?_,fun x=>?_⟩
   ·unfold Q9
    rw[List.pairwise_append]
    refine⟨h1,by simp,fun x hx y hy=>?_⟩
    simp at hy
    subst hy
    obtain⟨j,hj,hjm,rfl⟩:=(h2 x).1 hx
    have hne:d[m - 1]≠d[m]:=by
     unfold Lib.keeps at hk
     simp only[vai]at hk
     rcases hk with hk|hk
     ·omega
     ·rw[hg m (by omega),hg (m - 1) (by omega)]at hk
      exact fun e=>hk e.symm
    have hlt:Op.bytesLess d[m - 1] d[m]=true:=by
     have k1:=(vcd.1 hs) (m - 1) m (by omega) (by omega) (by omega)
     cases h:Op.bytesLess d[m - 1] d[m]with
     |true=>rfl
     |false=>exact absurd (tF h k1) hne
    by_cases hj2:j=m - 1
    ·subst hj2;exact hlt
    ·have k2:=(vcd.1 hs) j (m - 1) (by omega) (by omega) (by omega)
     cases h:Op.bytesLess d[j] d[m - 1]with
     |true=>exact tG h hlt
     |false=>
      have:=tF h k2
      rw[this];exact hlt
   ·rw[vaw,h2]
    constructor
    ·rintro(⟨j,hj,hjm,rfl⟩|hx)
     ·exact⟨j,hj,by omega,rfl⟩
     ·simp at hx;exact⟨m,by omega,by omega,hx.symm⟩
    ·rintro⟨j,hj,hjm,rfl⟩
     by_cases e:j=m
     ·subst e;exact .inr (by simp)
     ·exact .inl ⟨j,hj,by omega,rfl⟩
  ·rw [vaz hk,va9]
   refine⟨h1,fun x=>?_⟩
   rw[h2]
   constructor
   ·rintro⟨j,hj,hjm,rfl⟩;exact⟨j,hj,by omega,rfl⟩
   ·rintro⟨j,hj,hjm,rfl⟩
    by_cases e:j=m
    ·subst e
     have:j≠0/\d.toArray[j]! =d.toArray[j - 1]! :=by
      unfold Lib.keeps at hk
      simp only[vai,not_or,ne_eq,Decidable.not_not]at hk
      exact hk
     rw[hg j hj,hg (j - 1) (by omega)]at this
     exact⟨j - 1,by omega,by omega,this.2.symm⟩
    ·exact⟨j,hj,by omega,rfl⟩
def VD(a b:List ae):List ae:=Lib.compact (uN (a++b))
theorem Mf(a b:List ae):Q9 (VD a b)/\∀x,x∈VD a b↔x∈a\/x∈b:=by
 obtain⟨h1,h2⟩:=Eh (uN (a++b)) (G4 _) _ (vam _)
 refine⟨h1,fun x=>?_⟩
 rw[show VD a b=Lib.compactUpTo (uN (a++b)).toArray (uN (a++b)).length from rfl,h2,<-vaw,<-T7,vcx]
 constructor
 ·rintro⟨j,h,_,e⟩;exact⟨j,h,e⟩
 ·rintro⟨j,h,e⟩;exact⟨j,h,h,e⟩
def Lx(s:ae):List ae->List ae
 |[]=>[s]
 |x::r=>if Op.bytesLess x s=true then x::Lx s r else if(x==s)=true then s::r else s::x::r
def kk(s:ae):List ae->Nat
 |[]=>0
 |x::r=>if Op.bytesLess x s=true then kk s r+1 else 0
theorem W9(s:ae):∀l,kk s l<=l.length
 |[]=>vam _
 |x::r=>by have:=W9 s r;unfold kk;split<;>simp<;>omega
theorem UU(s:ae):∀l,Lx s l=l.take (kk s l)++s::l.drop (kk s l+if(l[kk s l]? ==some s)=true then 1 else 0)
 |[]=>by simp[Lx,kk]
 | x :: r => by
  have ih:=UU s r
  unfold Lx kk
  by_cases h:Op.bytesLess x s=true
  ·rw[vax h,vax h,ih]
   simp only[List.take_succ_cons,List.getElem?_cons_succ,vaF]
   rw[show kk s r+1+(if(r[kk s r]? ==some s)=true then 1 else 0)=(kk s r+if(r[kk s r]? ==some s)=true then 1 else 0)+1 by omega,List.drop_succ_cons]
  ·rw[vaz h,vaz h]
   by_cases hx:(x==s)=true
   ·have:x=s:=by simpa using hx
    simp[this]
   ·have:¬x=s:=by simpa using hx
    simp[this]
theorem Ks(s:ae):∀l,(Lx s l).length<=l.length+1
 |[]=>by simp[Lx]
 | x :: r => by
  have:=Ks s r
  unfold Lx
  split
  ·simp;omega
  ·split<;>simp
theorem O1(s:ae):∀l x,x∈Lx s l↔x=s\/x∈l
 |[],x=>by simp[Lx]
 | y :: r,x => by
  have:=O1 s r x
  unfold Lx
  by_cases h:Op.bytesLess y s=true
  ·rw[vax h,vay,this,vay]
   constructor
   ·rintro(h|h|h)<;>simp[h]
   ·rintro(h|h|h)<;>simp[h]
  ·rw[vaz h]
   by_cases hy:(y==s)=true
   ·have e:y=s:=by simpa using hy
    rw[vax hy,e]
    simp
   ·rw[vaz hy]
    simp
theorem Sx(s:ae):∀{l},Q9 l->Q9 (Lx s l)
 |[],_=>by simp[Lx,Q9]
 | x :: r,h => by
  unfold Q9 at h ⊢
  rw[va7]at h
  unfold Lx
  by_cases hx:Op.bytesLess x s=true
  ·rw[vax hx,va7]
   refine⟨fun y hy=>?_,Sx s h.2⟩
   rw[O1]at hy
   rcases hy with rfl|hy
   ·exact hx
   ·exact h.1 y hy
  ·rw [vaz hx]
   by_cases he:(x==s)=true
   ·have e:x=s:=by simpa using he
    subst e
    rw[vax he,va7]
    exact h
   ·have hsx:Rk s x:=by
     cases hc:Op.bytesLess s x with
     |true=>exact hc
     |false=>
      have:=tF (by simpa using hx) hc
      simp[this]at he
    rw[vaz he,va7,va7]
    refine⟨fun y hy=>?_,h⟩
    rw[vay]at hy
    rcases hy with rfl|hy
    ·exact hsx
    ·exact tG hsx (h.1 y hy)
theorem SM(s:ae):∀(l:List ae) (i:Nat) (out:List ae),BC (fun i x (out:List ae)=>if Op.bytesLess x s=true then(Sum.inl (out++[x]):List ae⊕(List ae×Nat))else .inr (out,i)) (fun out=>(out,i+l.length)) l i out=(out++l.take (kk s l),i+kk s l)
 |[],i,out=>by simp[BC,kk]
 | x :: l,i,out => by
  have ih:=SM s l (i+1) (out++[x])
  unfold BC kk
  by_cases h:Op.bytesLess x s=true
  ·simp only[h,if_true]
   rw[show i+(x::l).length=i+1+l.length by simp;omega,ih]
   simp
   omega
  ·simp[h]
theorem N2{α σ X Y:Type}(g:X->Y)(f:Nat->α->σ->σ⊕X)(e:σ->X):∀(l:List α) (i:Nat) (s:σ),BC (fun i x s=>Sum.map id g (f i x s)) (fun s=>g (e s)) l i s=g (BC f e l i s)
 |[],i,s=>rfl
 |x::l,i,s=>by
  unfold BC
  cases f i x s with
  |inl s'=>exact N2 g f e l (i+1) s'
  |inr y=>rfl
def Vb{σ:Type}(y:σ×Nat):σ×Int:=(y.1,(y.2:Int))
theorem KF(a:List ae)(s:ae)(ha:a.length<=1000000000):FX a s=some (Lx s a):=by
 unfold FX ES
 have:=zb a (by omega) (fun i (out:List ae)=>(out,i)) (fun zz=>qi a s zz.1 zz.2) (fun i out=>out.length=i)
  (fun i x out=>Sum.map id Vb (if Op.bytesLess x s=true then(Sum.inl (out++[x]):List ae⊕(List ae×Nat))else .inr (out,i))) (fun out=>Vb (out,0+a.length)) (fun i hi out hI=>by
   have hb:sj a s i=some (Op.bytesLess a[i] s):=by
    simp only[sj]
    rw[vax (by simp;omega),cE _ i hi]
    rfl
   refine⟨?_,fun s' hs'=>?_⟩
   ·simp only[qi]
    rw[hb]
    simp only[vab]
    by_cases hl:Op.bytesLess a[i] s=true
    ·rw[vax hl,vax hl,cE _ i hi]
     simp only[vab]
     rw[iJ (by simp;omega)]
     rfl
    ·rw[vaz hl,vaz hl]
     rfl
   ·by_cases hl:Op.bytesLess a[i] s=true
    ·rw[vax hl]at hs';cases hs';simp;omega
    ·rw[vaz hl]at hs';cases hs') (fun out _=>by
   have hb:sj a s a.length=some false:=by
    simp only[sj]
    rw[vaz (by simp)]
   simp only[qi]
   rw[hb]
   simp[Vb]) 0 [] (va1 _) rfl
 simp only[Int.ofNat_zero,vbF]at this
 have hm:=N2 Vb (fun i x (out:List ae)=>if Op.bytesLess x s=true then(Sum.inl (out++[x]):List ae⊕(List ae×Nat))else .inr (out,i)) (fun out=>(out,0+a.length)) a 0 []
 rw[this.trans (va6 some hm),SM s a 0 []]
 simp only[vaL,vaI,vab,Vb]
 have hk:=W9 s a
 rw[iJ (by simp;omega)]
 simp only[vab]
 have hj:zR a s (kk s a)=some ((kk s a+if(a[kk s a]? ==some s)=true then 1 else 0:Nat):Int):=by
  unfold zR ER
  by_cases hlt:kk s a<a.length
  ·rw[vax (by simp;omega),cE _ _ hlt]
   simp only[vab,vaa hlt]
   have e:(some a[kk s a]==some s)=(a[kk s a]==s):=rfl
   rw[e]
   by_cases h:(a[kk s a]==s)=true
   ·rw[vax h,vax h,cH (by omega) (by omega)]
    rfl
   ·rw[vaz h,vaz h]
    rfl
  ·have hn:a[kk s a]? =none:=by simp;omega
   rw[vaz (by simp;omega),hn]
   rfl
 rw[hj]
 simp only[vab]
 have hle:kk s a+(if(a[kk s a]? ==some s)=true then 1 else 0)<=a.length:=by
  by_cases hlt:kk s a<a.length
  ·split<;>omega
  ·have hn:a[kk s a]? =none:=by simp;omega
   rw[hn]
   simp
   omega
 rw[VF a _ hle]
 simp only[vab]
 rw[iJ (by simp;omega),UU]
 simp
theorem Fs{α σ:Type}(g:σ->α->σ):∀(l:List α) (i:Nat) (s:σ),BC (fun _ x s=>(Sum.inl (g s x):σ⊕σ)) (fun s=>s) l i s=l.foldl g s
 |[],i,s=>rfl
 |x::l,i,s=>Fs g l (i+1) (g s x)
theorem E9:∀(l out:List ae),Q9 out->Q9 (l.foldl (fun o x=>Lx x o) out)/\(∀x,x∈l.foldl (fun o x=>Lx x o) out↔x∈out\/x∈l)/\(l.foldl (fun o x=>Lx x o) out).length<=out.length+l.length
 |[],out,h=>⟨h,by simp,by simp⟩
 | y :: l,out,h => by
  obtain⟨h1,h2,h3⟩:=E9 l (Lx y out) (Sx y h)
  have:=Ks y out
  refine⟨h1,fun x=>?_,by simp only[List.foldl_cons,vaO];omega⟩
  rw[List.foldl_cons,h2,O1,vay]
  constructor
  ·rintro((h|h)|h)<;>simp[h]
  ·rintro(h|h|h)<;>simp[h]
theorem N9(a b:List ae)(ha:a.length<=400000000)(hb:b.length<=400000000):Db a b=some (VD a b):=by
 unfold Db zO zP
 have t1:=zb a (by omega) (fun i (out:List ae)=>(out,i)) (fun zz=>mV a a.length zz.1 zz.2) (fun i out=>out.length<=i) (fun _ x out=>(Sum.inl (Lx x out):List ae⊕List ae)) (fun o=>o) (fun i hi out hI=>by
   refine⟨?_,fun s' hs'=>?_⟩
   ·simp only[mV]
    rw[vax (by simp;omega),cE _ i hi]
    simp only[vab]
    rw[KF _ _ (by omega)]
    rfl
   ·cases hs'
    have:=Ks a[i] out
    omega) (fun out _=>by simp only[mV];rw[vaz (by simp)]) 0 [] (va1 _) (vam _)
 simp only[Int.ofNat_zero,vbF]at t1
 rw[Fs (fun o x=>Lx x o)]at t1
 obtain⟨f1,f2,f3⟩:=E9 a [] (by simp[Q9])
 have t2:=zb b (by omega) (fun i (out:List ae)=>(out,i)) (fun zz=>mW b b.length zz.1 zz.2) (fun i out=>out.length<=400000000+i) (fun _ x out=>(Sum.inl (Lx x out):List ae⊕List ae)) (fun o=>o) (fun i hi out hI=>by
   refine⟨?_,fun s' hs'=>?_⟩
   ·simp only[mW]
    rw[vax (by simp;omega),cE _ i hi]
    simp only[vab]
    rw[KF _ _ (by omega)]
    rfl
   ·cases hs'
    have:=Ks b[i] out
    omega) (fun out _=>by simp only[mW];rw[vaz (by simp)]) 0 (a.foldl (fun o x=>Lx x o) []) (va1 _) (by simp at f3;omega)
 simp only[Int.ofNat_zero,vbF]at t2
 rw[Fs (fun o x=>Lx x o)]at t2
 rw[t1]
 simp only[vab]
 rw[t2]
 simp only[vab,vat]
 obtain⟨g1,g2,_⟩:=E9 b _ f1
 obtain⟨u1,u2⟩:=Mf a b
 refine Av g1 u1 fun x=>?_
 rw[g2,f2,u2]
 simp
def qw(m:List (ae×Bool))(l:List ae):List (ae×Bool):=l.foldl (fun m x=>tN m x true) m
theorem IU(m:List (ae×Bool))(a b:List ae):qw m (a++b)=qw (qw m a) b:=by unfold qw;rw[vbS]
theorem Mg(l:List ae)(m:List (ae×Bool))(hl:l.length<9223372036854775808):fH l m=some (qw m l):=by
 unfold fH
 have h:=lm l.length (fun zz:Int×(List (ae×Bool))=>eR l (l.length:Int) zz.1 zz.2) (fun i=>((i:Int),qw m (l.take i))) (qw m l) (fun i hi=>?_) ?_
 ·have h':mM l (l.length:Int) 0 m=some (qw m l):=by unfold mM;simpa[qw]using h
  rw[h'];rfl
 ·show eR l (l.length:Int) (i:Int) _=_
  unfold eR
  rw[vax (by simpa using hi),cE _ _ hi,vab,cH (by omega) (by omega),vaq hi,IU]
  rfl
 ·show eR l (l.length:Int) (l.length:Int) _=_
  unfold eR
  rw[vaz (by simp),vaP]
theorem TB:mj ([]:List ae)=some []:=by
 unfold mj
 rw[Mg _ _ (by simp)];rfl
def qD(m:List (ae×Bool)):List ae:=m.map (·.1)
theorem Qk(k:ae):∀(m:List (ae×Bool)),qD (tN m k true)=if k∈qD m then qD m else qD m++[k]
 |[]=>by simp[tN,qD]
 | e :: r => by
  have ih:=Qk k r
  unfold qD at *
  rw[tN]
  by_cases h:(k==e.1)=true
  ·have h':k=e.1:=by simpa using h
   rw[vax h,vaD,vaD,vax (by rw[h'];simp),h']
  ·have h':¬k=e.1:=by simpa using h
   rw[vaz h,vaD,vaD,ih]
   by_cases h2:k∈r.map (·.1)
   ·rw[vax h2,vax (vaU _ h2)]
   ·rw[vaz h2,vaz (by rw[vay];rintro(h3|h3);exact h' h3;exact h2 h3)]
    rfl
theorem Dj:∀(l:List ae) (m:List (ae×Bool)),(qD m).Nodup->(qD (qw m l)).Nodup/\(∀x,x∈qD (qw m l)↔x∈qD m\/x∈l)/\(qw m l).length<=m.length+l.length
 |[],m,h=>⟨h,fun x=>by simp[qw],by simp[qw]⟩
 | k :: l,m,h => by
  have hp:=Qk k m
  have hn:(qD (tN m k true)).Nodup:=by
   rw[hp]
   split
   ·exact h
   ·rename_i hk
    rw[vbz]
    exact⟨h,by simp,fun a ha b hb hab=>by simp at hb;subst hb;subst hab;exact hk ha⟩
  have hlen:(tN m k true).length<=m.length+1:=by
   have:=va6 List.length hp
   unfold qD at this
   rw[vba]at this
   rw[this]
   split<;>simp
  obtain⟨h1,h2,h3⟩:=Dj l (tN m k true) hn
  refine⟨h1,fun x=>?_,?_⟩
  ·show x∈qD (qw (tN m k true) l)↔_
   rw[h2,hp]
   split
   ·rename_i hk
    constructor
    ·rintro(h|h)
     ·exact .inl h
     ·exact .inr (vaU _ h)
    ·rintro(h|h)
     ·exact .inl h
     ·rcases vay.1 h with rfl|h
      ·exact .inl hk
      ·exact .inr h
   ·rw[vaw,vaX,vay,or_assoc]
  ·show(qw (tN m k true) l).length<=_
   simp only[vaO]
   omega
def zr(l:List ae):List ae:=y7 (qD (qw [] l))
theorem Tt{l:List ae}(h:l.Nodup):Q9 (y7 l):=by
 have hn:(y7 l).Nodup:=(pF l).nodup_iff.2 h
 refine((qC l).and hn).imp ?_
 rintro a b ⟨h1,h2⟩
 show Op.bytesLess a b=true
 cases hb:Op.bytesLess a b with
 |true=>rfl
 |false=>exact absurd (tF hb h1) h2
theorem Ft(l:List ae):Q9 (zr l)/\∀x,x∈zr l↔x∈l:=by
 obtain⟨h1,h2,_⟩:=Dj l [] (by simp[qD])
 refine⟨Tt h1,fun x=>?_⟩
 unfold zr
 rw[(pF _).mem_iff,h2]
 simp[qD]
theorem X7(l:List ae):zr l=VD l []:=by
 obtain⟨a1,a2⟩:=Ft l
 obtain⟨b1,b2⟩:=Mf l []
 exact Av a1 b1 fun x=>by rw[a2,b2];simp
theorem Tq{a b:List ae}(h:∀x,x∈a↔x∈b):zr a=zr b:=by
 obtain⟨a1,a2⟩:=Ft a
 obtain⟨b1,b2⟩:=Ft b
 exact Av a1 b1 fun x=>by rw[a2,b2,h]
theorem Q0(l:List ae):(zr l).length<=l.length:=by
 obtain⟨_,_,h⟩:=Dj l [] (by simp[qD])
 unfold zr
 rw[(pF _).length_eq]
 unfold qD
 rw[vba]
 simpa using h
theorem T8(l:List ae)(hl:l.length<=1073741824):sL (qw [] l)=some (zr l):=by
 obtain⟨_,_,h⟩:=Dj l [] (by simp[qD])
 unfold sL
 rw[vax (by simp only[vai];unfold dw;simp at h;omega)]
 rfl
def Gr(e:af):Bool:=e.Op==3||e.Op==5
theorem Q8(e:af):fj e=some (Gr e):=by
 unfold fj Gr
 rw[qbK]
def jx(o:Int)(n:ae)(ps:List aw)(later:Bool):List ae:=if(o==7&&later)=true then[n]else if(o==6)=true then ps.map (·.Name)else[]
theorem Tr(e:af)(i:Nat)(hl:e.Params.length<=1073741824):oQ e (i:Int)=some (jx e.Op e.Name e.Params (decide (0<i))):=by
 unfold oQ sP jx
 rw[V9]
 simp only[vab]
 have h0:decide ((i:Int)>0)=decide (0<i):=by by_cases h:0<i<;>simp[h]
 rw[h0]
 by_cases h1:(e.Op==7&&decide (0<i))=true
 ·rw[vax h1,vax h1]
 ·rw[vaz h1,vaz h1]
  by_cases h2:(e.Op==6)=true
  ·rw[vax h2,vax h2,Uy _ hl];rfl
  ·rw[vaz h2,vaz h2]
theorem Qi(o:Int)(n:ae)(ps:List aw)(b:Bool):(jx o n ps b).length<=1+ps.length:=by
 unfold jx
 split
 ·simp
 ·split<;>simp
mutual
def uh(h:List ae):af->List af
 |⟨o,n,k,ks,ps,as1,ts⟩=>(if(Gr ⟨o,n,k,ks,ps,as1,ts⟩&&!h.any fun x=>x==n)=true then[⟨o,n,k,ks,ps,as1,ts⟩]else[])++(vF (h++jx o n ps false) (h++jx o n ps true) ks++xk h as1)
def Vd(h:List ae):aJ->List af
 |⟨_,ns,b⟩=>uh (h++ns) b
def vF(h0 h1:List ae):List af->List af
 |[]=>[]
 |e::l=>uh h0 e++vF h1 h1 l
def xk(h:List ae):List aJ->List af
 |[]=>[]
 |a::l=>Vd h a++xk h l
end
abbrev CJ(h:List ae)(e:af):List af:=if(Gr e&&!h.any fun x=>x==e.Name)=true then[e]else[]
theorem SD(h:List ae)(e:af):uh h e=CJ h e++(vF (h++jx e.Op e.Name e.Params false) (h++jx e.Op e.Name e.Params true) e.Kids++xk h e.Alts):=by
 obtain⟨o,n,k,ks,ps,as1,ts⟩:=e
 rw[uh];rfl
theorem WJ(h:List ae)(a:aJ):Vd h a=uh (h++a.Names) a.Body:=by obtain⟨c,ns,b⟩:=a;rw[Vd];rfl
theorem Ie(h0 h1:List ae):∀(l:List af) (i:Nat) (hi:i<l.length),vF h0 h1 (l.take (i+1))=vF h0 h1 (l.take i)++uh (if 0<i then h1 else h0) l[i]
 |x::l,0,hi=>by simp[vF]
 |x::l,i+1,hi=>by
  have hi':i<l.length:=by simpa using hi
  have ih:=Ie h1 h1 l i hi'
  rw[List.take_succ_cons,List.take_succ_cons,vF,vF,ih,ite_self]
  simp
theorem Id(h:List ae):∀(l:List aJ) (i:Nat) (hi:i<l.length),xk h (l.take (i+1))=xk h (l.take i)++uh (h++l[i].Names) l[i].Body
 |x::l,0,hi=>by simp[xk,WJ]
 |x::l,i+1,hi=>by
  have ih:=Id h l i (by simpa using hi)
  rw[List.take_succ_cons,List.take_succ_cons,xk,xk,ih]
  simp
mutual
theorem zm(h:List ae):∀(e:af),(uh h e).length<=nE e
 |⟨o,n,k,ks,ps,as1,ts⟩=>by
  have h1:=zn (h++jx o n ps false) (h++jx o n ps true) ks
  have h2:=GK h as1
  rw[uh,nE,vav,vav]
  have h3:(if(Gr ⟨o,n,k,ks,ps,as1,ts⟩&&!h.any fun x=>x==n)=true then[(⟨o,n,k,ks,ps,as1,ts⟩:af)]else[]).length<=1:=by split<;>simp
  omega
theorem Ve(h:List ae):∀(a:aJ),(Vd h a).length<=nA a
 |⟨c,ns,b⟩=>by
  have h1:=zm (h++ns) b
  rw[Vd,nA];omega
theorem zn(h0 h1:List ae):∀(l:List af),(vF h0 h1 l).length<=DQ l
 |[]=>by simp[vF]
 |e::l=>by
  have h2:=zm h0 e
  have h3:=zn h1 h1 l
  rw[vF,DQ,vav];omega
theorem GK(h:List ae):∀(l:List aJ),(xk h l).length<=En l
 |[]=>by simp[xk]
 |a::l=>by
  have h2:=Ve h a
  have h3:=GK h l
  rw[xk,En,vav];omega
end
theorem Qu(l:List af)(i:Nat)(hi:i<l.length):DQ (l.take (i+1))=DQ (l.take i)+nE l[i]:=by
 have key:∀(a b:List af),DQ (a++b)=DQ a+DQ b:=by
  intro a b
  induction a with
  |nil=>simp[DQ]
  |cons x a ih=>rw[vaF,DQ,DQ,ih];omega
 rw[vaq hi,key]
 simp[DQ]
theorem I8(l:List af)(i:Nat):DQ (l.take i)<=DQ l:=by
 have:∀(l:List af) (i:Nat),DQ (l.take i)<=DQ l:=by
  intro l
  induction l with
  |nil=>intro i;simp
  |cons x l ih=>
   intro i
   cases i with
   |zero=>simp[DQ]
   |succ i=>have:=ih i;simp only[List.take_succ_cons,DQ];omega
 exact this l i
theorem NP(l:List aJ)(i:Nat)(hi:i<l.length):En (l.take (i+1))=En (l.take i)+nA l[i]:=by
 have key:∀(a b:List aJ),En (a++b)=En a+En b:=by
  intro a b
  induction a with
  |nil=>simp[En]
  |cons x a ih=>rw[vaF,En,En,ih];omega
 rw[vaq hi,key]
 simp[En]
theorem Vf(h:List ae)(e:af)(hh:h.length<9223372036854775808):(fj e).bind (fun r1=>if r1=true then(ka h e.Name).bind fun r4=>some (decide (r4<0))else some false)=some (Gr e&&!h.any fun x=>x==e.Name):=by
 rw[Q8,Et _ _ hh]
 simp only[vab,V9,Ti]
def jr(b:Bool)(l:List af):List ae:=(l.filter fun x=>!b||x.Op==5).map (·.Name)
theorem kU(b:Bool)(l m:List af):jr b (l++m)=jr b l++jr b m:=by unfold jr;rw[List.filter_append,vbi]
theorem lF(b:Bool)(l:List af):(jr b l).length<=l.length:=by unfold jr;rw[vba];exact vby _ _
theorem RR(e:af)(h:List ae)(m:List ae)(hq:h.length+nE e<=1073741824)(hm:m.length+nE e<=1073741824):jh e h m=some (m++jr true (uh h e)):=by
 refine OS (F:=iD) (fun x=>nE x.1) (fun x=>x.2.1.length+nE x.1<=1073741824/\x.2.2.length+nE x.1<=1073741824) (fun x=>x.2.2++jr true (uh x.2.1 x.1)) (fun R x hx ih=>?_) (e,h,m) ⟨hq,hm⟩ (Co (by unfold sw;show nE e<=_;omega))
 obtain⟨e,h,m⟩:=x
 have hq:h.length+nE e<=1073741824:=hx.1
 have hm:m.length+nE e<=1073741824:=hx.2
 have hn:=Gw e
 have hpos:=Pa e
 have lk:=Gv e.Kids
 have la:=Gu e.Alts
 show fi (fun e hidden k0=>R (e,hidden,k0)) e h m=some (m++jr true (uh h e))
 unfold fi g9 hO
 rw[Vf h e (by omega)]
 simp only[vab]
 have hs:(if(Gr e&&!h.any fun x=>x==e.Name)=true then(qW e m).bind fun r8=>some r8 else some m)=some (m++jr true (CJ h e)):=by
  unfold CJ
  by_cases hc:(Gr e&&!h.any fun x=>x==e.Name)=true
  ·rw[vax hc,vax hc]
   unfold qW
   by_cases h5:(e.Op==5)=true
   ·rw[vax h5,iJ (by simp;omega)];simp[jr,h5]
   ·rw[vaz h5];simp[jr,h5]
  ·rw[vaz hc,vaz hc];simp[jr]
 rw[hs]
 simp only[vab]
 have g1:∀m0:List ae,m0.length+DQ e.Kids<=1073741824->eX (fun e hidden k0=>R (e,hidden,k0)) h e e.Kids (e.Kids.length:Int) 0 m0=some (m0++jr true (vF (h++jx e.Op e.Name e.Params false) (h++jx e.Op e.Name e.Params true) e.Kids)):=fun m0 hm0=>by
  have g:=lm e.Kids.length (fun zz:Int×(List ae)=>bY (fun e hidden k0=>R (e,hidden,k0)) h e e.Kids (e.Kids.length:Int) zz.1 zz.2) (fun i=>((i:Int),m0++jr true (vF (h++jx e.Op e.Name e.Params false) (h++jx e.Op e.Name e.Params true) (e.Kids.take i)))) (m0++jr true (vF (h++jx e.Op e.Name e.Params false) (h++jx e.Op e.Name e.Params true) e.Kids)) (fun i hi=>?_) ?_
  ·unfold eX;simpa[jr,vF]using g
  ·have hil:=Qi e.Op e.Name e.Params (decide (0<i))
   have hm:=Ku (vaN hi)
   have ht:=Qu e.Kids i hi
   have ht2:=I8 e.Kids (i+1)
   have hol:=zn (h++jx e.Op e.Name e.Params false) (h++jx e.Op e.Name e.Params true) (e.Kids.take i)
   have hnl:=lF true (vF (h++jx e.Op e.Name e.Params false) (h++jx e.Op e.Name e.Params true) (e.Kids.take i))
   show bY _ h e e.Kids (e.Kids.length:Int) (i:Int) _=_
   unfold bY
   rw[vax (by simpa using hi),cE _ _ hi,vab,Nz _ (by omega),vab,Tr e i (by omega),vab,iJ (by omega),vab]
   show(R _).bind _=_
   rw[ih (e.Kids[i],h++jx e.Op e.Name e.Params (decide (0<i)),_) (O3 (vaN hi)) ⟨by show(h++jx e.Op e.Name e.Params (decide (0<i))).length+nE e.Kids[i]<=1073741824;rw[vav];omega,by show(m0++jr true (vF _ _ (e.Kids.take i))).length+nE e.Kids[i]<=1073741824;rw[vav];omega⟩,vab,Ie _ _ _ _ hi,kU,cH (by omega) (by omega)]
   by_cases h0:0<i<;>simp[h0]
  ·show bY _ h e e.Kids (e.Kids.length:Int) (e.Kids.length:Int) _=_
   unfold bY
   rw[vaz (by simp),vaP]
 have g2:∀m0:List ae,m0.length+En e.Alts<=1073741824->eY (fun e hidden k0=>R (e,hidden,k0)) h e.Alts (e.Alts.length:Int) 0 m0=some (m0++jr true (xk h e.Alts)):=fun m0 hm0=>by
  have g:=lm e.Alts.length (fun zz:Int×(List ae)=>bZ (fun e hidden k0=>R (e,hidden,k0)) h e.Alts (e.Alts.length:Int) zz.1 zz.2) (fun i=>((i:Int),m0++jr true (xk h (e.Alts.take i)))) (m0++jr true (xk h e.Alts)) (fun i hi=>?_) ?_
  ·unfold eY;simpa[jr,xk]using g
  ·have hm:=Kt (vaN hi)
   have hma:=Qt e.Alts[i]
   have ht:=NP e.Alts i hi
   have ht2:=Qs e.Alts (i+1)
   have hol:=GK h (e.Alts.take i)
   have hnl:=lF true (xk h (e.Alts.take i))
   show bZ _ h e.Alts (e.Alts.length:Int) (i:Int) _=_
   unfold bZ
   rw[vax (by simpa using hi),cE _ _ hi,vab,Nz _ (by omega),vab,iJ (by omega),vab]
   show(R _).bind _=_
   rw[ih (e.Alts[i].Body,h++e.Alts[i].Names,_) (Ou (vaN hi)) ⟨by show(h++e.Alts[i].Names).length+nE e.Alts[i].Body<=1073741824;rw[vav];omega,by show(m0++jr true (xk h (e.Alts.take i))).length+nE e.Alts[i].Body<=1073741824;rw[vav];omega⟩,vab,Id _ _ _ hi,kU,cH (by omega) (by omega)]
   simp
  ·show bZ _ h e.Alts (e.Alts.length:Int) (e.Alts.length:Int) _=_
   unfold bZ
   rw[vaz (by simp),vaP]
 have hsl:=lF true (CJ h e)
 have hsl2:(CJ h e).length<=1:=by unfold CJ;split<;>simp
 have hol:=zn (h++jx e.Op e.Name e.Params false) (h++jx e.Op e.Name e.Params true) e.Kids
 have hnl:=lF true (vF (h++jx e.Op e.Name e.Params false) (h++jx e.Op e.Name e.Params true) e.Kids)
 rw[g1 _ (by rw[vav];omega)]
 simp only[vab]
 rw[g2 _ (by rw[vav,vav];omega)]
 simp only[vab]
 rw[SD,kU,kU,vbv,vbv]
theorem VL(e:af)(h:List ae)(i:Nat)(hl:h.length+e.Params.length+1<=1073741824):Df e (i:Int) h=some (h++jx e.Op e.Name e.Params (decide (0<i))):=by
 unfold Df Ac Ad
 rw[iJ (by simp;omega)]
 simp only[vab,V9,vaL]
 have h0:decide ((i:Int)>0)=decide (0<i):=by by_cases h:0<i<;>simp[h]
 rw[h0]
 have key:∀out:List ae,out.length+e.Params.length<=1073741824->u6 e out 0=some (out++if(e.Op==6)=true then e.Params.map (·.Name)else[]):=fun out ho=>by
  unfold u6
  by_cases h6:(e.Op==6)=true
  ·have g:=lm e.Params.length (fun zz:(List ae)×Int=>fy e zz.1 zz.2) (fun k=>(out++(e.Params.take k).map (·.Name),(k:Int))) (out++e.Params.map (·.Name)) (fun k hk=>?_) ?_
   ·rw[vax h6];simpa using g
   ·show fy e _ (k:Int)=_
    unfold fy qr
    rw[vax (by simpa using hk)]
    simp only[vab]
    rw[vax h6,cE _ _ hk,vab,iJ (by simp;omega),vab,cH (by omega) (by omega),vaq hk,vbi,<-vbv]
    rfl
   ·show fy e _ (e.Params.length:Int)=_
    unfold fy qr
    rw[vaz (by simp),vaP]
    simp
  ·have h6':(e.Op==6)=false:=by simpa using h6
   rw[vaz h6,va9]
   refine Dt ?_
   show fy e out 0=_
   unfold fy qr
   rw[h6',ite_self]
   simp
 unfold jx
 by_cases h1:(e.Op==7&&decide (0<i))=true
 ·have h6:(e.Op==6)=false:=by
   simp only[vad,vaZ]at h1
   rw[beq_eq_false_iff_ne];omega
  rw[vax h1,vax h1,iJ (by simp;omega)]
  simp only[vab]
  rw[key _ (by simp;omega),h6]
  simp
 ·rw[vaz h1,vaz h1]
  simp only[vab]
  rw[key _ (by omega)]
  rfl
theorem T5(b:Bool)(e:af)(h:List ae)(hq:h.length+nE e<=1073741824):K4 e h b=some (jr b (uh h e)):=by
 refine OS (F:=EW) (fun x=>nE x.1) (fun x=>x.2.1.length+nE x.1<=1073741824) (fun x=>jr x.2.2 (uh x.2.1 x.1)) (fun R x hx ih=>?_) (e,h,b) hq (Co (by unfold sw;show nE e<=_;omega))
 obtain⟨e,h,b⟩:=x
 have hq:h.length+nE e<=1073741824:=hx
 have hn:=Gw e
 have hpos:=Pa e
 have lk:=Gv e.Kids
 have la:=Gu e.Alts
 show z7 (fun e bound calls=>R (e,bound,calls)) e h b=some (jr b (uh h e))
 have hJ1:xz h b e=some (jr b (CJ h e)):=by
  unfold xz BY qn
  rw[IJ _ _ (by omega)]
  simp only[vab,vA]
  rw[iJ (by simp)]
  unfold CJ Gr
  generalize (h.any fun k=>k==e.Name)=a
  by_cases h5:(e.Op==5)=true
  ·have h3:(e.Op==3)=false:=by rw[beq_eq_false_iff_ne];rw[vaZ]at h5;omega
   cases a<;>cases b<;>simp[jr,h5,h3]
  ·by_cases h3:(e.Op==3)=true
   ·cases a<;>cases b<;>simp[jr,h5,h3]
   ·simp[jr,h5,h3]
 unfold z7
 rw[hJ1]
 simp only[vab]
 have g1:∀m0:List ae,m0.length+DQ e.Kids<=1073741824->xC (fun e bound calls=>R (e,bound,calls)) h b e m0 0=some (m0++jr b (vF (h++jx e.Op e.Name e.Params false) (h++jx e.Op e.Name e.Params true) e.Kids)):=fun m0 hm0=>by
  have g:=lm e.Kids.length (fun zz:(List ae)×Int=>j7 (fun e bound calls=>R (e,bound,calls)) h b e zz.1 zz.2) (fun i=>(m0++jr b (vF (h++jx e.Op e.Name e.Params false) (h++jx e.Op e.Name e.Params true) (e.Kids.take i)),(i:Int))) (m0++jr b (vF (h++jx e.Op e.Name e.Params false) (h++jx e.Op e.Name e.Params true) e.Kids)) (fun i hi=>?_) ?_
  ·unfold xC;simpa[jr,vF]using g
  ·have hil:=Qi e.Op e.Name e.Params (decide (0<i))
   have hm:=Ku (vaN hi)
   have ht:=Qu e.Kids i hi
   have ht2:=I8 e.Kids (i+1)
   have hol:=zn (h++jx e.Op e.Name e.Params false) (h++jx e.Op e.Name e.Params true) (e.Kids.take i)
   have hnl:=lF b (vF (h++jx e.Op e.Name e.Params false) (h++jx e.Op e.Name e.Params true) (e.Kids.take i))
   show j7 _ h b e _ (i:Int)=_
   unfold j7
   rw[vax (by simpa using hi),cE _ _ hi,vab,VL e h i (by omega),vab]
   show(R _).bind _=_
   rw[ih (e.Kids[i],h++jx e.Op e.Name e.Params (decide (0<i)),b) (O3 (vaN hi)) (by show(h++jx e.Op e.Name e.Params (decide (0<i))).length+nE e.Kids[i]<=1073741824;rw[vav];omega),vab,Ie _ _ _ _ hi,kU,cH (by omega) (by omega)]
   have hxl:(jr b (uh (h++jx e.Op e.Name e.Params (decide (0<i))) e.Kids[i])).length<=nE e.Kids[i]:=vaB (lF b _) (zm _ _)
   rw[iJ (by simp only[vav];omega)]
   by_cases h0:0<i<;>simp[h0]
  ·show j7 _ h b e _ (e.Kids.length:Int)=_
   unfold j7
   rw[vaz (by simp),vaP]
 have g2:∀m0:List ae,m0.length+En e.Alts<=1073741824->xD (fun e bound calls=>R (e,bound,calls)) h b e m0 0=some (m0++jr b (xk h e.Alts)):=fun m0 hm0=>by
  have g:=lm e.Alts.length (fun zz:(List ae)×Int=>j8 (fun e bound calls=>R (e,bound,calls)) h b e zz.1 zz.2) (fun i=>(m0++jr b (xk h (e.Alts.take i)),(i:Int))) (m0++jr b (xk h e.Alts)) (fun i hi=>?_) ?_
  ·unfold xD;simpa[jr,xk]using g
  ·have hm:=Kt (vaN hi)
   have hma:=Qt e.Alts[i]
   have ht:=NP e.Alts i hi
   have ht2:=Qs e.Alts (i+1)
   have hol:=GK h (e.Alts.take i)
   have hnl:=lF b (xk h (e.Alts.take i))
   show j8 _ h b e _ (i:Int)=_
   unfold j8
   rw[vax (by simpa using hi),iJ (by simp;omega),vab,cE _ _ hi,vab,iJ (by simp only[vaL];omega),vab]
   simp only[vab,vaL]
   show(R _).bind _=_
   rw[ih (e.Alts[i].Body,h++e.Alts[i].Names,b) (Ou (vaN hi)) (by show(h++e.Alts[i].Names).length+nE e.Alts[i].Body<=1073741824;rw[vav];omega),vab,Id _ _ _ hi,kU,cH (by omega) (by omega)]
   have hxl:(jr b (uh (h++e.Alts[i].Names) e.Alts[i].Body)).length<=nE e.Alts[i].Body:=vaB (lF b _) (zm _ _)
   rw[iJ (by simp only[vav];omega)]
   simp
  ·show j8 _ h b e _ (e.Alts.length:Int)=_
   unfold j8
   rw[vaz (by simp),vaP]
 have hsl:=lF b (CJ h e)
 have hsl2:(CJ h e).length<=1:=by unfold CJ;split<;>simp
 have hol:=zn (h++jx e.Op e.Name e.Params false) (h++jx e.Op e.Name e.Params true) e.Kids
 have hnl:=lF b (vF (h++jx e.Op e.Name e.Params false) (h++jx e.Op e.Name e.Params true) e.Kids)
 rw[g1 _ (by omega)]
 simp only[vab]
 rw[g2 _ (by rw[vav];omega)]
 simp only[vab]
 rw[SD,kU,kU,vbv]
theorem TJ(e:af)(he:nE e<=sw):vI e=some (jr true (uh [] e)):=by
 have hB:nE e<=1073741824:=he
 unfold vI
 rw[RR e [] [] (by simpa using hB) (by simpa using hB)]
 rfl
theorem TV(e:af)(he:nE e<=sw):Dc e=some (jr true (uh [] e)):=by
 have hB:nE e<=1073741824:=he
 unfold Dc
 rw[T5 true e [] (by simpa using hB)]
 rfl
theorem HS{α β:Type}(p:α->Bool)(f:α->β):∀(l:List α),l.findSome? (fun x=>if p x=true then some (f x)else none)=(l.find? p).map f
 |[]=>rfl
 |x::l=>by
  rw[List.findSome?_cons,List.find?_cons]
  cases h:p x with
  |true=>rfl
  |false=>simpa using HS p f l
abbrev S0:Type:=ae×(List ae)×Int×ae×Int×(List af)×(List aw)×(List aJ)×(List ai)×Int×Bool×(List ae)×(List cr)×(List eP)×(List bC)×Int×ae×(List ai)×(List ae)×Int×ae×Int×(List am)×(List am)×(List am)
def MU(d:cp):S0:=(d.Name,d.Params,d.Body.Op,d.Body.Name,d.Body.N,d.Body.Kids,d.Body.Params,d.Body.Alts,d.Body.Types,d.Mode,d.Typed,d.Sig.Vars,d.Sig.Needs,d.Sig.Abs,d.Sig.Bounds,d.Sig.Type_.Op,d.Sig.Type_.Name,d.Sig.Type_.Args,d.Sig.Type_.Names,d.Sig.Type_.Pred.Op,d.Sig.Type_.Pred.Name,d.Sig.Type_.Pred.N,d.Sig.Type_.Pred.Kids,d.Sig.Type_.Preds,d.Sig.Metric)
def fk(m:aE)(name:ae):cp×Bool:=(m.Defs.find? (fun d=>d.Name==name)).elim (⟨[],[],⟨0,[],0,[],[],[],[]⟩,0,false,⟨[],[],[],[],⟨0,[],[],[],⟨0,[],0,[]⟩,[]⟩,[]⟩⟩,false) (fun d=>(d,true))
theorem SI(m:aE)(name:ae)(h1:m.Defs.length<9223372036854775808):wO m name=some (fk m name):=by
 unfold wO yR fk
 have:=LH m.Defs h1 (fun i=>(i,[],[],0,[],0,[],[],[],[],0,false,[],[],[],[],0,[],[],[],0,[],0,[],[],[])) (fun(zz:Int×ae×(List ae)×Int×ae×Int×(List af)×(List aw)×(List aJ)×(List ai)×Int×Bool×(List ae)×(List cr)×(List eP)×(List bC)×Int×ae×(List ai)×(List ae)×Int×ae×Int×(List am)×(List am)×(List am))=>iC name m.Defs (m.Defs.length:Int) zz.1 zz.2.1 zz.2.2.1 zz.2.2.2.1 zz.2.2.2.2.1 zz.2.2.2.2.2.1 zz.2.2.2.2.2.2.1 zz.2.2.2.2.2.2.2.1 zz.2.2.2.2.2.2.2.2.1 zz.2.2.2.2.2.2.2.2.2.1 zz.2.2.2.2.2.2.2.2.2.2.1 zz.2.2.2.2.2.2.2.2.2.2.2.1 zz.2.2.2.2.2.2.2.2.2.2.2.2.1 zz.2.2.2.2.2.2.2.2.2.2.2.2.2.1 zz.2.2.2.2.2.2.2.2.2.2.2.2.2.2.1 zz.2.2.2.2.2.2.2.2.2.2.2.2.2.2.2.1 zz.2.2.2.2.2.2.2.2.2.2.2.2.2.2.2.2.1 zz.2.2.2.2.2.2.2.2.2.2.2.2.2.2.2.2.2.1 zz.2.2.2.2.2.2.2.2.2.2.2.2.2.2.2.2.2.2.1 zz.2.2.2.2.2.2.2.2.2.2.2.2.2.2.2.2.2.2.2.1 zz.2.2.2.2.2.2.2.2.2.2.2.2.2.2.2.2.2.2.2.2.1 zz.2.2.2.2.2.2.2.2.2.2.2.2.2.2.2.2.2.2.2.2.2.1 zz.2.2.2.2.2.2.2.2.2.2.2.2.2.2.2.2.2.2.2.2.2.2.1 zz.2.2.2.2.2.2.2.2.2.2.2.2.2.2.2.2.2.2.2.2.2.2.2.1 zz.2.2.2.2.2.2.2.2.2.2.2.2.2.2.2.2.2.2.2.2.2.2.2.2.1 zz.2.2.2.2.2.2.2.2.2.2.2.2.2.2.2.2.2.2.2.2.2.2.2.2.2)
  (fun d=>if(d.Name==name)=true then some (Sum.inl (MU d):S0⊕S0)else none) (.inr ([],[],0,[],0,[],[],[],[],0,false,[],[],[],[],0,[],[],[],0,[],0,[],[],[])) (fun i hi=>?_) ?_
 ·rw[this]
  simp only[vab]
  rw[show m.Defs.findSome? (fun d=>if(d.Name==name)=true then some (Sum.inl (MU d):S0⊕S0)else none)=_ from HS (fun d:cp=>d.Name==name) (fun d=>(Sum.inl (MU d):S0⊕S0)) m.Defs]
  cases m.Defs.find? (fun d=>d.Name==name)with
  |none=>rfl
  |some d=>
   simp only[vag,Option.elim,id,MU,NC,ND,NB]
 ·show iC name m.Defs (m.Defs.length:Int) (i:Int) [] [] 0 [] 0 [] [] [] [] 0 false [] [] [] [] 0 [] [] [] 0 [] 0 [] [] []=_
  unfold iC
  rw[vax (by simp;omega),cE _ i hi]
  simp only[vab]
  by_cases hn:(m.Defs[i].Name==name)=true<;>simp[hn,MU]
 ·show iC name m.Defs (m.Defs.length:Int) (m.Defs.length:Int) [] [] 0 [] 0 [] [] [] [] 0 false [] [] [] [] 0 [] [] [] 0 [] 0 [] [] []=_
  unfold iC
  rw[vaz (by simp)]
theorem SN(m:aE)(name:ae)(h1:m.Defs.length<9223372036854775808):FY m name=some (fk m name):=by
 unfold FY EU fk
 have:=LH m.Defs h1 (fun i=>(i,[],[],0,[],0,[],[],[],[],0,false,[],[],[],[],0,[],[],[],0,[],0,[],[],[])) (fun(zz:Int×ae×(List ae)×Int×ae×Int×(List af)×(List aw)×(List aJ)×(List ai)×Int×Bool×(List ae)×(List cr)×(List eP)×(List bC)×Int×ae×(List ai)×(List ae)×Int×ae×Int×(List am)×(List am)×(List am))=>kY name m zz.1 zz.2.1 zz.2.2.1 zz.2.2.2.1 zz.2.2.2.2.1 zz.2.2.2.2.2.1 zz.2.2.2.2.2.2.1 zz.2.2.2.2.2.2.2.1 zz.2.2.2.2.2.2.2.2.1 zz.2.2.2.2.2.2.2.2.2.1 zz.2.2.2.2.2.2.2.2.2.2.1 zz.2.2.2.2.2.2.2.2.2.2.2.1 zz.2.2.2.2.2.2.2.2.2.2.2.2.1 zz.2.2.2.2.2.2.2.2.2.2.2.2.2.1 zz.2.2.2.2.2.2.2.2.2.2.2.2.2.2.1 zz.2.2.2.2.2.2.2.2.2.2.2.2.2.2.2.1 zz.2.2.2.2.2.2.2.2.2.2.2.2.2.2.2.2.1 zz.2.2.2.2.2.2.2.2.2.2.2.2.2.2.2.2.2.1 zz.2.2.2.2.2.2.2.2.2.2.2.2.2.2.2.2.2.2.1 zz.2.2.2.2.2.2.2.2.2.2.2.2.2.2.2.2.2.2.2.1 zz.2.2.2.2.2.2.2.2.2.2.2.2.2.2.2.2.2.2.2.2.1 zz.2.2.2.2.2.2.2.2.2.2.2.2.2.2.2.2.2.2.2.2.2.1 zz.2.2.2.2.2.2.2.2.2.2.2.2.2.2.2.2.2.2.2.2.2.2.1 zz.2.2.2.2.2.2.2.2.2.2.2.2.2.2.2.2.2.2.2.2.2.2.2.1 zz.2.2.2.2.2.2.2.2.2.2.2.2.2.2.2.2.2.2.2.2.2.2.2.2.1 zz.2.2.2.2.2.2.2.2.2.2.2.2.2.2.2.2.2.2.2.2.2.2.2.2.2)
  (fun d=>if(d.Name==name)=true then some (Sum.inl (MU d):S0⊕S0)else none) (.inr ([],[],0,[],0,[],[],[],[],0,false,[],[],[],[],0,[],[],[],0,[],0,[],[],[])) (fun i hi=>?_) ?_
 ·rw[this]
  simp only[vab]
  rw[show m.Defs.findSome? (fun d=>if(d.Name==name)=true then some (Sum.inl (MU d):S0⊕S0)else none)=_ from HS (fun d:cp=>d.Name==name) (fun d=>(Sum.inl (MU d):S0⊕S0)) m.Defs]
  cases m.Defs.find? (fun d=>d.Name==name)with
  |none=>rfl
  |some d=>
   simp only[vag,Option.elim,id,MU,NC,ND,NB]
 ·show kY name m (i:Int) [] [] 0 [] 0 [] [] [] [] 0 false [] [] [] [] 0 [] [] [] 0 [] 0 [] [] []=_
  unfold kY
  rw[vax (by simp;omega),cE _ i hi]
  simp only[vab]
  by_cases hn:(m.Defs[i].Name==name)=true<;>simp[hn,MU]
 ·show kY name m (m.Defs.length:Int) [] [] 0 [] 0 [] [] [] [] 0 false [] [] [] [] 0 [] [] [] 0 [] 0 [] [] []=_
  unfold kY
  rw[vaz (by simp)]
def Rr(d:cp):List ae:=(jr true (uh [] d.Body)).filter fun s=>!Ii d s
def yQ(m:aE)(x:ae):List ae:=if(fk m x).2=true then(Rr (fk m x).1).filter fun y=>(fk m y).2 else[]
inductive On(m:aE):ae->ae->Prop
 |one {x y:ae}:y∈yQ m x->On m x y
 |step {x y z:ae}:y∈yQ m x->On m y z->On m x z
theorem On.trans{m:aE}{x y z:ae}(h:On m x y)(h2:On m y z):On m x z:=by
 induction h with
 |one h=>exact .step h h2
 |step h _ ih=>exact .step h (ih h2)
theorem On.known{m:aE}{x y:ae}(h:On m x y):(fk m y).2=true:=by
 induction h with
 | @one x y h =>
  unfold yQ at h
  split at h
  ·exact(vaJ.1 h).2
  ·cases h
 |step _ _ ih=>exact ih
theorem L7{m:aE}{L:List ae}(hc:∀y∈L,∀z∈yQ m y,z∈L){x y:ae}(hx:∀z∈yQ m x,z∈L)(h:On m x y):y∈L:=by
 induction h with
 |one h=>exact hx _ h
 |step h _ ih=>exact ih (hc _ (hx _ h))
theorem Ql{m:aE}{x:ae}(h:(fk m x).2=true):x∈m.Defs.map (·.Name):=by
 unfold fk at h
 cases hf:m.Defs.find? (fun d=>d.Name==x)with
 |none=>rw[hf]at h;cases h
 |some d=>
  have h1:=vbb hf
  have h2:=vbJ hf
  exact vah.2 ⟨d,h1,by simpa using h2⟩
theorem HQ{m:aE}{x:ae}(h:(fk m x).2=true):(fk m x).1∈m.Defs:=by
 unfold fk at h ⊢
 cases hf:m.Defs.find? (fun d=>d.Name==x)with
 |none=>rw[hf]at h;cases h
 |some d=>exact vbb hf
def Ys(m:aE):Prop:=m.Defs.length<=30/\∀d∈m.Defs,nE d.Body<=300000000/\d.Params.length<=300000000
theorem Ta{m:aE}(hm:Ys m){d:cp}(hd:d∈m.Defs):tB d=some (Rr d)/\(Rr d).length<=nE d.Body:=by
 obtain⟨h1,h2⟩:=hm.2 d hd
 have hl:=lF true (uh [] d.Body)
 have ho:=zm [] d.Body
 refine⟨?_,?_⟩
 ·unfold tB
  rw[TJ _ (by unfold sw;omega)]
  simp only[vab]
  rw[vax (by simp only[vad,vai];unfold dw;omega)]
  rfl
 ·unfold Rr
  have:=vby (fun s=>!Ii d s) (jr true (uh [] d.Body))
  omega
theorem Cp:∀(l:List ae) (m:List (ae×Bool)) (j:ae),jV (qw m l) j=(l.contains j||jV m j)
 |[],m,j=>by simp[qw]
 |k::l,m,j=>by
  show jV (qw (tN m k true) l) j=_
  rw[Cp l,U6,List.contains_cons]
  cases l.contains j<;>cases(j==k)<;>simp
theorem Cq(l:List ae)(j:ae):jV (qw [] l) j=true↔j∈l:=by
 rw[Cp]
 have:jV ([]:List (ae×Bool)) j=false:=rfl
 rw[this]
 simp
def Re(m:aE)(s:List (ae×Bool)):Prop:=∃L,s=qw [] L/\L.Nodup/\∀x∈L,(fk m x).2=true
theorem Dv{m:aE}{L:List ae}(hn:L.Nodup)(hk:∀x∈L,(fk m x).2=true):L.length<=m.Defs.length:=by
 by_cases h:m.Defs.length<L.length
 ·obtain⟨x,hx,hu⟩:=Vq (m.Defs.map (·.Name)) L hn (by simpa using h)
  exact absurd (Ql (hk x hx)) hu
 ·omega
theorem Re.put{m:aE}{s:List (ae×Bool)}{x:ae}(h:Re m s)(hk:(fk m x).2=true)(hx:jV s x=false):Re m (qw s [x]):=by
 obtain⟨L,rfl,hn,hL⟩:=h
 have hx':x∉L:=fun hm=>by rw[(Cq L x).2 hm]at hx;cases hx
 refine⟨L++[x],by rw[IU],?_,fun y hy=>?_⟩
 ·rw[vbz]
  exact⟨hn,by simp,fun a ha b hb hab=>by simp at hb;subst hb;subst hab;exact hx' ha⟩
 ·rcases vaw.1 hy with hy|hy
  ·exact hL y hy
  ·rw[vaX.1 hy];exact hk
def AU(m:aE)(s:List (ae×Bool)):Nat:=((m.Defs.map (·.Name)).filter fun x=>!jV s x).length
theorem HR{α:Type}{p q:α->Bool}(h:∀y,q y=true->p y=true):∀(l:List α),(l.filter q).length<=(l.filter p).length
 |[]=>by simp
 |a::l=>by
  have ih:=HR h l
  simp only[vbs]
  cases hqa:q a with
  |true=>rw[h a hqa];simpa using ih
  |false=>cases p a<;>simp<;>omega
theorem WE{m:aE}{s t:List (ae×Bool)}(h:∀y,jV s y=true->jV t y=true):AU m t<=AU m s:=by
 unfold AU
 refine HR (fun y hy=>?_) _
 cases hs:jV s y with
 |false=>rfl
 |true=>rw[h y hs]at hy;cases hy
theorem NG{α:Type}{p q:α->Bool}:∀{l:List α} {x:α},x∈l->(∀y,q y=true->p y=true)->p x=true->q x=false->(l.filter q).length<(l.filter p).length
 | a :: l,x,hx,h,hp,hq => by
  have hle:(l.filter q).length<=(l.filter p).length:=HR h l
  rcases vay.1 hx with rfl|hx
  ·rw[List.filter_cons_of_pos hp,List.filter_cons_of_neg (by rw[hq];simp)]
   simp only[vaO];omega
  ·have ih:=NG hx h hp hq
   simp only[vbs]
   cases hqa:q a with
   |true=>rw[h a hqa];simp;omega
   |false=>cases p a<;>simp<;>omega
theorem UZ{m:aE}{s:List (ae×Bool)}{x:ae}(hk:(fk m x).2=true)(hx:jV s x=false):AU m (qw s [x])<AU m s:=by
 unfold AU
 refine NG (Ql hk) (fun y hy=>?_) (by rw[hx];rfl) ?_
 ·rw[Cp]at hy
  cases hs:jV s y with
  |false=>rfl
  |true=>rw[hs]at hy;simp at hy
 ·rw[Cp];simp
def V5(m:aE)(x:ae)(s t:List (ae×Bool)):Prop:=
 Re m t/\(∀y,jV s y=true->jV t y=true)/\(∀y,jV t y=true->jV s y=true\/On m x y)/\(∀y∈yQ m x,jV t y=true)/\∀y,jV t y=true->jV s y=false->∀z∈yQ m y,jV t z=true
theorem Ue{m:aE}(hm:Ys m)(x:ae)(s:List (ae×Bool))(hs:Re m s):rC (lw x m s m) (V5 m x s):=by
 have hlen:m.Defs.length<9223372036854775808:=by have:=hm.1;omega
 refine Ho (F:=kb) (fun x=>AU m x.2.2.1) (fun x=>x.2.1=m/\x.2.2.2=m/\Re m x.2.2.1) (fun x t=>V5 m x.1 x.2.2.1 t) (fun R x hx ih=>?_) (x,m,s,m) ⟨rfl,rfl,hs⟩ ?_
 ·obtain⟨x,m2,s,m1⟩:=x
  obtain⟨h1,h2,hs⟩:=hx
  simp only at h1 h2 hs
  subst h1 h2
  show rC (gJ (fun name a k2 c=>R (name,a,k2,c)) x m1 s m1) (V5 m1 x s)
  unfold gJ
  rw[SI _ _ hlen]
  simp only[vab]
  refine DE (fun hk=>bP ?_) (fun hk=>?_)
  ·have hk':¬(fk m1 x).2=true:=by simpa using hk
   have h0:yQ m1 x=[]:=by unfold yQ;rw[vaz hk']
   exact⟨hs,fun _ h=>h,fun _ h=>.inl h,fun y hy=>(by rw[h0]at hy;cases hy),fun y h1 h2=>by rw[h1]at h2;cases h2⟩
  ·have hk':(fk m1 x).2=true:=by simpa using hk
   obtain⟨hc,hcl⟩:=Ta hm (HQ hk')
   have hb:=(hm.2 _ (HQ hk')).1
   rw[hc]
   simp only[vab]
   have hsx:yQ m1 x=(Rr (fk m1 x).1).filter fun y=>(fk m1 y).2:=by unfold yQ;rw[vax hk']
   generalize hl:Rr (fk m1 x).1=l at hcl hsx
   refine dE (R:=V5 m1 x s) ?_ (fun t ht=>bP ht)
   unfold jA
   refine zJ l (by omega) (fun i (t:List (ae×Bool))=>(i,t)) (fun i t=>Re m1 t/\(∀y,jV s y=true->jV t y=true)/\(∀y,jV t y=true->jV s y=true\/On m1 x y)/\(∀y∈l.take i,(fk m1 y).2=true->jV t y=true)/\∀y,jV t y=true->jV s y=false->∀z∈yQ m1 y,jV t z=true) (fun i h t hI=>?_) (fun t hI=>?_) s ⟨hs,fun _ h=>h,fun _ h=>.inl h,fun y hy=>by simp at hy,fun y h1 h2=>by rw[h1]at h2;cases h2⟩
   ·obtain⟨i1,i2,i3,i4,i5⟩:=hI
    show rC (dm _ m1 l (l.length:Int) m1 (i:Int) t) _
    unfold dm jz
    rw[vax (by simpa using h),cE _ _ h]
    simp only[vab]
    rw[SI _ _ hlen]
    simp only[vab]
    have hcond:(if(fk m1 l[i]).2=true then some (!((yK t l[i]).getD false))else some false)=some ((fk m1 l[i]).2&&!jV t l[i]):=by
     cases(fk m1 l[i]).2<;>rfl
    rw[hcond]
    simp only[vab]
    have htake:∀t',(∀y,jV t y=true->jV t' y=true)->((fk m1 l[i]).2=true->jV t' l[i]=true)->∀y∈l.take (i+1),(fk m1 y).2=true->jV t' y=true:=fun t' ht hx y hy hyk=>by
     rw[vaq h]at hy
     rcases vaw.1 hy with hy|hy
     ·exact ht y (i4 y hy hyk)
     ·rw[vaX.1 hy]at hyk ⊢;exact hx hyk
    refine DE (fun hc=>?_) (fun hc=>bP ⟨t,rfl,i1,i2,i3,htake t (fun _ h=>h) (fun hk2=>?_),i5⟩)
    ·simp only[vad,vaT]at hc
     obtain⟨hk2,hnot⟩:=hc
     rw[Mg _ _ (by simp)]
     simp only[vab]
     have hput:=i1.put hk2 hnot
     have hlt:AU m1 (qw t [l[i]])<AU m1 s:=vaA (UZ hk2 hnot) (WE i2)
     refine dE (ih (l[i],m1,qw t [l[i]],m1) hlt ⟨rfl,rfl,hput⟩) (fun u hu=>bP ⟨u,rfl,?_⟩)
     obtain⟨u1,u2,u3,u4,u5⟩:=hu
     have hmem:∀y,jV (qw t [l[i]]) y=true↔y=l[i]\/jV t y=true:=fun y=>by rw[Cp];simp
     have hx1:l[i]∈yQ m1 x:=by rw[hsx];exact vaJ.2 ⟨vaN h,hk2⟩
     have ht2:∀y,jV t y=true->jV u y=true:=fun y hy=>u2 y ((hmem y).2 (.inr hy))
     refine⟨u1,fun y hy=>ht2 y (i2 y hy),fun y hy=>?_,htake u ht2 (fun _=>u2 _ ((hmem _).2 (.inl rfl))),fun y hy hys z hz=>?_⟩
     ·rcases u3 y hy with hy|hy
      ·rcases(hmem y).1 hy with rfl|hy
       ·exact .inr (.one hx1)
       ·exact i3 y hy
      ·exact .inr (.step hx1 hy)
     ·cases hya:jV (qw t [l[i]]) y with
      |false=>exact u5 y hy hya z hz
      | true =>
       rcases(hmem y).1 hya with rfl|hya
       ·exact u4 z hz
       ·exact ht2 z (i5 y hya hys z hz)
    ·cases hh:jV t l[i]with
     |true=>rfl
     |false=>rw[hk2,hh]at hc;exact absurd rfl hc
   ·obtain⟨i1,i2,i3,i4,i5⟩:=hI
    show rC (dm _ m1 l (l.length:Int) m1 (l.length:Int) t) _
    unfold dm
    rw[vaz (by simp)]
    rw[vaP]at i4
    refine bP ⟨i1,i2,i3,fun y hy=>?_,i5⟩
    rw[hsx]at hy
    exact i4 y (vaJ.1 hy).1 (vaJ.1 hy).2
 ·have h1:AU m s<=30:=by
   unfold AU
   have h2:=vby (fun x=>!jV s x) (m.Defs.map (·.Name))
   have h3:=hm.1
   rw[vba]at h2
   omega
  exact Co (by unfold sw;show AU m s<=_;omega)
theorem PL{m:aE}(hm:Ys m)(x:ae):∃L,nG m x=some (zr L)/\(∀y,y∈L↔On m x y)/\L.length<=30:=by
 obtain⟨t,ht,⟨L,rfl,hn,hk⟩,h2,h3,h4,h5⟩:=Ue hm x [] ⟨[],rfl,by simp,by simp⟩
 have h0:∀y,jV ([]:List (ae×Bool)) y=false:=fun y=>rfl
 have hlen:L.length<=30:=vaB (Dv hn hk) hm.1
 refine⟨L,?_,fun y=>⟨fun hy=>?_,fun hy=>?_⟩,hlen⟩
 ·unfold nG
  rw[TB]
  simp only[vab]
  rw[ht]
  simp only[vab]
  rw[T8 _ (by omega)]
  rfl
 ·rcases h3 y ((Cq L y).2 hy)with h|h
  ·cases h
  ·exact h
 ·exact L7 (fun a ha z hz=>(Cq L z).1 (h5 a ((Cq L a).2 ha) rfl z hz)) (fun z hz=>(Cq L z).1 (h4 z hz)) hy
theorem CI{l:List ae}(s:ae)(h:l.length<=1073741824):qn l s=some (l.any fun k=>k==s):=by
 unfold qn
 rw[IJ _ _ (by omega)]
 simp only[vab,vA]
theorem Km{l:List ae}{s:ae}:(l.any fun k=>k==s)=true↔s∈l:=by simp
theorem QE{l:List ae}(s:ae)(h:l.length<=1073741824):ka l s=some (I5 l s):=Et _ _ (by omega)
theorem Jh{m:aE}(hm:Ys m)(x:ae):rC (wk m x) fun l=>l.Nodup/\(∀y,y∈l↔y∈yQ m x):=by
 have hlen:m.Defs.length<9223372036854775808:=by have:=hm.1;omega
 unfold wk
 rw[SN _ _ hlen]
 simp only[vab]
 refine DE (fun hk=>bP ⟨by simp,fun y=>?_⟩) (fun hk=>?_)
 ·have hk':¬(fk m x).2=true:=by simpa using hk
  unfold yQ
  rw[vaz hk']
 ·have hk':(fk m x).2=true:=by simpa using hk
  obtain⟨hb,hp⟩:=hm.2 _ (HQ hk')
  have hl:=lF true (uh [] (fk m x).1.Body)
  have ho:=zm [] (fk m x).1.Body
  have hs:∀y,y∈yQ m x↔y∈jr true (uh [] (fk m x).1.Body)/\Ii (fk m x).1 y=false/\(fk m y).2=true:=fun y=>by
   unfold yQ Rr
   rw[vax hk',vaJ,vaJ]
   simp only[vaT,and_assoc]
  rw[TV _ (by unfold sw;omega)]
  simp only[vab]
  generalize hv:jr true (uh [] (fk m x).1.Body)=v at hl hs
  generalize (fk m x).1=d at *
  refine dE (R:=fun l=>l.Nodup/\(∀y,y∈l↔y∈yQ m x)) ?_ (fun l hl=>bP hl)
  unfold yD
  refine zJ v (by omega) (fun i (out:List ae)=>(out,i)) (fun i out=>out.length<=i/\out.Nodup/\∀y,y∈out↔y∈v.take i/\Ii d y=false/\(fk m y).2=true) (fun i h out hI=>?_) (fun out hI=>?_) [] ⟨by simp,by simp,fun y=>by simp⟩
  ·obtain⟨i0,i1,i2⟩:=hI
   show rC (jI m v d.Params out (i:Int)) _
   unfold jI yC
   rw[vax (by simpa using h),cE _ _ h]
   simp only[vab]
   rw[SN _ _ hlen]
   simp only[vab]
   have hJ:tj out v (i:Int) (fk m v[i]).2 d.Params=some ((fk m v[i]).2&&(!Ii d v[i]&&!(out.any fun k=>k==v[i]))):=by
    unfold tj
    rw[cE _ _ h]
    simp only[vab]
    rw[CI _ (by omega),CI _ (by omega)]
    simp only[vab,V9]
    rfl
   rw[hJ]
   simp only[vab]
   have htk:∀y,y∈v.take (i+1)↔y∈v.take i\/y=v[i]:=fun y=>by rw[vaq h,vaw,vaX]
   by_cases hc:((fk m v[i]).2&&(!Ii d v[i]&&!(out.any fun k=>k==v[i])))=true
   ·rw [vax hc]
    simp only[vad,vaT]at hc
    obtain⟨c1,c2,c3⟩:=hc
    have c3':v[i]∉out:=fun hx=>by rw[Km.2 hx]at c3;cases c3
    rw[iJ (by simp only[List.length_singleton];omega)]
    simp only[vab]
    refine bP ⟨out++[v[i]],rfl,by simp;omega,?_,fun y=>?_⟩
    ·rw[vbz]
     exact⟨i1,by simp,fun a ha b hb hab=>by simp at hb;subst hb;subst hab;exact c3' ha⟩
    ·rw[vaw,vaX,i2,htk]
     constructor
     ·rintro(⟨a,b⟩|rfl)
      ·exact⟨.inl a,b⟩
      ·exact⟨.inr rfl,c2,c1⟩
     ·rintro⟨a|rfl,b⟩
      ·exact .inl ⟨a,b⟩
      ·exact .inr rfl
   ·rw [vaz hc]
    refine bP ⟨out,rfl,by omega,i1,fun y=>?_⟩
    rw[i2,htk]
    constructor
    ·rintro⟨a,b⟩;exact⟨.inl a,b⟩
    ·rintro⟨a|rfl,b1,b2⟩
     ·exact⟨a,b1,b2⟩
     ·refine⟨?_,b1,b2⟩
      rw[b1,b2]at hc
      have h3:(out.any fun k=>k==v[i])=true:=by
       cases h4:out.any fun k=>k==v[i]with
       |true=>rfl
       |false=>rw[h4]at hc;exact absurd rfl hc
      exact((i2 _).1 (Km.1 h3)).1
  ·obtain⟨i0,i1,i2⟩:=hI
   show rC (jI m v d.Params out (v.length:Int)) _
   unfold jI
   rw[vaz (by simp)]
   rw[vaP]at i2
   exact bP ⟨i1,fun y=>by rw[i2,hs]⟩
theorem N0{m:aE}(hm:Ys m)(x:ae){L:List ae}(hL:∀y,y∈L↔On m x y):sn m x=some (zr L):=by
 have key:rC (sn m x) fun r=>r=zr L:=by
  unfold sn
  refine dE (Jh hm x) (fun l0 hl0=>?_)
  obtain⟨n0,m0⟩:=hl0
  have suc:∀{y z:ae},z∈yQ m y->(fk m z).2=true:=fun h=>(On.one h).known
  have hD:=hm.1
  refine dE (R:=fun(out:List ae)=>out.length<=30/\∀y,y∈out↔On m x y) ?_ (fun out hout=>?_)
  ·unfold zX
   refine VI (fun zz:List ae×Int=>∃i:Nat,zz.2=(i:Int)/\i<=zz.1.length/\zz.1.Nodup/\(∀y∈zz.1,On m x y)/\(∀y∈yQ m x,y∈zz.1)/\∀y∈zz.1.take i,∀z∈yQ m y,z∈zz.1) (fun zz=>40 - zz.2.toNat) (fun zz hI=>?_) (l0,0) ⟨0,rfl,by simp,n0,fun y hy=>.one ((m0 y).1 hy),fun y hy=>(m0 y).2 hy,fun y hy=>by simp at hy⟩
   obtain⟨out,k⟩:=zz
   obtain⟨i,rfl,i1,i2,i3,i4,i5⟩:=hI
   simp only at i1 i2 i3 i4 i5
   have hlen:out.length<=m.Defs.length:=Dv i2 fun y hy=>(i3 y hy).known
   show rC (ql m out (i:Int)) _
   unfold ql
   by_cases h:i<out.length
   ·rw [vax (by simpa using h),cE _ _ h]
    simp only[vab]
    refine dE (Jh hm out[i]) (fun v hv=>?_)
    obtain⟨nv,mv⟩:=hv
    have hvl:v.length<=m.Defs.length:=Dv nv fun y hy=>suc ((mv y).1 hy)
    refine dE (R:=fun(o:List ae)=>(∃r,o=out++r)/\o.Nodup/\(∀y∈o,On m x y)/\∀y∈v,y∈o) ?_ (fun o ho=>?_)
    ·unfold zY
     refine zJ v (by omega) (fun i (o:List ae)=>(o,i)) (fun i o=>(∃r,o=out++r)/\o.Nodup/\(∀y∈o,On m x y)/\∀y∈v.take i,y∈o) (fun j hj o hI=>?_) (fun o hI=>?_) out ⟨⟨[],by simp⟩,i2,i3,fun y hy=>by simp at hy⟩
     ·obtain⟨⟨r,j1⟩,j2,j3,j4⟩:=hI
      have hol:o.length<=m.Defs.length:=Dv j2 fun y hy=>(j3 y hy).known
      show rC (kq v o (j:Int)) _
      unfold kq zW
      rw[vax (by simpa using hj),cE _ _ hj]
      simp only[vab]
      rw[CI _ (by omega)]
      simp only[vab]
      have htk:∀y,y∈v.take (j+1)↔y∈v.take j\/y=v[j]:=fun y=>by rw[vaq hj,vaw,vaX]
      cases hc:o.any fun k=>k==v[j]with
      | true =>
       rw[vaz (by simp)]
       refine bP ⟨o,rfl,⟨r,j1⟩,j2,j3,fun y hy=>?_⟩
       rcases(htk y).1 hy with hy|rfl
       ·exact j4 y hy
       ·exact Km.1 hc
      | false =>
       have hc':v[j]∉o:=fun hx=>by rw[Km.2 hx]at hc;cases hc
       rw[vax (by simp),iJ (by simp only[List.length_singleton];omega)]
       simp only[vab]
       refine bP ⟨o++[v[j]],rfl,⟨r++[v[j]],by rw[j1,vbv]⟩,?_,fun y hy=>?_,fun y hy=>?_⟩
       ·rw[vbz]
        exact⟨j2,by simp,fun a ha b hb hab=>by simp at hb;subst hb;subst hab;exact hc' ha⟩
       ·rcases vaw.1 hy with hy|hy
        ·exact j3 y hy
        ·rw[vaX.1 hy]
         exact(i3 _ (vaN h)).trans (.one ((mv _).1 (vaN hj)))
       ·rcases(htk y).1 hy with hy|rfl
        ·exact vaw.2 (.inl (j4 y hy))
        ·simp
     ·obtain⟨j1,j2,j3,j4⟩:=hI
      show rC (kq v o (v.length:Int)) _
      unfold kq
      rw[vaz (by simp)]
      rw[vaP]at j4
      exact bP ⟨j1,j2,j3,j4⟩
    ·obtain⟨⟨r,rfl⟩,o2,o3,o4⟩:=ho
     refine bP ⟨⟨i+1,?_,?_,o2,o3,fun y hy=>vaw.2 (.inl (i4 y hy)),fun y hy z hz=>?_⟩,?_⟩
     ·show bB ((i:Int)+1)=_
      rw[cH (by omega) (by omega)];rfl
     ·show i+1<=(out++r).length
      rw[vav];omega
     ·change y∈(out++r).take (i+1)at hy
      rw[List.take_append_of_le_length (by omega),vaq h]at hy
      rcases vaw.1 hy with hy|hy
      ·exact vaw.2 (.inl (i5 y hy z hz))
      ·rw[vaX.1 hy]at hz
       exact o4 z ((mv z).2 hz)
     ·show 40 - (bB ((i:Int)+1)).toNat<40 - ((i:Int)).toNat
      rw[cH (by omega) (by omega)]
      omega
   ·have he:i=out.length:=by omega
    subst he
    rw[vaz (by simp)]
    rw[vaP]at i5
    exact bP ⟨by omega,fun y=>⟨i3 y,fun hy=>L7 i5 i4 hy⟩⟩
  ·obtain⟨o1,o2⟩:=hout
   rw[N9 _ _ (by omega) (by simp),<-X7]
   simp only[vab]
   exact bP (Tq fun y=>by rw[o2,hL])
 obtain⟨r,hr,rfl⟩:=key
 exact hr
def J8(n:Int)(d:cp):Int:=if(d.Mode !=1)=true then bB (n+((eu d.Body).length:Int))else n
theorem Q2{l:List cp}(hl:l.length<=1073741824)(hn:∀d∈l,nE d.Body<=sw)(n:Int):mi l n=some (l.foldl J8 n):=by
 unfold mi sN
 have:=Fe l (by omega) (fun i (s:Int)=>(i,s)) (fun(zz:Int×Int)=>jc l (l.length:Int) zz.1 zz.2) (fun i s x=>if(x.Mode !=1)=true then(lu x.Body).bind fun r5=>some (.inl (bB (i+1),bB (s+r5)))else some (.inl (bB (i+1),s))) (fun _ _=>True) (fun x s=>J8 s x) id n trivial (fun i s=>?_) (fun i h s _=>⟨?_,trivial⟩)
 ·rw[this];rfl
 ·show jc l (l.length:Int) i s=_
  unfold jc
  rfl
 ·unfold J8
  split
  ·rw[Uq _ (hn _ (vaN h))];rfl
  ·rfl
theorem R7(l:List iy)(n:Int):l.foldl (fun s x=>x.Defs.foldl J8 s) n=(l.flatMap (·.Defs)).foldl J8 n:=by
 induction l generalizing n with
 |nil=>rfl
 |cons x l ih=>rw[List.foldl_cons,ih,vcH,vbS]
def qbk(m:aE):Prop:=m.Defs.length<=30/\m.Instances.length<=30/\(∀x∈m.Instances,x.Defs.length<=30)/\(∀d∈m.Defs,nE d.Body<=sw)/\∀x∈m.Instances,∀d∈x.Defs,nE d.Body<=sw
theorem Vk{m:aE}(h:qbk m):yh m=some ((m.Defs++m.Instances.flatMap (·.Defs)).foldl J8 0):=by
 obtain⟨h1,h2,h3,h4,h5⟩:=h
 unfold yh wR
 rw[Q2 (by omega) h4]
 simp only[vab]
 have:=Fe m.Instances (by omega) (fun i (s:Int)=>(i,s)) (fun(zz:Int×Int)=>kK m.Instances (m.Instances.length:Int) zz.1 zz.2) (fun i s x=>(mi x.Defs s).bind fun r4=>some (.inl (bB (i+1),r4))) (fun _ _=>True) (fun x s=>x.Defs.foldl J8 s) id (m.Defs.foldl J8 0) trivial (fun i s=>?_) (fun i h s _=>⟨?_,trivial⟩)
 ·rw[this,vbS,<-R7];rfl
 ·show kK m.Instances (m.Instances.length:Int) i s=_
  unfold kK
  rfl
 ·have hm:=vaN h
  have:=h3 _ hm
  rw[Q2 (by omega) (h5 _ hm)];rfl
theorem VA{m:aE}(h:qbk m):BV m=some ((m.Defs++m.Instances.flatMap (·.Defs)).foldl J8 0):=by
 obtain⟨h1,h2,h3,h4,h5⟩:=h
 have key:rC (BV m) fun r=>r=(m.Defs++m.Instances.flatMap (·.Defs)).foldl J8 0:=by
  unfold BV
  rw[iJ (by simp;omega)]
  simp only[vab,vaL]
  refine dE (R:=fun v=>v=m.Defs++m.Instances.flatMap (·.Defs)/\v.length<=930) ?_ (fun v hv=>?_)
  ·unfold BW
   refine zJ m.Instances (by omega) (fun i (v:List cp)=>(v,i)) (fun i v=>v=m.Defs++(m.Instances.take i).flatMap (·.Defs)/\v.length<=30+30 * i) (fun i h v hI=>?_) (fun v hI=>?_) m.Defs ⟨by simp,by omega⟩
   ·obtain⟨rfl,hl⟩:=hI
    have:=h3 _ (vaN h)
    show rC (mg m _ (i:Int)) _
    unfold mg
    rw[vax (by simpa using h),cE _ _ h]
    simp only[vab]
    rw[iJ (by omega)]
    refine bP ⟨_,rfl,?_,?_⟩
    ·rw[vaq h,vcB];simp
    ·rw[vav];omega
   ·obtain⟨rfl,hl⟩:=hI
    show rC (mg m _ (m.Instances.length:Int)) _
    unfold mg
    rw[vaz (by simp)]
    exact bP ⟨by rw[vaP],vaB hl (by omega)⟩
  ·obtain⟨hv,hl⟩:=hv
   have hn:∀d∈v,nE d.Body<=sw:=fun d hd=>by
    rw[hv]at hd
    rcases vaw.1 hd with hd|hd
    ·exact h4 d hd
    ·obtain⟨x,hx,hd⟩:=List.mem_flatMap.1 hd
     exact h5 x hx d hd
   rw[<-hv]
   refine Yg ?_ rfl
   unfold BX
   have:=Fe v (by omega) (fun i (s:Int)=>(s,i)) (fun(zz:Int×Int)=>oB v zz.1 zz.2) (fun i s x=>(tD s v i).bind fun o13=>some (.inl (o13,bB (i+1)))) (fun _ _=>True) (fun x s=>J8 s x) id 0 trivial (fun i s=>?_) (fun i h s _=>⟨?_,trivial⟩)
   ·rw[this];rfl
   ·show oB v s i=_
    unfold oB
    by_cases hi:decide (i<(v.length:Int))=true
    ·rw[vax hi,vax hi]
     unfold tD
     cases hx:eT v i<;>rfl
    ·rw[vaz hi,vaz hi];rfl
   ·unfold tD J8
    rw[cE _ _ h]
    simp only[vab]
    split
    ·rw[TX _ (hn _ (vaN h))];rfl
    ·rfl
 obtain⟨r,hr,rfl⟩:=key
 exact hr
theorem Ky(d:cp):jM (ac d.Body)+cN (d.Params.map cS)+d.Name.length<=jM (aX d):=by
 unfold aX
 rw[sJ,sJ]
 simp only[jM,pm,sl]
 omega
theorem QJ(m:aE):cN (m.Defs.map aX)+cN (m.Instances.map cC)+cN (m.Datas.map nu)<=jM (ay m):=by
 rw[E8]
 simp only[jM,pm,sl]
 omega
theorem Po{m:aE}{d:cp}(h:d∈m.Defs):jM (aX d)<=jM (ay m):=by
 have:=GQ aX h
 have:=QJ m
 omega
theorem QK{m:aE}{x:iy}{d:cp}(h:x∈m.Instances)(hd:d∈x.Defs):jM (aX d)<=jM (ay m):=by
 have h1:=GQ cC h
 have h2:=QJ m
 have h3:=GQ aX hd
 have h4:cN (x.Defs.map aX)<=jM (cC x):=by
  unfold cC
  rw[sJ,sJ]
  simp only[jM,pm,sl]
  omega
 omega
theorem Ww(m:aE)(hm:jM (ay m)<=Gt):rC (Kl m) (fun b=>b=true->m.Datas.length<=30/\m.Instances.length<=30/\m.Defs.length<=30/\(∀x∈m.Instances,x.Defs.length<=30)/\∀d∈m.Datas,d.Cons.length<=30):=by
 have hB:jM (ay m)<=4000000:=hm
 unfold Kl EY
 simp only[qbK,vab]
 refine DE (fun _=>bP (fun h=>by cases h)) (fun h0=>?_)
 simp only[va4,not_or,vai]at h0
 obtain⟨hd,hi,hf⟩:=h0
 rw[iJ (by simp;omega)]
 simp only[vab,vaL]
 refine dE (R:=fun o=>match o with|.inl _=>True|.inr v=>v.length<=930/\(∀d∈v,jM (aX d)<=jM (ay m))/\∀x∈m.Instances,x.Defs.length<=30) ?_ (fun o ho=>?_)
 ·unfold EZ
  refine zJ m.Instances (by omega) (fun i v=>(v,i)) (fun i (v:List cp)=>v.length<=30+30 * i/\(∀d∈v,jM (aX d)<=jM (ay m))/\∀x∈m.Instances.take i,x.Defs.length<=30) (fun i h v hv=>?_) (fun v hv=>?_) m.Defs ⟨by omega,fun d hd=>Po hd,fun x hx=>by simp at hx⟩
  ·obtain⟨v1,v2,v3⟩:=hv
   have hmem:m.Instances[i]∈m.Instances:=vaN h
   show rC (np m v (i:Int)) _
   unfold np
   rw[vax (by simpa using h),cE _ _ h]
   simp only[vab]
   refine DE (fun _=>bP trivial) (fun h30=>?_)
   simp only[vai]at h30
   rw[iJ (by omega)]
   refine bP ⟨v++m.Instances[i].Defs,rfl,by rw[vav];omega,fun d hd=>?_,fun x hx=>?_⟩
   ·rcases vaw.1 hd with hd|hd
    ·exact v2 d hd
    ·exact QK hmem hd
   ·rw[vaq h]at hx
    rcases vaw.1 hx with hx|hx
    ·exact v3 x hx
    ·rw[vaX.1 hx];omega
  ·show rC (np m v (m.Instances.length:Int)) _
   unfold np
   rw[vaz (by simp)]
   obtain⟨v1,v2,v3⟩:=hv
   rw[vaP]at v3
   exact bP ⟨by omega,v2,v3⟩
 ·cases o with
  |inl _=>exact bP (fun h=>by cases h)
  | inr v =>
   obtain⟨v1,v2,v3⟩:=ho
   refine dE (R:=fun _=>True) ?_ (fun n _=>?_)
   ·unfold E0
    refine(AQ v (by omega) 2000 (fun i n=>0<=n/\n<=2000+8000000) (fun i h n hI hn=>?_) (fun i n _ h=>?_) 0 ⟨by omega,by omega⟩).mono (fun _ _=>trivial)
    ·have hv:=v2 _ (vaN h)
     have hp:=Ky v[i]
     have hl:=Qm v[i].Params
     show rC (nq v n (i:Int)) _
     unfold nq Ag
     rw[E5 h hn]
     simp only[vab,if_true]
     rw[cE _ _ h]
     simp only[vab]
     refine dE (YX v[i].Body 2000 (by unfold Gt;omega) (by omega) (by omega)) (fun r hr=>?_)
     rw[cH (n:=n+_) (by omega) (by omega),cH (n:=n+_+_) (by omega) (by omega)]
     exact bP ⟨_,rfl,by omega,by omega⟩
    ·show nq v n (i:Int)=_
     unfold nq Ag
     rw[An h]
     rfl
   ·refine dE (R:=fun o=>match o with|.inl _=>True|.inr _=>∀d∈m.Datas,d.Cons.length<=30) ?_ (fun o ho=>?_)
    ·unfold E1
     refine(Sa m.Datas.length (by omega) (fun i=>∀(h:i<m.Datas.length),m.Datas[i].Cons.length<=30) (fun _=>True) (fun i h=>?_) ?_).mono (fun r hr=>?_)
     ·unfold vo
      rw[vax (by simpa using h),cE _ _ h]
      simp only[vab]
      refine DE (fun _=>bP trivial) (fun h30=>bP ⟨rfl,fun _=>?_⟩)
      simp only[vai]at h30
      omega
     ·unfold vo
      rw[vaz (by simp)]
     ·cases r with
      |inl _=>trivial
      |inr _=>
       intro d hd
       obtain⟨i,h,rfl⟩:=vcx.1 hd
       exact hr i h h
    ·cases o with
     |inl _=>exact bP (fun h=>by cases h)
     |inr _=>exact bP (fun _=>⟨by omega,by omega,by omega,v3,ho⟩)
set_option maxRecDepth 100000
theorem Rg:Dh=some true:=by kernel_rfl
theorem X1(m:aE)(hm:jM (ay m)<=1048576)(h:m.Defs.length<=30):Ys m:=by
 refine⟨h,fun d hd=>?_⟩
 have h1:=Po hd
 have h2:=Ky d
 have h3:=Qm d.Params
 have h4:=Qv d.Body
 exact⟨by omega,by omega⟩
theorem X2(m:aE)(hm:jM (ay m)<=1048576)(h:m.Defs.length<=30)(h2:m.Instances.length<=30)(h3:∀x∈m.Instances,x.Defs.length<=30):qbk m:=by
 refine⟨h,h2,h3,fun d hd=>?_,fun x hx d hd=>?_⟩
 ·have h1:=Po hd
  have h2:=Ky d
  have h4:=Qv d.Body
  show nE d.Body<=1073741824
  omega
 ·have h1:=QK hx hd
  have h2:=Ky d
  have h4:=Qv d.Body
  show nE d.Body<=1073741824
  omega
theorem Pn(x0:aE)(x1 x2:ae)(h:jM (ay x0)+(pm (.str x1)+(pm (.str x2)+0))<=1048576):qv x0 x1 x2=some true:=by
 have hm:jM (ay x0)<=1048576:=by omega
 obtain⟨b,hb,hfew⟩:=Ww x0 (by unfold Gt;omega)
 unfold qv mZ
 rw[hb,Rg]
 simp only[vab]
 cases b with
 |false=>simp
 | true =>
  obtain⟨f1,f2,f3,f4,f5⟩:=hfew rfl
  have hok:=X1 x0 hm f3
  have hS:=X2 x0 hm f3 f2 f4
  obtain⟨L1,e1,m1,l1⟩:=PL hok x1
  obtain⟨L2,e2,m2,l2⟩:=PL hok x2
  have r1:=N0 hok x1 m1
  have r2:=N0 hok x2 m2
  have k1:(zr L1).length<=1073741824:=by have:=Q0 L1;omega
  have k2:(zr L2).length<=1073741824:=by have:=Q0 L2;omega
  have ht:pu x0 x1 x2=some (((zr L1).any fun k=>k==x2)&&((zr L2).any fun k=>k==x1)):=by
   unfold pu
   rw[e1,e2]
   simp only[vab]
   rw[QE _ k1,QE _ k2]
   simp only[vab,vA]
   cases(zr L1).any fun k=>k==x2<;>rfl
  have hr:uW x0 x1 x2=some (((zr L1).any fun k=>k==x2)&&((zr L2).any fun k=>k==x1)):=by
   unfold uW
   rw[r1,r2]
   simp only[vab]
   rw[CI _ k1,CI _ k2]
   simp only[vab]
   cases(zr L1).any fun k=>k==x2<;>rfl
  simp only[Bool.not_true,vbr,if_false]
  by_cases hl:decide ((x1.length:Int)>100)=true
  ·simp[hl]
  ·simp only[hl,vbr,if_false,vab]
   by_cases hl2:decide ((x2.length:Int)>100)=true
   ·simp[hl2]
   ·simp only[hl2,vbr,if_false,vab]
    rw[Vk hS,VA hS,e1,r1,ht,hr]
    simp only[vab,beq_self_eq_true,if_true]
    rw[TW k1]
    simp only[vab,decide_true,if_true]
end Go.Proofs.YtkdahfeiedaahaaGreatDoor
