/- PROVED: a part of the proof. Conditions: none. -/
import Derived.Test.YtibglelmlnfojaaGreatDoorpt9
import Derived.Test.YtibglelmlnfojaaGreatDoorpt19
import Derived.Test.YtibglelmlnfojaaGreatDoorpt8
import Derived.Test.YtibglelmlnfojaaGreatDoorpt13
import Derived.Test.YtibglelmlnfojaaGreatDoorpt10
set_option linter.unusedSimpArgs false
set_option linter.unusedVariables false
noncomputable section
namespace Go.Proofs.YtibglelmlnfojaaGreatDoor
open Go
set_option linter.unusedVariables false
section
variable{α β σ τ X Y:Type}
theorem SX(l:List α)(hl:l.length<9223372036854775808)(mk:Int->τ)(body:τ->Option (τ⊕X))(p:α->Bool)(y:Nat->X)(e:X)
  (hin:∀(i:Nat) (h:i<l.length),body (mk (i:Int))=some (if p l[i]=true then .inr (y i)else .inl (mk (dt ((i:Int)+1))))) (hend:body (mk l.length)=some (.inr e)):loop body (mk 0)=some ((l.findIdx? p).elim e y):=by
 have key:∀k i,k+i=l.length->loop body (mk (i:Int))=some (((l.drop i).findIdx? p).elim e (λj=>y (i+j))):=by
  intro k
  induction k with
  |zero=>
   intro i hi
   have:i=l.length:=by omega
   subst this
   rw[ke,hend,vbN]
   rfl
  | succ k ih =>
   intro i hi
   rw[ke,hin i (by omega),vaH (by omega),vc1]
   by_cases h:p l[i]=true
   ·simp[h]
   ·simp only[h,if_false,vaq]
    rw[cC (by omega) (by omega),show((i:Int)+1)=((i+1:Nat):Int) by omega,ih (i+1) (by omega)]
    cases(l.drop (i+1)).findIdx? p with
    |none=>rfl
    |some j=>simp only[vaj,Option.elim];congr 2;omega
 have:=key l.length 0 (by omega)
 rw[vbi]at this
 simpa using this
theorem lX{A:Type}(l:List α)(hl:l.length<9223372036854775808){body:Int->Option (Int⊕(A⊕Unit))}(k:Int->α->Option (Int⊕(A⊕Unit)))(P:α->Prop)(B:A->Prop)
  (hb:∀(i:Int),body i=if decide (i<(l.length:Int))=true then(cX l i).bind (k i)else some (.inr (.inr ())))
  (hk:∀x∈l,∀i,jb (k i x) (λr=>r.elim (λt=>t=dt (i+1)/\P x) (λy=>y.elim B (λ_=>False)))):jb (loop body 0) (λr=>r.elim B (λ_=>∀x∈l,P x)):=by
 refine qdu l hl k (.inr ()) (λi=>∀j (h:j<l.length),j<i->P l[j]) hb (λi hi hI=>(hk _ (vag hi) i).mono λr hr=>?_) (λhI x hx=>?_) (λj _ h=>absurd h (va3 _))
 ·cases r with
  | inl t =>
   refine⟨hr.1,λj hj h=>?_⟩
   by_cases he:j=i
   ·subst he;exact hr.2
   ·exact hI j hj (by omega)
  |inr y=>cases y with
   |inl a=>exact hr
   |inr u=>exact hr.elim
 ·obtain⟨j,hj,rfl⟩:=vcU hx
  exact hI j hj hj
end
set_option linter.unusedSimpArgs false
theorem Zw{X:Type}(n:Nat)(hn:n<9223372036854775808){body:Int->Option (Int⊕X)}(k:Int->Option (Int⊕X))(e:X)(hb:∀i:Int,body i=if decide (i<(n:Int))=true then k i else some (.inr e))
  (hk:∀i:Nat,i<n->jb (k (i:Int)) (λr=>match r with|.inl t=>t=dt ((i:Int)+1)|.inr _=>True)):jb (loop body 0) (λ_=>True):=by
 have e1:(List.replicate n ()).length=n:=List.length_replicate
 refine I1 (List.replicate n ()) (by omega) (λi (_:Unit)=>i) (λ_ _=>True) (λi hi s _=>?_) (λs _=>?_) () trivial
 ·rw[e1]at hi
  rw[hb,vad (vaI (by omega))]
  exact(hk i hi).mono λr hr=>by
   cases r with
   |inl t=>exact⟨(),hr,vzz⟩
   |inr _=>trivial
 ·rw[hb,vab (by rw[e1];simp)]
  exact am vzz
theorem y4(c:Int):jb (ko c) (λ_=>True):=by unfold ko;exact aP (λ_=>am vzz) (λ_=>am vzz)
theorem IC(c:Int):jb (nT c) (λ_=>True):=by unfold nT;exact aP (λ_=>am vzz) (λ_=>am vzz)
theorem HB(c:Int):jb (kQ c) (λ_=>True):=by unfold kQ;exact aP (λ_=>am vzz) (λ_=>am vzz)
theorem jD{s:ae}{i:Nat}(h:i<s.length):jb (jC s (i:Int)) (λ_=>True):=qaJ (nr s i h) trivial
theorem Da{s:ae}(h:0<s.length):jb (jC s 0) (λ_=>True):=jD (i:=0) h
theorem YO(s:ae):jb (qB s) (λ_=>True):=by
 unfold qB
 exact aH (R:=λl=>l.length<9223372036854775808) ⟨_,rfl,by decide⟩ (λl hl=>er (GP l s hl) (am vzz))
theorem ZS{s:ae}{i:Nat}(h:i<s.length):jb (kZ s i) (λ_=>True):=by
 unfold kZ
 exact aH (jD h) λ_ _=>aH (y4 _) λ_ _=>aP (λ_=>aH (jD h) λ_ _=>aH (IC _) λ_ _=>aP (λ_=>aH (jD h) λ_ _=>am vzz) λ_=>am vzz) λ_=>am vzz
theorem qbZ(s:ae):jb (yP s) (λ_=>True):=by
 unfold yP
 refine aH (R:=λo=>o=true\/s.length<=24) ?_ λo ho=>aP (λ_=>am vzz) λhn=>?_
 ·unfold rh
  refine aP (λ_=>am (.inl rfl)) λh1=>aP (λ_=>am (.inl rfl)) λh2=>?_
  rw[vat]at h1 h2
  exact aH (Da (by omega)) λ_ _=>aH (y4 _) λ_ _=>aP (λ_=>am (.inl rfl)) λ_=>aH (YO s) λ_ _=>am (.inr (by omega))
 ·have hs:s.length<=24:=ho.resolve_left hn
  unfold ri
  refine aH (Zw s.length (by omega) (λi=>(kZ s i).bind λo=>if o=true then some (.inr (.inl ()))else some (.inl (dt (i+1)))) (.inr ()) (λi=>rfl) λi hi=>aH (ZS hi) λ_ _=>aP (λ_=>am vzz) λ_=>am rfl) λo _=>?_
  cases o<;>exact am vzz
theorem qaI{s:ae}{i:Nat}(h:i<s.length):jb (lb s i) (λ_=>True):=by
 unfold lb
 exact aH (jD h) λ_ _=>aH (y4 _) λ_ _=>aP (λ_=>aH (jD h) λ_ _=>aH (HB _) λ_ _=>aP (λ_=>aH (jD h) λ_ _=>aH (IC _) λ_ _=>am vzz) λ_=>am vzz) λ_=>am vzz
theorem qb2(s:ae):jb (yQ s) (λ_=>True):=by
 unfold yQ
 refine aH (R:=λo=>o=true\/s.length<=24) ?_ λo ho=>aP (λ_=>am vzz) λhn=>?_
 ·unfold rl
  refine aP (λ_=>am (.inl rfl)) λh1=>aP (λ_=>am (.inl rfl)) λh2=>?_
  rw[vat]at h1 h2
  have h3:s.length<=24:=by omega
  exact aH (Da (by omega)) λ_ _=>aH (HB _) λ_ _=>aP (λ_=>am (.inl rfl)) λ_=>aP (λ_=>am (.inl rfl)) λ_=>aP (λ_=>am (.inl rfl)) λ_=>aP (λ_=>am (.inl rfl)) λ_=>am (.inr h3)
 ·have hs:s.length<=24:=ho.resolve_left hn
  unfold rm
  refine aH (Zw s.length (by omega) (λi=>(lb s i).bind λo=>if o=true then some (.inr (.inl ()))else some (.inl (dt (i+1)))) (.inr ()) (λi=>rfl) λi hi=>aH (qaI hi) λ_ _=>aP (λ_=>am vzz) λ_=>am rfl) λo _=>?_
  cases o<;>exact am vzz
theorem qcX{s:ae}(b:Bool){i:Nat}(h:i<s.length):jb (qC s b i) (λ_=>True):=by
 unfold qC
 exact aP (λ_=>aH (jD h) λ_ _=>aH (y4 _) λ_ _=>aP (λ_=>am vzz) λ_=>aH (jD h) λ_ _=>aH (HB _) λ_ _=>aP (λ_=>am vzz) λ_=>aH (jD h) λ_ _=>aH (IC _) λ_ _=>am vzz) λ_=>am vzz
theorem qfd(s:ae):jb (CV s) (λ_=>True):=by
 unfold CV
 refine aH (R:=λo=>o=true\/(0<s.length/\s.length<=24)) ?_ λo ho=>aP (λ_=>am vzz) λhn=>?_
 ·unfold A2
  refine aP (λ_=>am (.inl rfl)) λh1=>am ?_
  rw[vat]at h1
  by_cases h2:(s.length:Int)>24
  ·exact .inl (vaI h2)
  ·exact .inr ⟨by omega,by omega⟩
 ·obtain⟨h0,hs⟩:=ho.resolve_left hn
  refine aH (Da h0) λ_ _=>aH (y4 _) λr6 _=>?_
  unfold vJ
  refine aH (R:=λ_=>True) (I1 s (by omega) (λi (z:Bool×Bool)=>(z.1,z.2,i)) (λ_ _=>True) (λi hi z _=>?_) (λz _=>?_) (true,r6) trivial) λo _=>aP (λ_=>am vzz) λ_=>am vzz
  ·show jb (gg s s.length z.1 z.2 i) _
   unfold gg
   rw[vad (vaI (by omega))]
   exact aH (qcX _ hi) λo _=>aP (λ_=>aH (jD hi) λ_ _=>aH (y4 _) λ_ _=>aP (λ_=>am ⟨(o,true),rfl,vzz⟩) λ_=>aH (jD hi) λ_ _=>aH (IC _) λ_ _=>aP (λ_=>am ⟨(o,true),rfl,vzz⟩) λ_=>aH (jD hi) λc _=>am ⟨(o,c==95),rfl,vzz⟩) λ_=>am ⟨(o,false),rfl,vzz⟩
  ·show jb (gg s s.length z.1 z.2 s.length) _
   unfold gg
   rw[vab (by simp)]
   exact am vzz
theorem Zt{α:Type}(l:List α)(a b:Nat)(h:a<=b)(h2:b<=l.length):OY l (some (a:Int)) (some (b:Int))=some ((l.take b).drop a):=by
 simp[OY,bd,h,h2]
theorem qcY(s:ae)(hs:s.length<=120):jb (yR s) (λl=>l≠[]/\l.length<=121):=by
 unfold yR xY
 refine aH (R:=λo=>o.1.length<=s.length/\∃b:Nat,o.2=(b:Int)/\b<=s.length) (I1 s (by omega) (λi (z:List ae×Int)=>(z.1,z.2,i)) (λi z=>z.1.length<=i/\∃b:Nat,z.2=(b:Int)/\b<=i) (λi hi z hz=>?_) (λz hz=>?_) ([],0) ⟨vay _,0,rfl,vay _⟩) λo ho=>?_
 ·obtain⟨out,bg⟩:=z
  obtain⟨h1,b,hb,hbi⟩:=hz
  simp only at h1 hb
  subst hb
  show jb (fe s s.length out b i) _
  unfold fe
  rw[vad (vaI (by omega))]
  refine aH (jD hi) λc _=>aP (λ_=>?_) λ_=>am ⟨(out,b),rfl,by simp only;omega,b,rfl,by omega⟩
  refine er (Zt s b i hbi (by omega)) (er (qn (by simp;omega)) (am ⟨(_,dt ((i:Int)+1)),rfl,by simp;omega,i+1,?_,vay _⟩))
  simp only
  rw[cC (by omega) (by omega)]
  omega
 ·obtain⟨out,bg⟩:=z
  show jb (fe s s.length out bg s.length) _
  unfold fe
  rw[vab (by simp)]
  exact am hz
 ·obtain⟨h1,b,hb,hbi⟩:=ho
  rw[hb]
  exact er (DH s b hbi) (er (qn (by simp;omega)) (am ⟨by simp,by simp;omega⟩))
theorem qch{v:List ae}(h:v≠[]):jb (qA v) (λ_=>True):=by
 obtain⟨x,r,rfl⟩:=List.exists_cons_of_ne_nil h
 unfold qA
 exact er (cz x r) (aH (qbZ x) λ_ _=>aP (λ_=>er (cz x r) (aH (qb2 x) λ_ _=>aP (λ_=>er (cz x r) (aP (λ_=>am vzz) λ_=>am vzz)) λ_=>am vzz)) λ_=>am vzz)
theorem qen:io []=some 3:=by kernel_rfl
theorem XS(s:ae):jb (io s) (λr=>(r==0)=true->0<s.length):=by
 by_cases hs:s=[]
 ·subst hs
  exact qaJ qen λh=>by simp at h
 have hp:0<s.length:=vbJ.2 hs
 unfold io
 refine aP (λ_=>am λ_=>hp) λh1=>?_
 rw[vat]at h1
 refine aH (qcY s (by omega)) λl hl=>aH (qch hl.1) λ_ _=>aP (λ_=>am λ_=>hp) λ_=>?_
 have h2:1<=l.length:=vbJ.2 hl.1
 refine er (DH l 1 h2) ?_
 unfold AZ
 refine aH (lX (l.drop 1) (by simp;omega) _ (λ_=>True) (λ_=>True) (λi=>rfl) (λx hx i=>aH (qfd x) λ_ _=>aP (λ_=>am vzz) λ_=>am ⟨rfl,vzz⟩)) λo _=>?_
 cases o<;>exact am λ_=>hp
theorem Ym(s:ae)(b:Bool):jb (vU s b) (λ_=>True):=by
 unfold vU
 exact aH (XS s) λr hr=>aP (λh=>aH (Da (hr h)) λ_ _=>aP (λ_=>aH (Da (hr h)) λ_ _=>am vzz) λ_=>am vzz) λ_=>am vzz
mutual
def nP:aa->Nat
 |⟨_,_,_,ks⟩=>nL ks+1
def nL:List aa->Nat
 |[]=>0
 |p::ps=>nP p+nL ps
end
theorem YW(p:aa):nP p=nL p.Kids+1:=by obtain⟨o,n,k,ks⟩:=p;rw[nP];rfl
theorem qjv(p:aa):1<=nP p:=by rw[YW];omega
theorem qe0:∀{l:List aa} {x:aa},x∈l->nP x<=nL l
 | y :: l,x,h => by
  rw[nL]
  rcases vaF.1 h with rfl|h
  ·omega
  ·have:=qe0 h;omega
theorem qak:∀(l:List aa),l.length<=nL l
 |[]=>by simp[nL]
 |p::l=>by rw[nL];have:=qak l;have:=qjv p;simp only[vaG];omega
theorem wO{p x:aa}(h:x∈p.Kids):nP x<nP p:=by rw[YW p];have:=qe0 h;omega
theorem De(p:aa):p.Kids.length<nP p:=by rw[YW];have:=qak p.Kids;omega
theorem Of:∀(a b:List aa),nL (a++b)=nL a+nL b
 |[],b=>by simp[nL]
 |p::a,b=>by rw[vaN,nL,Of a b,nL];omega
mutual
theorem S1:∀(p:aa),nP p<=fP (ac p)
 |⟨o,n,k,ks⟩=>by
  have:=qbm ks
  rw[nP,cf]
  simp only[fP,pm,sl]
  show nL ks+1<=1+(n.length+1+(1+(eu (ks.map ac)+1+0)))
  omega
theorem qbm:∀(l:List aa),nL l<=eu (l.map ac)
 |[]=>by simp[nL]
 |p::l=>by
  have:=S1 p
  have:=qbm l
  rw[nL]
  simp only[vae,eu]
  omega
end
mutual
def qqp:aa->aa->Bool
 |⟨o,n,k,ks⟩,⟨o',n',k',ks'⟩=>(o==o')&&((n==n')&&((k==k')&&qjp ks ks'))
def qjp:List aa->List aa->Bool
 |[],[]=>true
 |x::xs,y::ys=>qqp x y&&qjp xs ys
 |_,_=>false
end
mutual
theorem qa5:∀(a b:aa),qqp a b=true↔a=b
 |⟨o,n,k,ks⟩,⟨o',n',k',ks'⟩=>by
  rw[qqp]
  have:=qa4 ks ks'
  simp only[vaf,va7,this,aa.mk.injEq]
theorem qa4:∀(a b:List aa),qjp a b=true↔a=b
 |[],[]=>by simp[qjp]
 |x::xs,y::ys=>by
  rw[qjp]
  have h1:=qa5 x y
  have h2:=qa4 xs ys
  simp only[vaf,h1,h2,vbF]
 |[],y::ys=>by simp[qjp]
 |x::xs,[]=>by simp[qjp]
end
instance:DecidableEq aa:=λa b=>decidable_of_iff _ (qa5 a b)
theorem qcn(p:aa):(⟨p.Op,p.Name,p.N,p.Kids⟩:aa)=p:=by cases p;rfl
theorem DO{a b:aa}:a=b↔a.Op=b.Op/\a.Name=b.Name/\a.N=b.N/\a.Kids=b.Kids:=by
 cases a;cases b
 simp only[aa.mk.injEq]
 rfl
theorem qbY{α:Type}[DecidableEq α]:∀{a b:List α},a.length=b.length->(a.zip b).any (λx=>decide (x.1≠x.2))= !decide (a=b)
 |[],[],_=>by simp
 |x::a,y::b,h=>by
  have ih:=qbY (a:=a) (b:=b) (by simpa using h)
  rw[List.zip_cons_cons,List.any_cons,ih]
  by_cases h1:x=y<;>by_cases h2:a=b<;>simp[h1,h2]
theorem Ms{α X:Type}[DecidableEq α]{a b:List α}(hl:a.length=b.length)(ha:a.length<9223372036854775808)(body:Int->Option (Int⊕X))(y e:X)
  (hin:∀(i:Nat) (h:i<a.length) (h':i<b.length),body i=some (if decide (a[i]=b[i])=true then .inl (dt ((i:Int)+1))else .inr y)) (hend:body a.length=some (.inr e)):loop body 0=some (if decide (a=b)=true then e else y):=by
 have hz:(a.zip b).length=a.length:=by simp[hl]
 have:=nu (a.zip b) (by omega) body (λx=>decide (x.1≠x.2)) y e (λi h=>?_) (by rw[hz];exact hend) 0 (va0 _)
 ·rw[vbi,qbY hl]at this
  rw[show((0:Nat):Int)=0 from rfl]at this
  rw[this]
  by_cases h:a=b<;>simp[h]
 ·have h1:i<a.length:=by omega
  have h2:i<b.length:=by omega
  rw[hin i h1 h2]
  have hzi:(a.zip b)[i]=(a[i],b[i]):=by simp
  rw[hzi]
  by_cases h:a[i]=b[i]<;>simp[h]
abbrev cW:Nat:=1073741824
theorem lp{n:Nat}(h:n<=cW):n<ZC:=by have:=qjg;unfold cW at h;omega
theorem qex{R:aa->aa->Option Bool}{a b:List aa}(ha:a.length<=cW)(h:∀x∈a,∀y∈b,R x y=some (decide (x=y))):EK R a b=some (decide (a=b)):=by
 unfold EK
 by_cases hl:a.length=b.length
 ·rw[vab (by simp[hl])]
  unfold CD
  rw[Ms hl (by unfold cW at ha;omega) (λzz=>lO R a b (a.length:Int) zz) (.inl ()) (.inr ()) (λi h1 h2=>?_) ?_]
  ·by_cases he:a=b<;>simp[he]
  ·unfold lO
   rw[vab (by simp)]
  ·unfold lO
   rw[vad (by simp;omega),aT a i h1]
   simp only[vaa]
   rw[aT b i h2]
   simp only[vaa]
   rw[h _ (vag h1) _ (vag h2)]
   simp only[vaa]
   by_cases he:a[i]=b[i]<;>simp[he]
 ·rw[vad (by simp;omega)]
  rw[decide_eq_false (λhe=>hl (by rw[he]))]
theorem XB(a b:aa)(ha:nP a<=cW):Ds a b=some (decide (a=b)):=by
 refine uY (F:=H1) (λx=>nP x.1) (λx=>nP x.1<=cW) (λx=>decide (x.1=x.2)) (λR x hx ih=>?_) (a,b) ha (lp ha)
 obtain⟨u,v⟩:=x
 have hx:nP u<=cW:=hx
 show BT (λa a2=>R (a,a2)) u v=some (decide (u=v))
 unfold BT
 have hk:=De u
 by_cases h1:u.Op=v.Op
 ·by_cases h2:u.Name=v.Name
  ·by_cases h3:u.N=v.N
   ·rw[vad (by simpa using h1),vad (by simpa using h2),vad (by simpa using h3)]
    rw[qex (a:=u.Kids) (b:=v.Kids) (by omega) (λx hxa y hyb=>ih (x,y) (wO hxa) (vbH (vaT (wO hxa) hx)))]
    simp[DO (a:=u) (b:=v),h1,h2,h3]
   ·rw[vad (by simpa using h1),vad (by simpa using h2),vab (by simpa using h3)]
    simp[DO (a:=u) (b:=v),h3]
  ·rw[vad (by simpa using h1),vab (by simpa using h2)]
   simp[DO (a:=u) (b:=v),h2]
 ·rw[vab (by simpa using h1)]
  simp[DO (a:=u) (b:=v),h1]
theorem TF(a b:aa)(hb:nP b<=cW):GU a b=some (decide (a=b)):=by
 refine uY (F:=Kg) (λx=>nP x.2) (λx=>nP x.2<=cW) (λx=>decide (x.1=x.2)) (λR x hx ih=>?_) (a,b) hb (lp hb)
 obtain⟨u,v⟩:=x
 have hx:nP v<=cW:=hx
 show D7 (λa a2=>R (a,a2)) u v=some (decide (u=v))
 unfold D7 GV
 have hk:=De v
 by_cases h1:u.Op=v.Op
 ·by_cases h2:u.Name=v.Name
  ·by_cases h3:u.N=v.N
   ·by_cases h4:u.Kids.length=v.Kids.length
    ·rw[vab (by simpa using h1),vab (by simpa using h2),vab (by simpa using h3)]
     simp only[h4,bne_self_eq_false,vaa,if_false,vaq]
     unfold GW
     rw[<-h4,Ms h4 (by unfold cW at hx;omega) _ (.inl ()) (.inr ()) (λi g1 g2=>?_) ?_]
     ·by_cases he:u.Kids=v.Kids<;>simp[he,DO (a:=u) (b:=v),h1,h2,h3]
     ·unfold uL
      rw[vab (by simp)]
     ·unfold uL
      rw[vad (by simp;omega),aT u.Kids i g1]
      simp only[vaa]
      rw[aT v.Kids i g2]
      simp only[vaa]
      have hm:=vag g2
      rw[ih (u.Kids[i],v.Kids[i]) (wO hm) (vbH (vaT (wO hm) hx))]
      by_cases he:u.Kids[i]=v.Kids[i]<;>simp[he]
    ·have hne:u≠v:=λe=>h4 (by rw[e])
     rw[vab (by simpa using h1),vab (by simpa using h2),vab (by simpa using h3)]
     have hb:((u.Kids.length:Int)!=(v.Kids.length:Int))=true:=by simp;omega
     simp[hb,hne]
   ·have hne:u≠v:=λe=>h3 (by rw[e])
    rw[vab (by simpa using h1),vab (by simpa using h2),vad (by simpa using h3)]
    simp[hne]
  ·have hne:u≠v:=λe=>h2 (by rw[e])
   rw[vab (by simpa using h1),vad (by simpa using h2)]
   simp[hne]
 ·have hne:u≠v:=λe=>h1 (by rw[e])
  rw[vad (by simpa using h1)]
  simp[hne]
def fO:aa:=⟨0,[],0,[]⟩
theorem qbo:nP fO<=cW:=by decide
theorem VA{α σ X:Type}(g:α->σ->σ)(e:σ->X):∀(l:List α) (i:Nat) (s:σ),sD (λ_ x (s:σ)=>(Sum.inl (g x s):σ⊕X)) e l i s=e (l.foldl (λs x=>g x s) s)
 |[],i,s=>by simp[sD]
 |x::l,i,s=>by
  unfold sD
  simp only
  rw[VA g e l (i+1) (g x s)]
  rfl
theorem qcE{α σ τ X:Type}(l:List α)(hl:l.length<9223372036854775808)(mk:Int->σ->τ)(body:τ->Option (τ⊕X))(I:Nat->σ->Prop)(g:α->σ->σ)(e:σ->X)(s0:σ)(h0:I 0 s0)
  (hin:∀(i:Nat) (h:i<l.length) s,I i s->body (mk i s)=some (.inl (mk (dt ((i:Int)+1)) (g l[i] s)))/\I (i+1) (g l[i] s)) (hend:∀s,I l.length s->body (mk l.length s)=some (.inr (e s))):
  loop body (mk 0 s0)=some (e (l.foldl (λs x=>g x s) s0)):=by
 have:=zR l hl mk body I (λ_ x s=>.inl (g x s)) e (λi h s hs=>⟨(hin i h s hs).1,λs' hs'=>by cases hs';exact(hin i h s hs).2⟩) (λs hs=>hend s hs) 0 s0 (va0 _) h0
 rw[VA]at this
 exact this
theorem qbn(l:List aa)(i:Nat)(h:i<l.length):nL (l.take (i+1))=nL (l.take i)+nP l[i]:=by
 rw[vav h,Of]
 simp[nL]
theorem S0(l:List aa)(i:Nat):nL (l.take i)<=nL l:=by
 have:=Of (l.take i) (l.drop i)
 rw[vbp]at this
 omega
theorem qbb:∀(l:List aa) (a:Int),l.foldl (λs x=>s+(nP x:Int)) a=a+(nL l:Int)
 |[],a=>by simp[nL]
 |x::l,a=>by rw[List.foldl_cons,qbb l,nL];omega
theorem S9(p:aa)(hp:nP p<=cW):qD p=some (nP p:Int):=by
 refine uY (F:=Bb) nP (λx=>nP x<=cW) (λx=>(nP x:Int)) (λR x hx ih=>?_) p hp (lp hp)
 show Ba (λp=>R p) x=_
 unfold Ba D5
 have hlen:=De x
 have hn:=YW x
 rw[qcE x.Kids (by unfold cW at hx;omega) (λi s=>(s,i)) _ (λi s=>s=1+(nL (x.Kids.take i):Int)) (λx s=>s+(nP x:Int)) id 1 (by simp[nL]) (λi hi s hs=>?_) (λs _=>?_)]
 ·rw[qbb]
  simp only[id,vaa]
  rw[hn];congr 1;omega
 ·have hm:=vag hi
  have hk:=wO hm
  refine⟨?_,by rw[qbn _ _ hi,hs];omega⟩
  unfold rq
  rw[vad (by simp;omega),aT x.Kids i hi]
  simp only[vaa]
  rw[ih _ hk (by omega)]
  simp only[vaa]
  have h1:=S0 x.Kids i
  have h2:=S0 x.Kids (i+1)
  have h3:=qbn x.Kids i hi
  unfold cW at hx
  rw[cC (n:=s+_) (by omega) (by omega)]
 ·unfold rq
  rw[vab (by simp)]
  rfl
mutual
def dP:aa->Nat
 |⟨_,_,_,ks⟩=>dL ks+1
def dL:List aa->Nat
 |[]=>0
 |p::ps=>max (dP p) (dL ps)
end
theorem qlc(p:aa):dP p=dL p.Kids+1:=by obtain⟨o,n,k,ks⟩:=p;rw[dP];rfl
mutual
theorem qh4:∀(p:aa),dP p<=nP p
 |⟨o,n,k,ks⟩=>by have:=qh3 ks;rw[dP,nP];omega
theorem qh3:∀(l:List aa),dL l<=nL l
 |[]=>by simp[dL]
 |p::l=>by have:=qh4 p;have:=qh3 l;rw[dL,nL];omega
end
theorem qba:∀(l:List aa) (a:Nat),l.foldl (λ(s:Int) x=>if(dP x:Int)>s then(dP x:Int)else s) (a:Int)=((max a (dL l):Nat):Int)
 |[],a=>by simp[dL]
 |x::l,a=>by
  rw[List.foldl_cons,show(if(dP x:Int)>(a:Int)then(dP x:Int)else(a:Int))=((max a (dP x):Nat):Int) by split<;>omega,qba l,dL,Nat.max_assoc]
theorem Yq(p:aa)(hp:nP p<=cW):CW p=some (dP p:Int):=by
 refine uY (F:=A5) nP (λx=>nP x<=cW) (λx=>(dP x:Int)) (λR x hx ih=>?_) p hp (lp hp)
 show A4 (λp=>R p) x=_
 unfold A4 D4
 have hlen:=De x
 have hd:=qh4 x
 have he:=qlc x
 have hz:(0:Int)=((0:Nat):Int):=rfl
 rw[qaj x.Kids (by unfold cW at hx;omega) (λi s=>(s,i)) _ (λi s x=>(R x).bind λr=>some (.inl ((if r>s then r else s),dt (i+1)))) (λ_ _=>True) (λx s=>if(dP x:Int)>s then(dP x:Int)else s) id 0 trivial (λi s=>rfl) (λi hi s _=>⟨?_,vzz⟩)]
 ·rw[hz,qba]
  simp only[id,vaa]
  unfold cW at hx
  rw[cC (by omega) (by omega)]
  congr 1;omega
 ·have hm:=vag hi
  have hk:=wO hm
  rw[ih _ hk (by omega)]
  rfl
theorem qco(t:af):(⟨t.Op,t.Name,t.Args,t.Names,t.Pred,t.Preds⟩:af)=t:=by cases t;rfl
mutual
def fh:af->Nat
 |⟨_,_,xs,ns,_,ps⟩=>BP xs+ns.length+ps.length+1
def BP:List af->Nat
 |[]=>0
 |a::xs=>fh a+BP xs
end
theorem Ey(t:af):fh t=BP t.Args+t.Names.length+t.Preds.length+1:=by obtain⟨o,n,xs,ns,p,ps⟩:=t;rw[fh];rfl
theorem ST(t:af):1<=fh t:=by rw[Ey];omega
theorem Vh:∀{l:List af} {x:af},x∈l->fh x<=BP l
 | y :: l,x,h => by
  rw[BP]
  rcases vaF.1 h with rfl|h
  ·omega
  ·have:=Vh h;omega
theorem Vg:∀(l:List af),l.length<=BP l
 |[]=>by simp[BP]
 |p::l=>by rw[BP];have:=Vg l;have:=ST p;simp only[vaG];omega
theorem mb{t a:af}(h:a∈t.Args):fh a<fh t:=by rw[Ey t];have:=Vh h;omega
theorem lK(t:af):t.Args.length<fh t:=by rw[Ey];have:=Vg t.Args;omega
theorem Vl(t:af):t.Names.length<fh t:=by rw[Ey];omega
theorem Du(t:af):t.Preds.length<fh t:=by rw[Ey];omega
mutual
def Wj(Q:aa->Prop):af->Prop
 |⟨_,_,xs,_,p,ps⟩=>Q p/\(∀q∈ps,Q q)/\Pj Q xs
def Pj(Q:aa->Prop):List af->Prop
 |[]=>True
 |a::xs=>Wj Q a/\Pj Q xs
end
theorem L1(Q:aa->Prop)(t:af):Wj Q t↔Q t.Pred/\(∀q∈t.Preds,Q q)/\Pj Q t.Args:=by obtain⟨o,n,xs,ns,p,ps⟩:=t;rw[Wj];rfl
theorem UT(Q:aa->Prop):∀(l:List af),Pj Q l↔∀t∈l,Wj Q t
 |[]=>by simp[Pj]
 |a::l=>by rw[Pj,UT Q l];simp
theorem qdX{Q:aa->Prop}{t a:af}(h:Wj Q t)(ha:a∈t.Args):Wj Q a:=(UT Q _).1 ((L1 Q t).1 h).2.2 a ha
theorem qia(l:List aa):l.length<=eu (l.map ac):=by
 have:=qak l
 have:=qbm l
 omega
theorem qib(l:List ae):l.length<=eu (l.map cS):=by
 have h:=Zd (l.map cS) (λx hx=>by
  obtain⟨s,_,rfl⟩:=var.1 hx
  simp only[cS,fP,pm];omega)
 rwa[vbG]at h
theorem HY(t:af):fP (ai t)=1+(pm (.str t.Name)+(pm (sl ai t.Args)+(pm (sl cS t.Names)+(1+(pm (.str t.Pred.Name)+(1+(pm (sl ac t.Pred.Kids)+(pm (sl ac t.Preds)+0)))))))):=by
 rw[dp];rfl
mutual
theorem Q7:∀(t:af),fh t<=fP (ai t)
 |⟨o,n,xs,ns,p,ps⟩=>by
  have h1:=YQ xs
  have h2:=qia ps
  have h3:=qib ns
  rw[fh,HY]
  show _<=1+(pm (.str n)+(pm (sl ai xs)+(pm (sl cS ns)+(1+(pm (.str p.Name)+(1+(pm (sl ac p.Kids)+(pm (sl ac ps)+0))))))))
  simp only[pm,sl]
  omega
theorem YQ:∀(l:List af),BP l<=eu (l.map ai)
 |[]=>by simp[BP]
 |a::l=>by
  have:=Q7 a
  have:=YQ l
  rw[BP]
  simp only[vae,eu]
  omega
end
theorem qho(t:af):nP t.Pred<=fP (ai t):=by
 have h:=qbm t.Pred.Kids
 rw[YW,HY]
 simp only[pm,sl]
 omega
mutual
theorem qaR(B:Nat):∀(t:af),fP (ai t)<=B->Wj (λp=>nP p<=B) t
 |⟨o,n,xs,ns,p,ps⟩,h=>by
  have h0:=qho ⟨o,n,xs,ns,p,ps⟩
  rw[HY]at h h0
  have h:1+(pm (.str n)+(pm (sl ai xs)+(pm (sl cS ns)+(1+(pm (.str p.Name)+(1+(pm (sl ac p.Kids)+(pm (sl ac ps)+0))))))))<=B:=h
  have h0:nP p<=1+(pm (.str n)+(pm (sl ai xs)+(pm (sl cS ns)+(1+(pm (.str p.Name)+(1+(pm (sl ac p.Kids)+(pm (sl ac ps)+0)))))))):=h0
  simp only[pm,sl]at h h0
  rw[Wj]
  refine⟨by omega,λq hq=>?_,Yb B xs (by omega)⟩
  have h1:=S1 q
  have h2:=Dr (var.2 ⟨q,hq,rfl⟩:ac q∈ps.map ac)
  omega
theorem Yb(B:Nat):∀(l:List af),eu (l.map ai)<=B->Pj (λp=>nP p<=B) l
 |[],_=>trivial
 |a::xs,h=>by
  simp only[vae,eu]at h
  rw[Pj]
  exact⟨qaR B a (by omega),Yb B xs (by omega)⟩
end
theorem ZX(t:af)(ht:fh t<=cW):jb (yU t) (λ_=>True):=by
 refine Av (F:=vT) fh (λx=>fh x<=cW) (λ_ _=>True) (λR x hx ih=>?_) t ht (lp ht)
 show jb (qE (λt=>R t) x) _
 unfold qE rr
 have h1:=lK x
 refine aH (R:=λ_=>True) (VH x.Args (by unfold cW at hx;omega) (λi s=>(s,i)) (λi s y=>(R y).bind λr=>some (.inl ((if r>s then r else s),dt (i+1)))) id (λ_ _=>True) (λi s=>rfl) (λi hi s _=>?_) (λ_ _=>trivial) 0 trivial) (λa _=>am vzz)
 exact aH (ih _ (mb (vag hi)) (by have:=mb (vag hi);omega)) (λa _=>am ⟨_,rfl,vzz⟩)
theorem S6(t:af):jb (ru t) (λ_=>True):=by
 unfold ru
 refine aH (R:=λ_=>True) ?_ λ_ _=>aP (λ_=>am vzz) λ_=>aH (R:=λ_=>True) ?_ λ_ _=>aP (λ_=>am vzz) λ_=>aH (R:=λ_=>True) ?_ λ_ _=>aP (λ_=>am vzz) λ_=>aH (R:=λ_=>True) ?_ λ_ _=>aP (λ_=>am vzz) λ_=>am vzz
 ·unfold jp
  repeat' first|exact am vzz|refine aP (λ_=>?_) (λ_=>?_)
 ·unfold kR
  repeat' first|exact am vzz|refine aP (λ_=>?_) (λ_=>?_)
 ·unfold jq
  repeat' first|exact am vzz|refine aP (λ_=>?_) (λ_=>?_)
 ·unfold kS
  repeat' first|exact am vzz|refine aP (λ_=>?_) (λ_=>?_)|refine aH (Ym _ _) λ_ _=>?_
theorem qaa(t:af)(ht:fh t<=cW):jb (zi t) (λ_=>True):=by
 refine Av (F:=tU) fh (λx=>fh x<=cW) (λ_ _=>True) (λR x hx ih=>?_) t ht (lp ht)
 show jb (jM (λt=>R t) x) _
 unfold jM mY
 have h1:=lK x
 refine aH (S6 x) λ_ _=>aP (λ_=>am vzz) λ_=>aH (lX x.Args (by unfold cW at hx;omega) _ (λ_=>True) (λ_=>True) (λi=>rfl) (λy hy i=>aH (ih _ (mb hy) (by have:=mb hy;omega)) λ_ _=>aP (λ_=>am vzz) λ_=>am ⟨rfl,vzz⟩)) λo _=>?_
 cases o<;>exact am vzz
theorem AU(t:af)(ht:fh t<=cW):jb (jk t) (λ_=>True):=by
 unfold jk
 exact aH (ZX t ht) λ_ _=>aP (λ_=>am vzz) λ_=>aH (qaa t ht) λ_ _=>am vzz
theorem qeO(op n:Int):jb (mW op n) (λr=>r=true->op=8->n=2):=by
 by_cases h:op=8
 ·subst h
  refine qaJ (a:=n==2) ?_ λh _=>by simpa using h
  simp[mW,vM,vN,vO]
 ·unfold mW
  refine aH (R:=λ_=>True) ?_ λ_ _=>aP (λ_=>am λ_ e=>absurd e h) λ_=>aH (R:=λ_=>True) ?_ λ_ _=>aP (λ_=>aP (λ_=>am λ_ e=>absurd e h) λ_=>am λ_ e=>absurd e h) λ_=>aH (R:=λ_=>True) ?_ λ_ _=>aP (λ_=>am λ_ e=>absurd e h) λ_=>am λ_ e=>absurd e h
  ·unfold vM
   repeat' first|exact am vzz|refine aP (λ_=>?_) (λ_=>?_)
  ·unfold vN
   repeat' first|exact am vzz|refine aP (λ_=>?_) (λ_=>?_)
  ·unfold vO
   repeat' first|exact am vzz|refine aP (λ_=>?_) (λ_=>?_)
theorem KA(p:aa):jb (qh p) (λ_=>True):=by
 unfold qh
 have hc:=λs=>(XS s).mono (R:=λ_=>True) λ_ _=>trivial
 repeat' first|exact am vzz|refine aP (λ_=>?_) (λ_=>?_)|refine aH (hc _) λ_ _=>?_
theorem qan(p:aa):jb (vP p) (λ_=>True):=by
 unfold vP
 have hk:jb (mW p.Op (p.Kids.length:Int)) (λr=>r=true->p.Op=8->0<p.Kids.length):=(qeO _ _).mono λr hr h1 h2=>by have:=hr h1 h2;omega
 have hn:∀r:Bool,(r=true->p.Op=8->0<p.Kids.length)->jb (some (!r)) (λo=>o=true\/(p.Op=8->0<p.Kids.length)):=λr hr=>by
  cases r with
  |false=>exact am (.inl rfl)
  |true=>exact am (.inr (hr rfl))
 refine aH (R:=λ_=>True) ?_ λo3 _=>aH (R:=λo=>o=true\/(p.Op=8->0<p.Kids.length)) ?_ λo ho=>aP (λ_=>am vzz) λhno=>aH (R:=λ_=>True) ?_ λ_ _=>aP (λ_=>am vzz) λ_=>aH (KA p) λ_ _=>aP (λ_=>am vzz) λ_=>aH (R:=λ_=>True) ?_ λ_ _=>aP (λ_=>am vzz) λ_=>am vzz
 ·unfold vQ
  repeat' first|exact am vzz|refine aP (λ_=>?_) (λ_=>?_)
 ·unfold vR
  have hm:jb (yS p.Op) (λ_=>True):=by
   unfold yS
   repeat' first|exact am vzz|refine aP (λ_=>?_) (λ_=>?_)
  repeat' first|exact am (.inl rfl)|refine aP (λ_=>?_) (λ_=>?_)|refine aH hm λ_ _=>?_|exact aH hk hn
 ·have hi:jb (D1 p.N) (λ_=>True):=by
   unfold D1
   repeat' first|exact am vzz|refine aP (λ_=>?_) (λ_=>?_)
  unfold mX
  repeat' first|exact am vzz|refine aP (λ_=>?_) (λ_=>?_)|refine aH hi λ_ _=>?_
 ·unfold vS
  refine aP (λh=>?_) λ_=>am vzz
  exact er (aT p.Kids 0 (ho.resolve_left hno (by simpa using h))) (am vzz)
theorem KM:bS []=false:=by kernel_rfl
theorem rO(b:Bool):(Fx b !=0)= !b:=by cases b<;>rfl
theorem N3(b:Bool):(Fx b==0)=b:=by cases b<;>rfl
theorem qdt(t:af):Cd t=yU t:=by
 have h:CS=vT:=rfl
 unfold Cd yU
 rw[h]
theorem qfW(t:af):vD t=some (t.Op==4||t.Op==5):=by
 unfold vD
 by_cases h:t.Op=4<;>simp[h]
theorem qfX(t:af):vF t=some (t.Op==4||t.Op==6):=by
 unfold vF
 by_cases h:t.Op=4<;>simp[h]
theorem qfY(t:af):vG t (t.Op==4||t.Op==5) (t.Op==4||t.Op==6)=jp t:=by
 unfold vG jp
 by_cases h4:t.Op=4
 ·simp[h4]
 by_cases h5:t.Op=5
 ·simp[h5]
 by_cases h6:t.Op=6
 ·simp[h6]
 ·simp[h4,h5,h6]
theorem qjP(t:af):Cc t=(kR t).bind λa=>if a=true then some 13 else(jq t).bind λb=>if b=true then some 13 else some 0:=by
 unfold Cc kR jq Ax
 by_cases h4:t.Op=4
 ·simp[h4]
 by_cases h6:t.Op=6
 ·have hn:((t.Names.length:Int)!=0)=decide ((t.Names.length:Int)>0):=by
   by_cases h:t.Names.length=0
   ·rw[h];rfl
   ·have h1:((t.Names.length:Int))≠0:=by omega
    have h2:((t.Names.length:Int))>0:=by omega
    rw[vaI h2];simpa using h
  rw[hn]
  simp[h6]
 ·simp[h4,h6]
theorem qjm(s:ae)(b:Bool):vU s b=some (bS s&&(jd kC s==b)):=by
 unfold vU
 rw[mU]
 simp only[vaa,N3]
 by_cases h:bS s=true
 ·cases s with
  |nil=>rw[KM]at h;cases h
  | cons c r =>
   rw[vad h,h]
   simp only[kz,vaa,jd,kC,vbl]
   by_cases hc:(c.toNat:Int)>=65
   ·have hc':(65:Int)<=c.toNat:=hc
    rw[vad (vaI hc),vaI hc',vbl]
   ·have hc':¬(65:Int)<=c.toNat:=hc
    rw[vab (by simpa using hc),decide_eq_false hc',vb7]
 ·rw[vab h]
  have:bS s=false:=by simpa using h
  rw[this];rfl
theorem qfZ(t:af):vH t (t.Op==4||t.Op==5)=(kS t).bind λb=>if b=true then some (.inl ())else some (.inr ()):=by
 unfold vH kS
 simp only[qjm,vaa,pC,rO]
 have hJ5:bS t.Name=true->vI t=some (jd kC t.Name):=λh=>by
  unfold vI
  cases hn:t.Name with
  |nil=>rw[hn,KM]at h;cases h
  | cons c r =>
   simp only[kz,vaa,jd,kC]
   by_cases hc:(c.toNat:Int)>=65
   ·have hc':(65:Int)<=c.toNat:=hc
    rw[vad (vaI hc),vaI hc',vbl]
   ·have hc':¬(65:Int)<=c.toNat:=hc
    rw[vab (by simpa using hc),decide_eq_false hc',vb7]
 by_cases h4:t.Op=4
 ·by_cases h:bS t.Name=true
  ·rw[hJ5 h]
   cases jd kC t.Name<;>simp[h4,h]
  ·simp[h4,h]
 by_cases h5:t.Op=5
 ·by_cases h:bS t.Name=true
  ·rw[hJ5 h]
   cases jd kC t.Name<;>simp[h5,h]
  ·simp[h5,h]
 ·simp[h4,h5]
theorem Y0(t:af):∃b1 b2 b3 b4,jp t=some b1/\kR t=some b2/\jq t=some b3/\kS t=some b4:=by
 have h1:jb (jp t) (λ_=>True):=by
  unfold jp
  repeat' first|exact am vzz|refine aP (λ_=>?_) (λ_=>?_)
 have h2:jb (kR t) (λ_=>True):=by
  unfold kR
  repeat' first|exact am vzz|refine aP (λ_=>?_) (λ_=>?_)
 have h3:jb (jq t) (λ_=>True):=by
  unfold jq
  repeat' first|exact am vzz|refine aP (λ_=>?_) (λ_=>?_)
 have h4:jb (kS t) (λ_=>True):=by
  unfold kS
  repeat' first|exact am vzz|refine aP (λ_=>?_) (λ_=>?_)|refine aH (Ym _ _) λ_ _=>?_
 obtain⟨b1,e1,_⟩:=h1
 obtain⟨b2,e2,_⟩:=h2
 obtain⟨b3,e3,_⟩:=h3
 obtain⟨b4,e4,_⟩:=h4
 exact⟨b1,b2,b3,b4,e1,e2,e3,e4⟩
theorem qhO(R:af->Option Int)(t:af):yN R t=jM R t:=by
 obtain⟨b1,b2,b3,b4,e1,e2,e3,e4⟩:=Y0 t
 have ea:=qjP t
 have e5:=qfZ t
 have hL:CT R t.Args (t.Args.length:Int) 0=mY R t.Args (t.Args.length:Int) 0:=rfl
 rw[e2,e3]at ea
 rw[e4]at e5
 unfold yN jM ru
 rw[qfW,qfX]
 simp only[vaa]
 rw[qfY,e1,e2,e3,e4,ea,hL]
 rw[e5]
 cases b1<;>cases b2<;>cases b3<;>cases b4<;>rfl
theorem O2(t:af):nO t=jk t:=by
 have h:Fi=tU:=by
  funext R x
  exact qhO (λt=>R t) x
 have h2:Fh t=zi t:=by
  unfold Fh zi
  rw[h]
 unfold nO jk
 rw[qdt,h2]
def Dc(op:Int)(n:Int):Bool:=if op=1\/op=2\/op=3 then n==0 else if op=4\/op=5 then decide (n>=1)&&decide (n<=24)else if op=9\/op=14 then n==1 else n==2
theorem qfL(op n:Int):mW op n=some (Dc op n):=by
 unfold mW vM vN vO Dc
 by_cases h1:op=1
 ·simp[h1]
 by_cases h2:op=2
 ·simp[h2]
 by_cases h3:op=3
 ·simp[h3]
 by_cases h4:op=4
 ·subst h4
  by_cases hn:n>=1<;>simp[hn]
 by_cases h5:op=5
 ·subst h5
  by_cases hn:n>=1<;>simp[hn]
 by_cases h9:op=9
 ·simp[h9]
 by_cases h14:op=14
 ·simp[h14]
 ·simp[h1,h2,h3,h4,h5,h9,h14]
theorem qfp(op:Int)(n:Nat):∃l m,IV op=some (l,m)/\(if decide ((n:Int)<l)=true then some true else some (decide ((n:Int)>m)))=some (!Dc op (n:Int)):=by
 unfold IV EL EM EN Dc
 have e0:(if decide ((n:Int)<0)=true then some true else some (decide ((n:Int)>0)))=some (!((n:Int)==0)):=by
  rw[vab (by simp)]
  by_cases h:n=0
  ·subst h;rfl
  ·have h1:(n:Int)>0:=by omega
   rw[vaI h1];simp[h]
 have e1:(if decide ((n:Int)<1)=true then some true else some (decide ((n:Int)>24)))=some (!(decide ((n:Int)>=1)&&decide ((n:Int)<=24))):=by
  by_cases h:(n:Int)<1
  ·rw[vad (vaI h),decide_eq_false (by omega:¬(n:Int)>=1)];rfl
  ·rw[vab (by simpa using h),vaI (by omega:(n:Int)>=1)]
   by_cases h2:(n:Int)>24
   ·rw[vaI h2,decide_eq_false (by omega:¬(n:Int)<=24)];rfl
   ·rw[decide_eq_false h2,vaI (by omega:(n:Int)<=24)];rfl
 have ek:∀k:Nat,(if decide ((n:Int)<(k:Int))=true then some true else some (decide ((n:Int)>(k:Int))))=some (!((n:Int)==(k:Int))):=λk=>by
  by_cases h:(n:Int)<k
  ·rw[vad (vaI h)]
   have:((n:Int)==(k:Int))=false:=by rw[beq_eq_false_iff_ne];omega
   rw[this];rfl
  ·rw[vab (by simpa using h)]
   by_cases h2:(n:Int)>k
   ·have:((n:Int)==(k:Int))=false:=by rw[beq_eq_false_iff_ne];omega
    rw[this,vaI h2];rfl
   ·have:((n:Int)==(k:Int))=true:=by rw[va7];omega
    rw[this,decide_eq_false h2];rfl
 by_cases h1:op=1
 ·exact⟨0,0,by simp[h1],by simpa[h1]using e0⟩
 by_cases h2:op=2
 ·exact⟨0,0,by simp[h2],by simpa[h2]using e0⟩
 by_cases h3:op=3
 ·exact⟨0,0,by simp[h3],by simpa[h3]using e0⟩
 by_cases h4:op=4
 ·exact⟨1,24,by simp[h4],by rw[e1];simp[h4]⟩
 by_cases h5:op=5
 ·exact⟨1,24,by simp[h5],by rw[e1];simp[h5]⟩
 by_cases h9:op=9
 ·exact⟨1,1,by simp[h9],by have:=ek 1;rw[show((1:Nat):Int)=1 from rfl]at this;rw[this];simp[h9]⟩
 by_cases h14:op=14
 ·exact⟨1,1,by simp[h14],by have:=ek 1;rw[show((1:Nat):Int)=1 from rfl]at this;rw[this];simp[h14]⟩
 ·exact⟨2,2,by simp[h1,h2,h3,h4,h5,h9,h14],by have:=ek 2;rw[show((2:Nat):Int)=2 from rfl]at this;rw[this];simp[h1,h2,h3,h4,h5,h9,h14]⟩
theorem Vx(op:Int):yS op=some (op==3||op==4||op==5):=by
 unfold yS
 by_cases h3:op=3
 ·simp[h3]
 by_cases h4:op=4<;>simp[h3,h4]
theorem Vs(op:Int):EO op=some (op==3||op==4||op==5):=Vx op
theorem qrw(p:aa):vQ p=some (p.Op==1||p.Op==2):=by
 unfold vQ
 by_cases h:p.Op=1<;>simp[h]
def OW(p:aa):Bool:=!(p.Name==([]:ae))&&!(p.Op==3||p.Op==4||p.Op==5)||((p.N !=0)&&!(p.Op==1||p.Op==2))||!Dc p.Op (p.Kids.length:Int)
theorem qrx(p:aa):vR p (p.Op==1||p.Op==2)=some (decide (p.Op<1)||decide (p.Op>18)||OW p):=by
 unfold vR OW
 simp only[Vx,qfL,vaa]
 cases decide (p.Op<1)
 ·cases decide (p.Op>18)
  ·cases(p.Name==([]:ae))<;>cases(p.Op==3||p.Op==4||p.Op==5)<;>cases(p.N !=0)<;>cases(p.Op==1||p.Op==2)<;>cases Dc p.Op (p.Kids.length:Int)<;>rfl
  ·rfl
 ·rfl
theorem qtK(p:aa)(l m:Int)(h:(if decide ((p.Kids.length:Int)<l)=true then some true else some (decide ((p.Kids.length:Int)>m)))=some (!Dc p.Op (p.Kids.length:Int))):yw p l m=some (OW p):=by
 unfold yw OW
 simp only[Vs,vaa,h]
 by_cases h1:p.Op=1
 ·cases(p.Name==([]:ae))<;>cases(p.N !=0)<;>simp[h1]
 by_cases h2:p.Op=2
 ·cases(p.Name==([]:ae))<;>cases(p.N !=0)<;>simp[h2]
 have e1:(p.Op !=1)=true:=by simpa using h1
 have e2:(p.Op !=2)=true:=by simpa using h2
 have e3:(p.Op==1)=false:=by simpa using h1
 have e4:(p.Op==2)=false:=by simpa using h2
 rw[e1,e2,e3,e4]
 cases(p.Name==([]:ae))<;>cases(p.Op==3||p.Op==4||p.Op==5)<;>cases(p.N !=0)<;>cases Dc p.Op (p.Kids.length:Int)<;>rfl
theorem qlg(n:Int):Tb n=D1 n:=rfl
theorem qtL(p:aa):yx p=mX p:=by
 unfold yx mX
 rw[qlg]
 have hN:(if(p.N !=0)=true then some (p.N !=1)else some false)=(if decide (p.N<0)=true then some true else some (decide (p.N>1))):=by
  by_cases h0:p.N=0
  ·rw[h0];rfl
  by_cases h1:p.N=1
  ·rw[h1];rfl
  ·have:(p.N !=0)=true:=by simpa using h0
   have h2:(p.N !=1)=true:=by simpa using h1
   rw[vad this,h2]
   by_cases h3:p.N<0
   ·rw[vad (vaI h3)]
   ·rw[vab (by simpa using h3),vaI (by omega:p.N>1)]
 rw[hN]
theorem qtM(p:aa):yy p=(qh p).bind λr=>if(!r)=true then some (.inl ())else some (.inr ()):=by
 unfold yy EP EQ ER ES qh
 simp only[Vs,vaa,pC,mU,rO,N3]
 by_cases h3:p.Op=3
 ·cases hc:bS p.Name<;>cases(p.Name==([118]:ae))<;>simp[h3,hc]
 by_cases h4:p.Op=4
 ·cases hc:bS p.Name<;>cases(p.Name==([116,97,103]:ae))<;>cases(p.Name==([118,97,108]:ae))<;>simp[h4,hc]
 by_cases h5:p.Op=5
 ·cases hc:bS p.Name<;>simp[h5,hc]
 ·simp[h3,h4,h5]
theorem qtN(p:aa):ET p=vS p:=rfl
theorem qtJ(p:aa):yu p=some (decide (p.Op<1)||decide (p.Op>18)):=by
 unfold yu
 cases decide (p.Op<1)<;>rfl
theorem ZR(p:aa):∃b,qh p=some b:=by
 obtain⟨b,e,_⟩:=KA p
 exact⟨b,e⟩
theorem qfw(p:aa):IW p=vP p:=by
 obtain⟨l,m,e1,e2⟩:=qfp p.Op p.Kids.length
 obtain⟨c,ec⟩:=ZR p
 have e4:=qtM p
 rw[ec]at e4
 unfold IW vP
 rw[qtJ,qrw,e1]
 simp only[vaa]
 rw[qrx,qtK p l m e2,qtL,e4,ec,qtN]
 simp only[vaa]
 cases(decide (p.Op<1)||decide (p.Op>18))
 ·cases OW p
  ·cases c<;>rfl
  ·rfl
 ·rfl
def Y4(r:Int)(s:Int):Bool×Int:=if(r !=0)=true then(false,r)else(true,s)
theorem qcu(R:aa->Option Int)(l:List aa)(hl:l.length<9223372036854775808)(ih:∀x∈l,∃r,R x=some r/\∀s,TY dY x s=some (Y4 r s)):jb (vK R l (l.length:Int) 0) (λo=>o.elim (λr=>(r !=0)=true/\∀s,DU dY l s=some (false,r)) (λ_=>∀s,DU dY l s=some (true,s))):=by
 unfold vK
 have key:∀k i,k+i=l.length->jb (loop (λzz=>hZ R l (l.length:Int) zz) (i:Int)) (λo=>o.elim (λr=>(r !=0)=true/\∀s,DU dY (l.drop i) s=some (false,r)) (λ_=>∀s,DU dY (l.drop i) s=some (true,s))):=by
  intro k
  induction k with
  | zero =>
   intro i hi
   have hi:i=l.length:=by omega
   subst hi
   have hb:(λzz=>hZ R l (l.length:Int) zz) ((l.length:Nat):Int)=some (.inr (.inr ())):=by
    show hZ R l (l.length:Int) (l.length:Int)=_
    unfold hZ
    rw[vab (by simp)]
   rw[fx hb]
   exact am (λs=>by rw[vbN,DU])
  | succ k ihk =>
   intro i hi
   have hil:i<l.length:=by omega
   obtain⟨r,e,hv⟩:=ih _ (vag hil)
   rw[ke]
   have hb:hZ R l (l.length:Int) (i:Int)=if(r !=0)=true then some (.inr (.inl r))else some (.inl (dt ((i:Int)+1))):=by
    unfold hZ
    rw[vad (vaI (by omega)),aT _ i hil]
    simp only[vaa]
    rw[e]
    rfl
   rw[hb]
   have hd:=vaH hil
   by_cases hr:(r !=0)=true
   ·rw[vad hr]
    refine am ⟨hr,λs=>?_⟩
    rw[hd,DU,hv s]
    unfold Y4
    rw[vad hr]
    rfl
   ·rw[vab hr]
    simp only
    rw[cC (by omega) (by omega),show((i:Int)+1)=((i+1:Nat):Int) by omega]
    have hn:∀s,DU dY (l.drop i) s=DU dY (l.drop (i+1)) s:=λs=>by
     rw[hd,DU,hv s]
     unfold Y4
     rw[vab hr]
     rfl
    refine(ihk (i+1) (by omega)).mono λo ho=>?_
    cases o with
    |inl r'=>
     have ho:(r' !=0)=true/\∀s,DU dY (l.drop (i+1)) s=some (false,r'):=ho
     exact⟨ho.1,λs=>by rw[hn];exact ho.2 s⟩
    |inr _=>
     have ho:∀s,DU dY (l.drop (i+1)) s=some (true,s):=ho
     exact λs=>by rw[hn];exact ho s
 exact key l.length 0 (by omega)
theorem Z5(p:aa)(hp:nP p<=cW):jb (LC p) (λr=>∀s,TY dY p s=some (Y4 r s)):=by
 refine Av (F:=D8) nP (λx=>nP x<=cW) (λx r=>∀s,TY dY x s=some (Y4 r s)) (λR x hx ih=>?_) p hp (lp hp)
 show jb (tS (λt=>R t) x) _
 have h1:=De x
 unfold cW at hx
 obtain⟨r0,e0,_⟩:=qan x
 unfold tS
 rw[e0]
 simp only[vaa]
 have hs:∀s,dY s x=some (if(r0 !=0)=true then(false,r0)else(true,s)):=λs=>by
  unfold dY
  rw[qfw,e0]
  simp only[vaa]
  split<;>rfl
 by_cases hr:(r0 !=0)=true
 ·rw[vad hr]
  refine am λs=>?_
  rw[XL,hs,vad hr]
  unfold Y4
  rw[vad hr]
  rfl
 ·rw[vab hr]
  have hv:∀s,TY dY x s=DU dY x.Kids s:=λs=>by
   rw[XL,hs,vab hr]
   simp only[vaa]
   rw[vad (by omega)]
  refine aH (qcu (λt=>R t) x.Kids (by omega) (λy hy=>ih _ (wO hy) (by have:=wO hy;unfold cW;omega))) λo ho=>?_
  cases o with
  |inl r=>
   obtain⟨h2,h3⟩:(r !=0)=true/\∀s,DU dY x.Kids s=some (false,r):=ho
   exact am λs=>by rw[hv,h3];unfold Y4;rw[vad h2]
  |inr _=>
   have h3:∀s,DU dY x.Kids s=some (true,s):=ho
   exact am λs=>by rw[hv,h3];rfl
theorem qdd(p:aa):ut p=qD p:=by
 have h:EI=Bb:=rfl
 unfold ut qD
 rw[h]
theorem qc5(p:aa):ur p=CW p:=by
 have h:EH=A5:=rfl
 unfold ur CW
 rw[h]
theorem qcS(p:aa)(hp:nP p<=cW):uq p=nW p:=by
 obtain⟨r,e,hv⟩:=Z5 p hp
 unfold uq nW
 rw[qdd,S9 p hp,qc5,Yq p hp,e,hv 0]
 simp only[vaa]
 split
 ·rfl
 split
 ·rfl
 unfold Y4
 by_cases hr:(r !=0)=true
 ·rw[vad hr];rfl
 ·rw[vab hr]
  have:r=0:=by simpa using hr
  rw[this];rfl
theorem z7(p:aa):fP (ac p)=1+(p.Name.length+1+(1+(eu (p.Kids.map ac)+1+0))):=by
 rw[cf];simp only[fP,pm,sl]
theorem OH{α:Type}(c:α->List PVal)(h:∀x,1<=fP (c x)):∀(l:List α),l.length<=eu (l.map c)
 |[]=>by simp
 |x::l=>by have:=OH c h l;have:=h x;simp only[vae,eu,vaG];omega
theorem qfu(t:af):1<=fP (ai t):=by rw[HY];omega
mutual
def nE:ag->Nat
 |⟨_,_,_,ks,ps,as1,ts⟩=>qbk ks+SZ as1+ps.length+ts.length+1
def nA:cK->Nat
 |⟨_,ns,b⟩=>ns.length+nE b+1
def qbk:List ag->Nat
 |[]=>0
 |e::l=>nE e+qbk l
def SZ:List cK->Nat
 |[]=>0
 |a::l=>nA a+SZ l
end
theorem HQ(e:ag):nE e=qbk e.Kids+SZ e.Alts+e.Params.length+e.Types.length+1:=by obtain⟨o,n,k,ks,ps,as1,ts⟩:=e;rw[nE];rfl
theorem YV(a:cK):nA a=a.Names.length+nE a.Body+1:=by obtain⟨c,ns,b⟩:=a;rw[nA];rfl
theorem Oe(e:ag):1<=nE e:=by rw[HQ];omega
theorem qbl:∀{l:List ag} {x:ag},x∈l->nE x<=qbk l
 | y :: l,x,h => by
  rw[qbk]
  rcases vaF.1 h with rfl|h
  ·omega
  ·have:=qbl h;omega
theorem W9:∀{l:List cK} {x:cK},x∈l->nA x<=SZ l
 | y :: l,x,h => by
  rw[SZ]
  rcases vaF.1 h with rfl|h
  ·omega
  ·have:=W9 h;omega
theorem Xa:∀(l:List ag),l.length<=qbk l
 |[]=>by simp[qbk]
 |p::l=>by rw[qbk];have:=Xa l;have:=Oe p;simp only[vaG];omega
theorem Ra:∀(l:List cK),l.length<=SZ l
 |[]=>by simp[SZ]
 |p::l=>by rw[SZ];have:=Ra l;have:=YV p;simp only[vaG];omega
theorem oh{e x:ag}(h:x∈e.Kids):nE x<nE e:=by rw[HQ e];have:=qbl h;omega
theorem L2{e:ag}{x:cK}(h:x∈e.Alts):nE x.Body<nE e:=by rw[HQ e];have:=W9 h;have:=YV x;omega
theorem y0(e:ag):e.Kids.length<nE e:=by rw[HQ];have:=Xa e.Kids;omega
theorem n9(e:ag):e.Alts.length<nE e:=by rw[HQ];have:=Ra e.Alts;omega
theorem kT(e:ag):e.Params.length<nE e:=by rw[HQ];omega
theorem uI(e:ag):e.Types.length<nE e:=by rw[HQ];omega
theorem Iu{e:ag}{x:cK}(h:x∈e.Alts):x.Names.length<nE e:=by rw[HQ];have:=W9 h;have:=YV x;omega
def bA(e:ag):List ag:=e.Kids++e.Alts.map (·.Body)
theorem Iy{e x:ag}(h:x∈bA e):nE x<nE e:=by
 rcases vaR.1 h with h|h
 ·exact oh h
 ·obtain⟨a,ha,rfl⟩:=var.1 h
  exact L2 ha
theorem XI:∀(l:List ag) (m:List cK),((l++m.map (·.Body)).map nE).sum<=qbk l+SZ m
 |[],[]=>by simp
 |[],a::m=>by
  have:=XI [] m
  have:=YV a
  simp only[qbk,SZ,vaS,vae,List.sum_cons]at *
  omega
 |x::l,m=>by
  have:=XI l m
  simp only[qbk,vaN,vae,List.sum_cons]at *
  omega
theorem BC(e:ag):(bA e).length<nE e:=by
 rw[HQ]
 have:=Xa e.Kids
 have:=Ra e.Alts
 simp only[bA,vam,vbG]
 omega
theorem qeI{Q:ag->Prop}(h:∀e,(∀x∈bA e,Q x)->Q e):∀e,Q e:=by
 have key:∀(n:Nat) (e:ag),nE e<=n->Q e:=by
  intro n
  induction n with
  |zero=>intro e he;have:=Oe e;omega
  |succ n ih=>exact λe he=>h e λx hx=>ih x (by have:=Iy hx;omega)
 exact λe=>key _ e (vay _)
mutual
def cN:ag->List ag
 |⟨o,n,k,ks,ps,as1,ts⟩=>⟨o,n,k,ks,ps,as1,ts⟩::(S8 ks++S7 as1)
def qao:cK->List ag
 |⟨_,_,b⟩=>cN b
def S8:List ag->List ag
 |[]=>[]
 |e::l=>cN e++S8 l
def S7:List cK->List ag
 |[]=>[]
 |a::l=>qao a++S7 l
end
theorem Pw:∀(l:List ag),S8 l=l.flatMap cN
 |[]=>by rw[S8];rfl
 |e::l=>by rw[S8,Pw l];rfl
theorem qcJ(a:cK):qao a=cN a.Body:=by obtain⟨c,ns,b⟩:=a;rw[qao];rfl
theorem Pv:∀(l:List cK),S7 l=(l.map (·.Body)).flatMap cN
 |[]=>by rw[S7];rfl
 |a::l=>by rw[S7,Pv l,qcJ];rfl
theorem um(e:ag):cN e=e::(bA e).flatMap cN:=by
 obtain⟨o,n,k,ks,ps,as1,ts⟩:=e
 rw[cN,Pw,Pv,bA,vcV]
 rfl
theorem qbp:∀(e:ag),(cN e).length<=nE e:=by
 refine qeI λe ih=>?_
 rw[um,vaG,vcW]
 have h1:=XI e.Kids e.Alts
 have h2:((bA e).map λx=>(cN x).length).sum<=((bA e).map nE).sum:=by
  have:∀(l:List ag),(∀x∈l,(cN x).length<=nE x)->(l.map λx=>(cN x).length).sum<=(l.map nE).sum:=by
   intro l
   induction l with
   |nil=>intro _;simp
   |cons x l ihl=>
    intro hx
    have a:=hx x (by simp)
    have b:=ihl λy hy=>hx y (by simp[hy])
    simp only[vae,List.sum_cons];omega
  exact this _ ih
 have h3:=HQ e
 unfold bA at *
 omega
theorem qfQ(e:ag):e∈cN e:=by rw[um];simp
mutual
def dE:ag->Nat
 |⟨_,_,_,ks,_,as1,_⟩=>max (IB ks) (qjZ as1)+1
def dA:cK->Nat
 |⟨_,_,b⟩=>dE b
def IB:List ag->Nat
 |[]=>0
 |e::l=>max (dE e) (IB l)
def qjZ:List cK->Nat
 |[]=>0
 |a::l=>max (dA a) (qjZ l)
end
theorem qla(a:cK):dA a=dE a.Body:=by obtain⟨c,ns,b⟩:=a;rw[dA];rfl
theorem qlb(e:ag):dE e=max (IB e.Kids) (qjZ e.Alts)+1:=by obtain⟨o,n,k,ks,ps,as1,ts⟩:=e;rw[dE];rfl
theorem Eu:∀(a b:List ag),IB (a++b)=max (IB a) (IB b)
 |[],b=>by simp[IB]
 |x::a,b=>by rw[vaN,IB,IB,Eu a b];omega
theorem qer:∀(l:List cK),qjZ l=IB (l.map (·.Body))
 |[]=>by rw[qjZ,vaP,IB]
 |a::l=>by rw[qjZ,vae,IB,qla,qer l]
theorem NZ(e:ag):dE e=IB (bA e)+1:=by rw[qlb,bA,Eu,qer]
theorem qes{n:Nat}:∀{l:List ag},(∀x∈l,dE x<=n)->IB l<=n
 |[],_=>by simp[IB]
 |x::l,h=>by
  have a:=h x (by simp)
  have b:=qes (l:=l) λy hy=>h y (by simp[hy])
  rw[IB];omega
theorem qh2:∀(e:ag),dE e<=nE e:=by
 refine qeI λe ih=>?_
 rw[NZ]
 have:IB (bA e)<=nE e - 1:=qes λx hx=>by have:=ih x hx;have:=Iy hx;omega
 have:=Oe e
 omega
theorem HE{X Y:Type}{F:(X->Option Y)->X->Option Y}(μ:X->Nat)(Q:X->Prop)(s:X->Option Y)(h:∀(R:X->Option Y) x,Q x->(∀y,μ y<μ x->Q y->R y=s y)->F R x=s x)(x:X)(hx:Q x)(hm:μ x<ZC):pA F x=s x:=by
 have key:∀n x,μ x<n->Q x->qbf F n x=s x:=by
  intro n
  induction n with
  |zero=>intro x hx;omega
  |succ n ih=>intro x hx hq;exact h _ x hq λy hy hqy=>ih y (by omega) hqy
 exact key _ x hm hx
def Gv{α S:Type}(F:S->α->Option (Bool×S)):List α->S->Option (Bool×S)
 |[],s=>some (true,s)
 |x::l,s=>(F s x).bind λr=>match r.1 with
  |false=>some (false,r.2)
  |true=>Gv F l r.2
theorem KL{α S:Type}(F:S->α->Option (Bool×S)):∀(l m:List α) (s:S),Gv F (l++m) s=(Gv F l s).bind λr=>match r.1 with
  |false=>some (false,r.2)
  |true=>Gv F m r.2
 |[],m,s=>rfl
 | x :: l,m,s => by
  rw[vaN,Gv,Gv]
  cases h:F s x with
  |none=>rfl
  |some r=>
   obtain⟨b,s'⟩:=r
   cases b with
   |false=>rfl
   |true=>exact KL F l m s'
theorem U9{α S:Type}{F G:S->α->Option (Bool×S)}:∀{l:List α},(∀x∈l,∀s,F s x=G s x)->∀s,Gv F l s=Gv G l s
 |[],_,s=>rfl
 |x::l,h,s=>by
  rw[Gv,Gv,h x (by simp)]
  congr 1
  funext r
  rw[U9 (l:=l) λy hy=>h y (by simp[hy])]
theorem qbd{α β S:Type}(F:S->β->Option (Bool×S))(g:α->β):∀(l:List α) (s:S),Gv F (l.map g) s=Gv (λs x=>F s (g x)) l s
 |[],s=>rfl
 |x::l,s=>by
  rw[vae,Gv,Gv]
  congr 1
  funext r
  rw[qbd F g l]
theorem YE{α β S:Type}(F:S->β->Option (Bool×S))(g:α->List β):∀(l:List α) (s:S),Gv F (l.flatMap g) s=Gv (λs x=>Gv F (g x) s) l s
 |[],s=>rfl
 |x::l,s=>by
  rw[vbW,KL,Gv]
  congr 1
  funext r
  rw[YE F g l]
theorem qbi{α S:Type}(l:List α)(hl:l.length<9223372036854775808)(body:Int×S->Option ((Int×S)⊕(S⊕S)))(F:S->α->Option (Bool×S))
  (hin:∀(i:Nat) (h:i<l.length) s,body ((i:Int),s)=(F s l[i]).bind λr=>match r.1 with|false=>some (.inr (.inl r.2))|true=>some (.inl (dt ((i:Int)+1),r.2)))
  (hend:∀s,body ((l.length:Int),s)=some (.inr (.inr s))) (s:S):loop body (0,s)=(Gv F l s).bind λr=>match r.1 with|false=>some (.inl r.2)|true=>some (.inr r.2):=by
 have key:∀(k i:Nat) (s:S),i+k=l.length->loop body ((i:Int),s)=(Gv F (l.drop i) s).bind λr=>match r.1 with|false=>some (.inl r.2)|true=>some (.inr r.2):=by
  intro k
  induction k with
  |zero=>
   intro i s hi
   have:i=l.length:=by omega
   subst this
   rw[ke,hend,vbN]
   rfl
  | succ k ih =>
   intro i s hi
   have hlt:i<l.length:=by omega
   rw[ke,hin i hlt,vaH hlt,Gv]
   cases hF:F s l[i]with
   |none=>rfl
   | some r =>
    obtain⟨b,s'⟩:=r
    cases b with
    |false=>rfl
    |true=>
     have:=ih (i+1) s' (by omega)
     simp only[vaa]
     rw[cC (by omega) (by omega),show((i:Int)+1)=((i+1:Nat):Int) by omega]
     exact this
 have:=key l.length 0 s (by omega)
 exact this
theorem qbW{S:Type}{F:(ag×S->Option (Bool×S))->ag×S->Option (Bool×S)}(step:S->ag->Option (Bool×S))
  (hF:∀(R:ag×S->Option (Bool×S)) e s,nE e<=cW->F R (e,s)=(step s e).bind λr=>match r.1 with
   |false=>some (false,r.2)
   |true=>Gv (λs x=>R (x,s)) (bA e) r.2) (e:ag) (s:S) (he:nE e<=cW):pA F (e,s)=Gv step (cN e) s:=by
 refine HE (λx=>nE x.1) (λx=>nE x.1<=cW) (λx=>Gv step (cN x.1) x.2) (λR x hx ih=>?_) (e,s) he (lp he)
 obtain⟨e,s⟩:=x
 show F R (e,s)=Gv step (cN e) s
 rw[hF R e s hx,um,Gv]
 congr 1
 funext r
 cases r.1 with
 |false=>rfl
 |true=>
  rw[YE]
  refine U9 (λx hx2 s=>?_) r.2
  have:=Iy hx2
  exact ih (x,s) this (vax (vbH this) hx)
theorem VJ{S:Type}(W:S->ag->Option (Bool×S))(e:ag)(he:nE e<=cW)(s:S)(b1 b2:Int×S->Option ((Int×S)⊕(S⊕S))){k1 k2:S⊕S->Option (Bool×S)}
  (h1:∀(i:Nat) (h:i<e.Kids.length) s,b1 ((i:Int),s)=(W s e.Kids[i]).bind λr=>if(!r.1)=true then some (.inr (.inl r.2))else some (.inl (dt ((i:Int)+1),r.2))) (h1e:∀s,b1 ((e.Kids.length:Int),s)=some (.inr (.inr s)))
  (h2:∀(i:Nat) (h:i<e.Alts.length) s,b2 ((i:Int),s)=(W s e.Alts[i].Body).bind λr=>if(!r.1)=true then some (.inr (.inl r.2))else some (.inl (dt ((i:Int)+1),r.2))) (h2e:∀s,b2 ((e.Alts.length:Int),s)=some (.inr (.inr s)))
  (g1:∀o,k1 (.inl o)=some (false,o)) (g2:∀o,k1 (.inr o)=(loop b2 (0,o)).bind k2) (g3:∀o,k2 (.inl o)=some (false,o)) (g4:∀o,k2 (.inr o)=some (true,o)):
  (loop b1 (0,s)).bind k1=Gv W (bA e) s:=by
 have l1:=y0 e
 have l2:=n9 e
 unfold cW at he
 rw[qbi e.Kids (by omega) b1 W (λi h s=>by rw[h1 i h s];congr 1;funext r;cases r.1<;>rfl) h1e s,bA,KL]
 cases h:Gv W e.Kids s with
 |none=>rfl
 | some r =>
  obtain⟨b,s'⟩:=r
  cases b with
  |false=>exact g1 s'
  | true =>
   simp only[vaa]
   rw[g2,qbi e.Alts (by omega) b2 (λs a=>W s a.Body) (λi h s=>by rw[h2 i h s];congr 1;funext r;cases r.1<;>rfl) h2e s',qbd]
   cases h:Gv (λs a=>W s a.Body) e.Alts s' with
   |none=>rfl
   |some r=>
    obtain⟨b,s''⟩:=r
    cases b with
    |false=>exact g3 s''
    |true=>exact g4 s''
def qlR(p:aa):Prop:=(1<=p.Op/\p.Op<=18)/\Dc p.Op (p.Kids.length:Int)=true/\(p.Op=1->qf8 p.N)
mutual
def qe8:aa->Prop
 |⟨o,n,k,ks⟩=>qlR ⟨o,n,k,ks⟩/\qid ks
def qid:List aa->Prop
 |[]=>True
 |p::ps=>qe8 p/\qid ps
end
theorem yr(p:aa):qe8 p↔qlR p/\qid p.Kids:=by obtain⟨o,n,k,ks⟩:=p;rw[qe8];exact Iff.rfl
theorem Xc:∀(l:List aa),qid l↔∀p∈l,qe8 p
 |[]=>by simp[qid]
 |p::l=>by rw[qid,Xc l];simp
theorem qcI(p:aa):jb (vP p) (λr=>(r !=0)=false->qlR p):=by
 unfold vP
 rw[qrw]
 simp only[vaa]
 rw[qrx]
 simp only[vaa]
 refine aP (λ_=>am (λh=>by cases h)) λhs=>?_
 have h1:(1<=p.Op/\p.Op<=18)/\Dc p.Op (p.Kids.length:Int)=true:=by
  simp only[OW,va8,vat,vc7,vc5,vcR,Bool.not_eq_false']at hs
  exact⟨by omega,hs.2.2⟩
 have h3:jb (mX p) (λo=>o=false->p.Op=1->qf8 p.N):=by
  unfold mX
  refine aP (λ_=>?_) λh=>?_
  ·unfold D1
   refine qf0 (aP (λha=>am ?_) λ_=>am ?_)
   ·refine aP (λ_=>am λh=>by cases h) λhb=>?_
    have hz:qf8 p.N:=⟨by simpa using ha,by simpa using hb⟩
    repeat' first|exact am (λ_ _=>hz)|refine aP (λ_=>?_) (λ_=>?_)
   ·exact aP (λ_=>am λh=>by cases h) (λh=>absurd rfl h)
  ·repeat' first|exact am (λ_ e=>absurd (by simp[e]) h)|refine aP (λ_=>?_) (λ_=>?_)
 refine aH h3 λo ho=>aP (λ_=>am (λh=>by cases h)) λhno=>aH (KA p) λ_ _=>aP (λ_=>am (λh=>by cases h)) λ_=>aH (R:=λ_=>True) ?_ λ_ _=>?_
 ·unfold vS
  refine aP (λh=>?_) λ_=>am vzz
  have h8:p.Op=8:=by simpa using h
  have hk:=h1.2
  unfold Dc at hk
  rw[h8]at hk
  refine er (aT p.Kids 0 ?_) (am vzz)
  simp at hk
  omega
 ·exact aP (λ_=>am (λh=>by cases h)) λ_=>am λ_=>⟨h1.1,h1.2,ho (by simpa using hno)⟩
theorem qct(p:aa)(hp:nP p<=cW):jb (LC p) (λr=>(r !=0)=false->qe8 p):=by
 refine Av (F:=D8) nP (λx=>nP x<=cW) (λx r=>(r !=0)=false->qe8 x) (λR x hx ih=>?_) p hp (lp hp)
 show jb (tS (λt=>R t) x) _
 unfold tS vK
 have h1:=De x
 refine aH (qcI x) λr hr=>aP (λh=>am (λh'=>by rw[h]at h';cases h')) λh=>aH (lX x.Kids (by unfold cW at hx;omega) _ qe8 (λr=>(r !=0)=true) (λi=>rfl) (λy hy i=>aH (ih _ (wO hy) (by have:=wO hy;omega)) λr hr=>aP (λh=>am h) λh=>am ⟨rfl,hr (by simpa using h)⟩)) λo ho=>?_
 cases o with
 |inl r=>
  have ho:(r !=0)=true:=ho
  exact am λh'=>by rw[ho]at h';cases h'
 |inr _=>exact am λ_=>(yr x).2 ⟨hr (by simpa using h),(Xc _).2 ho⟩
theorem ZM(p:aa)(hp:nP p<=cW):jb (nW p) (λr=>(r !=0)=false->qe8 p):=by
 unfold nW
 exact er (S9 p hp) (aP (λ_=>am (λh=>by cases h)) λ_=>er (Yq p hp) (aP (λ_=>am (λh=>by cases h)) λ_=>aH (qct p hp) λ_ h=>am h))
def SY(o:Int):Int:=if o=18 then 1 else if o=17 then 2 else if o=16 then 3 else if o=15 then 4 else if o=14 then 5 else if o=10\/o=11\/o=12\/o=13 then 6 else if o=6\/o=7 then 7 else if o=8 then 8 else if o=9 then 9 else 10
def qhG(o:Int):ae:=if o=18 then qT else if o=17 then tj else if o=16 then wD else if o=15 then wB else if o=10 then VM else if o=11 then gV else if o=12 then PK else if o=13 then wC else if o=6 then PJ else if o=7 then pT else PI
abbrev qcW(t:ae):ae:=cE++(t++dI)
def Db(least:Int)(x:Int×ae):ae:=if x.1<least then qcW x.2 else x.2
def AL(least:Int)(l:List (Int×ae))(i:Nat):ae:=((l[i]?).map (Db least)).getD []
def Ta(n:Int):ae:=if n<0 then qcW (Lib.itoa n)else Lib.itoa n
def Qx(l:List ae):ae:=qcW (Lib.join l aU)
def Il(o:Int):Int×Int:=if o=17 then(3,2)else if SY o=6 then(7,7)else(SY o,SY o+1)
mutual
def wA:aa->ae
 |⟨o,n,k,ks⟩=>if o=1 then Ta k else if o=2 then(if k=1 then nR else tn)else if o=3 then n else if o=4 then n++Qx ((qhS ks).map (·.2))else if o=5 then TZ++(n++Qx ((qhS ks).map (·.2)))
  else if o=14 then xS++AL 5 (qhS ks) 0 else if o=9 then pT++AL 9 (qhS ks) 0 else AL (Il o).1 (qhS ks) 0++(dh++(qhG o++(dh++AL (Il o).2 (qhS ks) 1)))
def qhS:List aa->List (Int×ae)
 |[]=>[]
 |p::l=>(SY p.Op,wA p)::qhS l
end
abbrev O5(p:aa):Int×ae:=(SY p.Op,wA p)
theorem qbS:∀(l:List aa),qhS l=l.map O5
 |[]=>rfl
 |p::l=>by rw[qhS,qbS l];rfl
theorem TU(p:aa):wA p=if p.Op=1 then Ta p.N else if p.Op=2 then(if p.N=1 then nR else tn)else if p.Op=3 then p.Name else if p.Op=4 then p.Name++Qx (p.Kids.map wA)else if p.Op=5 then TZ++(p.Name++Qx (p.Kids.map wA))
  else if p.Op=14 then xS++AL 5 (p.Kids.map O5) 0 else if p.Op=9 then pT++AL 9 (p.Kids.map O5) 0 else AL (Il p.Op).1 (p.Kids.map O5) 0++(dh++(qhG p.Op++(dh++AL (Il p.Op).2 (p.Kids.map O5) 1))):=by
 obtain⟨o,n,k,ks⟩:=p
 rw[wA,qbS,vbz]
 rfl
theorem SL(l:Int)(x:Int×ae):(Db l x).length<=x.2.length+2:=by
 unfold Db
 split
 ·simp[qcW,cE,dI]
 ·omega
theorem SI(l:List ae):(Lib.join l aU).length<=(l.map λs=>s.length+2).sum:=by
 cases l with
 |nil=>simp[Lib.join_nil]
 | cons x r =>
  rw[Lib.join_cons,vam,Lib.joinTail_length]
  have:∀r:List ae,(r.map λs=>s.length+2).sum=2 * r.length+Lib.lens r:=by
   intro r
   induction r with
   |nil=>rfl
   |cons y r ih=>
    rw[vae,List.sum_cons,ih]
    show _=_+(y.length+Lib.lens r)
    simp only[vaG]
    omega
  have h:=this r
  simp only[vae,List.sum_cons,show aU.length=2 from rfl]
  omega
theorem qhH(o:Int):(qhG o).length<=3:=by
 unfold qhG
 repeat' first|decide|split
theorem YL(n:Int)(h:qf8 n):(Ta n).length<=23:=by
 unfold Ta
 have:=qeM h
 split
 ·simp[qcW,cE,dI];omega
 ·omega
theorem Y5(a b:Int)(l:List (Int×ae)):(AL a l 0).length+(AL b l 1).length<=(l.map λx=>x.2.length+2).sum:=by
 unfold AL
 rcases l with _|⟨x,_|⟨y,r⟩⟩
 ·simp
 ·have:=SL a x
  simp
  omega
 ·have:=SL a x
  have:=SL b y
  simp only[List.getElem?_cons_zero,List.getElem?_cons_succ,vaj,Option.getD_some,vae,List.sum_cons]
  omega
theorem qbt(a:Int)(l:List (Int×ae)):(AL a l 0).length<=(l.map λx=>x.2.length+2).sum:=by have:=Y5 a 0 l;omega
mutual
theorem XK:∀(p:aa),qe8 p->(wA p).length+8<=40 * fP (ac p)
 | ⟨o,n,k,ks⟩,h => by
  have hk:=Rh ks ((yr _).1 h).2
  have hs:=((yr _).1 h).1
  have hm:fP (ac ⟨o,n,k,ks⟩)=1+(n.length+1+(1+(eu (ks.map ac)+1+0))):=z7 ⟨o,n,k,ks⟩
  have e:wA ⟨o,n,k,ks⟩=if o=1 then Ta k else if o=2 then(if k=1 then nR else tn)else if o=3 then n else if o=4 then n++Qx (ks.map wA)else if o=5 then TZ++(n++Qx (ks.map wA))
    else if o=14 then xS++AL 5 (ks.map O5) 0 else if o=9 then pT++AL 9 (ks.map O5) 0 else AL (Il o).1 (ks.map O5) 0++(dh++(qhG o++(dh++AL (Il o).2 (ks.map O5) 1))):=TU ⟨o,n,k,ks⟩
  rw[e]
  have hj:=SI (ks.map wA)
  rw[vbz]at hj
  have h2:=Y5 (Il o).1 (Il o).2 (ks.map O5)
  have h3:=qbt 5 (ks.map O5)
  have h4:=qbt 9 (ks.map O5)
  rw[vbz]at h2 h3 h4
  have e1:((λx:Int×ae=>x.2.length+2)∘O5)=λp=>(wA p).length+2:=rfl
  have e2:((λs:ae=>s.length+2)∘wA)=λp=>(wA p).length+2:=rfl
  rw[e1]at h2 h3 h4
  rw[e2]at hj
  have hk:(ks.map λp=>(wA p).length+2).sum<=40 * eu (ks.map ac):=hk
  have hg:=qhH o
  split
  ·rename_i h1
   have:=YL k (hs.2.2 h1)
   omega
  split
  ·split<;>simp only[nR,tn,vaG,List.length_nil]<;>omega
  split
  ·omega
  split
  ·simp only[Qx,qcW,vam,show cE.length=1 from rfl,show dI.length=1 from rfl];omega
  split
  ·simp only[Qx,qcW,vam,show cE.length=1 from rfl,show dI.length=1 from rfl,show TZ.length=1 from rfl];omega
  split
  ·simp only[vam,show xS.length=1 from rfl];omega
  split
  ·simp only[vam,show pT.length=1 from rfl];omega
  ·simp only[vam,show dh.length=1 from rfl];omega
theorem Rh:∀(l:List aa),qid l->(l.map (λp=>(wA p).length+2)).sum<=40 * eu (l.map ac)
 |[],_=>by simp
 |p::l,h=>by
  rw[qid]at h
  have h1:=XK p h.1
  have h2:=Rh l h.2
  simp only[vae,List.sum_cons,eu]
  omega
end
theorem YM{l:List ae}{s:ae}(h1:l.length<=1073741824)(h2:(Lib.join l s).length<=1073741824):Vd l s=some (Lib.join l s):=by
 unfold Vd
 rw[vad ⟨h1,h2⟩]
theorem Ve:∀(l:List ae),Lib.join l []=l.flatten
 |[]=>rfl
 |x::r=>by
  rw[Lib.join_cons]
  unfold Lib.joinTail
  simp
theorem qL{l:List ae}(h1:l.length<=1073741824)(h2:l.flatten.length<=1073741824):dW l=some l.flatten:=by
 unfold dW
 rw[YM h1 (by rw[Ve];exact h2),Ve]
 rfl
def qaS(o:Int):Bool:=o==6||o==7||o==8||o==10||o==11||o==12||o==13||o==15||o==16||o==17||o==18
theorem qeB(o:Int)(h:1<=o/\o<=18):sd o=some (if qaS o=true then⟨SY o,(Il o).1,(Il o).2,qhG o⟩else⟨0,0,0,[]⟩,qaS o):=by
 have:o=1\/o=2\/o=3\/o=4\/o=5\/o=6\/o=7\/o=8\/o=9\/o=10\/o=11\/o=12\/o=13\/o=14\/o=15\/o=16\/o=17\/o=18:=by omega
 rcases this with rfl|rfl|rfl|rfl|rfl|rfl|rfl|rfl|rfl|rfl|rfl|rfl|rfl|rfl|rfl|rfl|rfl|rfl<;>rfl
theorem qeS(p:aa)(h:1<=p.Op/\p.Op<=18):Aa p=some (SY p.Op):=by
 obtain⟨o,n,k,ks⟩:=p
 have:o=1\/o=2\/o=3\/o=4\/o=5\/o=6\/o=7\/o=8\/o=9\/o=10\/o=11\/o=12\/o=13\/o=14\/o=15\/o=16\/o=17\/o=18:=by have h:1<=o/\o<=18:=h;omega
 rcases this with rfl|rfl|rfl|rfl|rfl|rfl|rfl|rfl|rfl|rfl|rfl|rfl|rfl|rfl|rfl|rfl|rfl|rfl<;>rfl
theorem Vw(p:aa)(h:1<=p.Op/\p.Op<=18):Ip p=some (SY p.Op):=by
 obtain⟨o,n,k,ks⟩:=p
 have:o=1\/o=2\/o=3\/o=4\/o=5\/o=6\/o=7\/o=8\/o=9\/o=10\/o=11\/o=12\/o=13\/o=14\/o=15\/o=16\/o=17\/o=18:=by have h:1<=o/\o<=18:=h;omega
 rcases this with rfl|rfl|rfl|rfl|rfl|rfl|rfl|rfl|rfl|rfl|rfl|rfl|rfl|rfl|rfl|rfl|rfl|rfl<;>rfl
theorem qfO(o:Int)(h:qaS o=true):RM o=some (qhG o):=by
 have:o=6\/o=7\/o=8\/o=10\/o=11\/o=12\/o=13\/o=15\/o=16\/o=17\/o=18:=by simpa[qaS,or_assoc]using h
 rcases this with rfl|rfl|rfl|rfl|rfl|rfl|rfl|rfl|rfl|rfl|rfl<;>rfl
theorem W7(o:Int):1<=SY o:=by
 unfold SY
 repeat' first|omega|split
theorem qhb(p:aa):Db 1 (O5 p)=wA p:=by
 unfold Db
 rw[vab (by have:=W7 p.Op;simp only[O5];omega)]
abbrev qfT(p:aa):Prop:=qe8 p/\fP (ac p)<=16777216
theorem XF{p x:aa}(h:qfT p)(hx:x∈p.Kids):qfT x:=by
 refine⟨(Xc _).1 ((yr p).1 h.1).2 x hx,?_⟩
 have h1:=z7 p
 have h2:=Dr (var.2 ⟨x,hx,rfl⟩:ac x∈p.Kids.map ac)
 have:=h.2
 omega
theorem XG{p:aa}(h:qfT p):(wA p).length<=671088640:=by
 have:=XK p h.1
 have:=h.2
 omega
theorem IZ{p:aa}(h:qfT p):(Lib.join (p.Kids.map wA) aU).length<=671088640/\p.Kids.length<=16777216:=by
 have h1:=SI (p.Kids.map wA)
 rw[vbz]at h1
 have h2:(p.Kids.map λp=>(wA p).length+2).sum<=_:=Rh p.Kids ((yr p).1 h.1).2
 have h1:(Lib.join (p.Kids.map wA) aU).length<=(p.Kids.map λp=>(wA p).length+2).sum:=h1
 have h3:=z7 p
 have h4:=h.2
 have h5:=qia p.Kids
 omega
theorem qeN{p:aa}(h:qlR p)(hb:qaS p.Op=true):∃a b,p.Kids=[a,b]:=by
 have hk:=h.2.1
 have:p.Op=6\/p.Op=7\/p.Op=8\/p.Op=10\/p.Op=11\/p.Op=12\/p.Op=13\/p.Op=15\/p.Op=16\/p.Op=17\/p.Op=18:=by simpa[qaS,or_assoc]using hb
 unfold Dc at hk
 rw[vab (by omega),vab (by omega),vab (by omega)]at hk
 have hl:p.Kids.length=2:=by
  have:(p.Kids.length:Int)=2:=by simpa using hk
  omega
 match h:p.Kids,hl with
 |[a,b],_=>exact⟨a,b,rfl⟩
theorem W2{p:aa}(h:qlR p)(hb:p.Op=9\/p.Op=14):∃a,p.Kids=[a]:=by
 have hk:=h.2.1
 unfold Dc at hk
 rw[vab (by omega),vab (by omega),vad hb]at hk
 have hl:p.Kids.length=1:=by
  have:(p.Kids.length:Int)=1:=by simpa using hk
  omega
 match h:p.Kids,hl with
 |[a],_=>exact⟨a,rfl⟩
theorem qbq{o:Int}(h:1<=o/\o<=18)(hb:qaS o=false):o=1\/o=2\/o=3\/o=4\/o=5\/o=14\/o=9:=by
 have:¬(o=6\/o=7\/o=8\/o=10\/o=11\/o=12\/o=13\/o=15\/o=16\/o=17\/o=18):=λh=>by
  have:qaS o=true:=by simpa[qaS,or_assoc]using h
  rw[this]at hb
  cases hb
 omega
theorem qaT{o:Int}(hb:qaS o=true):o≠1/\o≠2/\o≠3/\o≠4/\o≠5/\o≠14/\o≠9:=by
 have:o=6\/o=7\/o=8\/o=10\/o=11\/o=12\/o=13\/o=15\/o=16\/o=17\/o=18:=by simpa[qaS,or_assoc]using hb
 omega
theorem qbT{p a b:aa}(hb:qaS p.Op=true)(hk:p.Kids=[a,b]):wA p=Db (Il p.Op).1 (O5 a)++(dh++(qhG p.Op++(dh++Db (Il p.Op).2 (O5 b)))):=by
 obtain⟨h1,h2,h3,h4,h5,h6,h7⟩:=qaT hb
 rw[TU,vab h1,vab h2,vab h3,vab h4,vab h5,vab h6,vab h7,hk]
 rfl
theorem Za(R:aa->Int->Option ae)(l:List aa)(hl:l.length<=16777216)(hR:∀x∈l,R x 1=some (wA x))(hj:(Lib.join (l.map wA) aU).length<=671088640):lP R l=some (Qx (l.map wA)):=by
 unfold lP
 have hL:ls R l (l.length:Int) ([]:List ae) 0=some (l.map wA):=by
  unfold ls
  have key:=ej l.length (λzz:List ae×Int=>gy R l (l.length:Int) zz.1 zz.2) (λi=>((l.take i).map wA,(i:Int))) (l.map wA) (λi hi=>?_) ?_
  ·rw[<-key];simp
  ·simp only[gy]
   rw[vad (by simp;omega),aT _ _ hi]
   simp only[vaa]
   rw[hR _ (vag hi)]
   simp only[vaa]
   rw[qn (by simp;omega)]
   simp only[vaa]
   rw[cC (by omega) (by omega),vav hi,vaA]
   rfl
  ·simp only[gy]
   rw[vab (by simp)]
   simp
 rw[hL]
 simp only[vaa]
 rw[YM (by simp;omega) (by omega)]
 simp only[vaa]
 rw[qL (by simp) (by simp[cE,dI];omega)]
 simp[Qx,qcW]
theorem qfc(p:aa)(l:Int)(h:qfT p):wX p l=some (Db l (O5 p)):=by
 have hm:∀p:aa,qfT p->nP p<=16777216:=λp h=>vax (S1 p) h.2
 refine HE (F:=sb) (λx=>2 * nP x.1+if SY x.1.Op<x.2 then 1 else 0) (λx=>qfT x.1) (λx=>some (Db x.2 (O5 x.1))) (λR x hx ih=>?_) (p,l) h (by
  have:=hm p h
  unfold ZC
  simp only[]
  split<;>omega)
 obtain⟨p,l⟩:=x
 show mD (λp least=>R (p,least)) p l=some (Db l (O5 p))
 have hx:qfT p:=hx
 have hs:=((yr p).1 hx.1).1
 have hlen:=XG hx
 have hR:∀x∈p.Kids,∀l,R (x,l)=some (Db l (O5 x)):=λx hx' l=>ih (x,l) (by
  have:=wO hx'
  simp only[]
  split<;>split<;>omega) (XF hx hx')
 unfold mD
 rw[qeS p hs.1]
 simp only[vaa]
 by_cases hlv:SY p.Op<l
 ·rw[vad (by simpa using hlv)]
  have h1:=ih (p,1) (by
   have:=W7 p.Op
   simp only[]
   rw[vab (by omega),vad hlv]
   omega) hx
  have h1:R (p,1)=some (Db 1 (O5 p)):=h1
  rw[h1,qhb]
  simp only[vaa]
  rw[qL (by simp) (by simp[cE,dI];omega)]
  simp[Db,hlv,qcW]
 rw[vab (by simpa using hlv),qeB _ hs.1]
 simp only[vaa]
 have hkt:Db l (O5 p)=wA p:=by unfold Db;rw[vab hlv]
 rw[hkt]
 cases hb:qaS p.Op with
 |true=>
  obtain⟨a,b,hk⟩:=qeN hs hb
  have ht:=qbT hb hk
  rw[vad rfl,vad rfl,hk,cz]
  simp only[vaa]
  have h2:=aT [a,b] 1 (by simp)
  rw[show((1:Nat):Int)=1 from rfl]at h2
  rw[hR a (by rw[hk];simp),h2]
  simp only[vaa,List.getElem_cons_succ,List.getElem_cons_zero]
  rw[hR b (by rw[hk];simp)]
  simp only[vaa]
  rw[ht]at hlen
  rw[qL (by simp) (by simp only[List.flatten_cons,List.flatten_nil,vak];exact vax hlen (by omega)),ht]
  simp
 | false =>
  rw[vab (by simp)]
  rw[TU]at hlen ⊢
  rcases qbq hs.1 hb with h1|h1|h1|h1|h1|h1|h1
  ·rw[vad (by simp[h1]),vad h1]
   have hz:=hs.2.2 h1
   have:=qeM hz
   unfold Ta
   by_cases hn:p.N<0
   ·rw[vad (by simpa using hn),vad hn,IH hz]
    simp only[vaa]
    rw[qL (by simp) (by simp[cE,dI];omega)]
    simp[qcW]
   ·rw[vab (by simpa using hn),vab hn,IH hz]
    rfl
  ·rw[vab (by simp[h1]),vad (by simp[h1]),vab (by omega),vad h1]
   by_cases hn:p.N=1
   ·rw[vad hn]
    unfold gb e8
    rw[vad (by simpa using hn)]
    rfl
   ·rw[vab hn]
    unfold gb e8
    rw[vab (by simpa using hn)]
    rfl
  ·rw[vab (by simp[h1]),vab (by simp[h1]),vad (by simp[h1]),vab (by omega),vab (by omega),vad h1]
  ·rw[vab (by simp[h1]),vab (by simp[h1]),vab (by simp[h1]),vad (by simp[h1]),vab (by omega),vab (by omega),vab (by omega),vad h1]
   rw[vab (by omega),vab (by omega),vab (by omega),vad h1]at hlen
   rw[Za _ _ (IZ hx).2 (λx hx'=>by rw[hR x hx' 1,qhb]) (IZ hx).1]
   simp only[vaa]
   rw[qL (by simp) (by simpa using(vax hlen (by omega):_<=1073741824))]
   simp
  ·rw[vab (by simp[h1]),vab (by simp[h1]),vab (by simp[h1]),vab (by simp[h1]),vad (by simp[h1]),vab (by omega),vab (by omega),vab (by omega),vab (by omega),vad h1]
   rw[vab (by omega),vab (by omega),vab (by omega),vab (by omega),vad h1]at hlen
   rw[Za _ _ (IZ hx).2 (λx hx'=>by rw[hR x hx' 1,qhb]) (IZ hx).1]
   simp only[vaa]
   rw[qL (by simp) (by simpa using(vax hlen (by omega):_<=1073741824))]
   simp
  ·rw[vab (by simp[h1]),vab (by simp[h1]),vab (by simp[h1]),vab (by simp[h1]),vab (by simp[h1]),vad (by simp[h1]),vab (by omega),vab (by omega),vab (by omega),vab (by omega),vab (by omega),vad h1]
   rw[vab (by omega),vab (by omega),vab (by omega),vab (by omega),vab (by omega),vad h1]at hlen
   obtain⟨a,hk⟩:=W2 hs (.inr h1)
   rw[hk]at hlen ⊢
   rw[cz]
   simp only[vaa]
   rw[hR a (by rw[hk];simp)]
   simp only[vaa]
   rw[qL (by simp) (by simpa[AL]using(vax hlen (by omega):_<=1073741824))]
   simp[AL]
  ·rw[vab (by simp[h1]),vab (by simp[h1]),vab (by simp[h1]),vab (by simp[h1]),vab (by simp[h1]),vab (by simp[h1]),vab (by omega),vab (by omega),vab (by omega),vab (by omega),vab (by omega),vab (by omega),vad h1]
   rw[vab (by omega),vab (by omega),vab (by omega),vab (by omega),vab (by omega),vab (by omega),vad h1]at hlen
   obtain⟨a,hk⟩:=W2 hs (.inl h1)
   rw[hk]at hlen ⊢
   rw[cz]
   simp only[vaa]
   rw[hR a (by rw[hk];simp)]
   simp only[vaa]
   rw[qL (by simp) (by simpa[AL]using(vax hlen (by omega):_<=1073741824))]
   simp[AL]
theorem qcy(l:List ae)(x s:ae):Lib.join (l++[x]) s=if l=[]then x else Lib.join l s++(s++x):=by
 cases l with
 |nil=>rw[vad rfl];exact Lib.join_one x s
 |cons y r=>
  rw[vab (by simp),vaN,Lib.join_cons,Lib.join_cons]
  unfold Lib.joinTail
  simp
theorem Zo(R:aa->Option ae)(l:List aa)(hl:l.length<=16777216)(hR:∀x∈l,R x=some (wA x))(hj:(l.map λp=>(wA p).length+2).sum<=671088640):G0 R l=some (Qx (l.map wA)):=by
 unfold G0
 have hsum:∀i,((l.take i).map λp=>(wA p).length+2).sum<=671088640:=λi=>by
  refine vax ?_ hj
  conv=>rhs;rw[<-vbp i l,vaA,vaJ]
  omega
 have hjl:∀i,(Lib.join ((l.take i).map wA) aU).length<=671088640:=λi=>by
  have:=SI ((l.take i).map wA)
  rw[vbz]at this
  exact vax this (hsum i)
 have hx1:∀i (hi:i<l.length),(wA l[i]).length<=671088640:=λi hi=>by
  have:=hsum (i+1)
  rw[vav hi,vaA,vaJ]at this
  simp at this
  omega
 have hL:Bf R l cE 0=some (cE++Lib.join (l.map wA) aU):=by
  unfold Bf
  have key:=ej l.length (λzz:ae×Int=>pq R l zz.1 zz.2) (λi=>(cE++Lib.join ((l.take i).map wA) aU,(i:Int))) (cE++Lib.join (l.map wA) aU) (λi hi=>?_) ?_
  ·rw[<-key];simp[Lib.join_nil]
  ·simp only[pq]
   rw[vad (by simp;omega)]
   have h1:=hjl i
   have h2:=hx1 i hi
   have hJ:Be (cE++Lib.join ((l.take i).map wA) aU) (i:Int)=some (cE++(Lib.join ((l.take i).map wA) aU++(if i=0 then[]else aU))):=by
    unfold Be
    by_cases h0:i=0
    ·subst h0;rfl
    ·rw[vad (by simp;omega),gw (by simp only[vam,show cE.length=1 from rfl,show aU.length=2 from rfl];omega),vab h0]
     simp
   rw[hJ]
   simp only[vaa]
   rw[aT _ _ hi]
   simp only[vaa]
   rw[hR _ (vag hi)]
   simp only[vaa]
   rw[gw (by split<;>simp only[vam,List.length_nil,show cE.length=1 from rfl,show aU.length=2 from rfl]<;>omega)]
   simp only[vaa]
   rw[cC (by omega) (by omega),vav hi,vaA,vae,vaP,qcy]
   refine vaW some (vaW Sum.inl (Prod.ext ?_ (by show(i:Int)+1=((i+1:Nat):Int);omega)))
   show cE++(Lib.join ((l.take i).map wA) aU++(if i=0 then[]else aU))++wA l[i]=_
   by_cases h0:i=0
   ·subst h0;simp[Lib.join_nil]
   ·rw[vab h0,vab (by cases l with
     |nil=>simp at hi
     |cons y r=>cases i with
      |zero=>omega
      |succ i=>simp)]
    simp
  ·simp only[pq]
   rw[vab (by simp)]
   simp
 rw[hL]
 simp only[vaa]
 have:=hjl l.length
 rw[va1]at this
 rw[gw (by simp[cE,dI];omega)]
 simp[Qx,qcW]
theorem qhw(R:aa->Option ae)(p:aa)(l:Int)(h:qfT p)(hR:R p=some (wA p)):uN R p l=some (Db l (O5 p)):=by
 have hs:=((yr p).1 h.1).1
 have hlen:=XG h
 unfold uN Db
 rw[Vw p hs.1]
 simp only[vaa]
 by_cases hlv:SY p.Op<l
 ·rw[vad (by simpa using hlv),vad hlv,hR]
  simp only[vaa]
  rw[gw (by simp[cE];omega)]
  simp only[vaa]
  rw[gw (by simp[cE,dI];omega)]
  simp[qcW]
 ·rw[vab (by simpa using hlv),vab hlv,hR]
  rfl
theorem qfP(p:aa)(h:qfT p):RN p=some (wA p):=by
 have hm:nP p<=16777216:=vax (S1 p) h.2
 refine HE (F:=Kh) nP qfT (λx=>some (wA x)) (λR p hx ih=>?_) p h (by unfold ZC;omega)
 show D9 (λp=>R p) p=some (wA p)
 have hs:=((yr p).1 hx.1).1
 have hlen:=XG hx
 have hR:∀x∈p.Kids,R x=some (wA x):=λx hx'=>ih x (wO hx') (XF hx hx')
 have hK:∀x∈p.Kids,∀l,uN (λp=>R p) x l=some (Db l (O5 x)):=λx hx' l=>qhw _ x l (XF hx hx') (hR x hx')
 have hj:(p.Kids.map λp=>(wA p).length+2).sum<=671088640:=by
  have h2:(p.Kids.map λp=>(wA p).length+2).sum<=_:=Rh p.Kids ((yr p).1 hx.1).2
  have h3:=z7 p
  have h4:=hx.2
  omega
 unfold D9
 rw[Vw p hs.1]
 simp only[vaa]
 cases hb:qaS p.Op with
 | true =>
  obtain⟨a,b,hk⟩:=qeN hs hb
  have ht:=qbT hb hk
  obtain⟨h1,h2,h3,h4,h5,h6,h7⟩:=qaT hb
  rw[vab (by simpa using h1),vab (by simpa using h2),vab (by simpa using h3),vab (by simpa using h4),vab (by simpa using h5),vab (by simpa using h6),vab (by simpa using h7)]
  rw[ht]at hlen
  simp only[vam]at hlen
  have hi1:=aT [a,b] 1 (by simp)
  rw[show((1:Nat):Int)=1 from rfl]at hi1
  have hw:dt (SY p.Op+1)=SY p.Op+1:=by
   have h9:SY p.Op<=10:=by
    unfold SY
    repeat' first|omega|split
   have:=W7 p.Op
   exact cC (by omega) (by omega)
  rw[hw,hk,cz]
  simp only[vaa]
  rw[hi1]
  simp only[vaa,List.getElem_cons_succ,List.getElem_cons_zero]
  have ha:a∈p.Kids:=by rw[hk];simp
  have hb':b∈p.Kids:=by rw[hk];simp
  by_cases h17:p.Op=17
  ·rw[vad (by simpa using h17)]
   have hl2:SY p.Op=2:=by rw[h17];rfl
   have ht2:Il p.Op=(3,2):=by rw[h17];rfl
   have hsg:qhG p.Op=tj:=by rw[h17];rfl
   rw[ht2,hsg]at hlen
   have hlen:(Db 3 (O5 a)).length+(dh.length+(tj.length+(dh.length+(Db 2 (O5 b)).length)))<=671088640:=hlen
   rw[hl2,hK a ha,show((2:Int)+1)=3 from rfl]
   simp only[vaa]
   rw[gw (by simp[th];omega)]
   simp only[vaa]
   rw[hK b hb']
   simp only[vaa]
   rw[gw (by simp[th];omega),ht,ht2,hsg]
   simp[th,dh,tj]
  ·rw[vab (by simpa using h17)]
   have hJ:Bg (SY p.Op)=some (Il p.Op).1:=by
    unfold Bg Il
    rw[vab h17]
    by_cases h6:SY p.Op=6
    ·rw[vad (by simpa using h6),vad h6]
    ·rw[vab (by simpa using h6),vab h6]
   have h2r:(Il p.Op).2=SY p.Op+1:=by
    unfold Il
    rw[vab h17]
    split
    ·rename_i h6;rw[h6];rfl
    ·rfl
   rw[hJ]
   simp only[vaa]
   rw[hK a ha]
   simp only[vaa]
   rw[gw (by simp[dh];omega)]
   simp only[vaa]
   rw[qfO _ hb]
   simp only[vaa]
   rw[gw (by simp[dh];simp[dh]at hlen;omega)]
   simp only[vaa]
   rw[gw (by simp[dh];simp[dh]at hlen;omega)]
   simp only[vaa]
   rw[hK b hb',<-h2r]
   simp only[vaa]
   rw[gw (by simp[dh];simp[dh]at hlen;omega),ht]
   simp
 | false =>
  rw[TU]at hlen ⊢
  rcases qbq hs.1 hb with h1|h1|h1|h1|h1|h1|h1
  ·rw[vad (by simp[h1]),vad h1]
   have hz:=hs.2.2 h1
   have:=qeM hz
   unfold Ta
   by_cases hn:p.N<0
   ·rw[vad (by simpa using hn),vad hn,M1 hz]
    simp only[vaa]
    rw[gw (by simp[cE];omega)]
    simp only[vaa]
    rw[gw (by simp[cE,dI];omega)]
    simp[qcW]
   ·rw[vab (by simpa using hn),vab hn,M1 hz]
    rfl
  ·rw[vab (by simp[h1]),vad (by simp[h1]),vab (show ¬p.Op=1 by omega),vad h1]
   by_cases hn:p.N=1
   ·rw[vad hn,vad (by simpa using hn)]
   ·rw[vab hn,vab (by simpa using hn)]
  ·rw[vab (by simp[h1]),vab (by simp[h1]),vad (by simp[h1]),vab (by omega),vab (by omega),vad h1]
  ·rw[vab (by simp[h1]),vab (by simp[h1]),vab (by simp[h1]),vad (by simp[h1]),vab (by omega),vab (by omega),vab (by omega),vad h1]
   rw[vab (by omega),vab (by omega),vab (by omega),vad h1]at hlen
   rw[Zo _ _ (IZ hx).2 hR hj]
   simp only[vaa]
   rw[gw (by simp at hlen ⊢;omega)]
   rfl
  ·rw[vab (by simp[h1]),vab (by simp[h1]),vab (by simp[h1]),vab (by simp[h1]),vad (by simp[h1]),vab (by omega),vab (by omega),vab (by omega),vab (by omega),vad h1]
   rw[vab (by omega),vab (by omega),vab (by omega),vab (by omega),vad h1]at hlen
   rw[gw (by simp at hlen ⊢;omega)]
   simp only[vaa]
   rw[Zo _ _ (IZ hx).2 hR hj]
   simp only[vaa]
   rw[gw (by simp at hlen ⊢;omega)]
   simp
  ·rw[vab (by simp[h1]),vab (by simp[h1]),vab (by simp[h1]),vab (by simp[h1]),vab (by simp[h1]),vad (by simp[h1]),vab (by omega),vab (by omega),vab (by omega),vab (by omega),vab (by omega),vad h1]
   rw[vab (by omega),vab (by omega),vab (by omega),vab (by omega),vab (by omega),vad h1]at hlen
   obtain⟨a,hk⟩:=W2 hs (.inr h1)
   have hlv:SY p.Op=5:=by rw[h1];rfl
   have ha:a∈p.Kids:=by rw[hk];simp
   rw[hk]at hlen ⊢
   rw[cz,hlv]
   simp only[vaa]
   rw[hK a ha]
   simp only[vaa]
   rw[gw (by simp[AL]at hlen ⊢;omega)]
   rfl
  ·rw[vab (by simp[h1]),vab (by simp[h1]),vab (by simp[h1]),vab (by simp[h1]),vab (by simp[h1]),vab (by simp[h1]),vad (by simp[h1]),vab (by omega),vab (by omega),vab (by omega),vab (by omega),vab (by omega),vab (by omega),vad h1]
   rw[vab (by omega),vab (by omega),vab (by omega),vab (by omega),vab (by omega),vab (by omega),vad h1]at hlen
   obtain⟨a,hk⟩:=W2 hs (.inl h1)
   have hlv:SY p.Op=9:=by rw[h1];rfl
   have ha:a∈p.Kids:=by rw[hk];simp
   rw[hk]at hlen ⊢
   rw[cz,hlv]
   simp only[vaa]
   rw[hK a ha]
   simp only[vaa]
   rw[gw (by simp[AL]at hlen ⊢;omega)]
   rfl
def Uk(p:aa):Int:=(nW p).getD 0
theorem WF(p:aa)(h:fP (ac p)<=16777216):nW p=some (Uk p)/\uq p=some (Uk p)/\(Uk p=0->qe8 p):=by
 have hb:nP p<=cW:=vax (S1 p) (vax h (by unfold cW;omega))
 obtain⟨r,e,hr⟩:=ZM p hb
 have:Uk p=r:=by unfold Uk;rw[e];rfl
 exact⟨by rw[e,this],by rw[qcS p hb,e,this],λh0=>hr (by rw[<-this,h0];rfl)⟩
def Cb(p:aa):ae×Int:=if Uk p=0 then(wA p,0)else([],Uk p)
theorem qls(p:aa)(h:fP (ac p)<=16777216):vq p=some (Cb p):=by
 obtain⟨h1,h2,h3⟩:=WF p h
 unfold vq Cb
 rw[h2]
 simp only[vaa]
 by_cases h0:Uk p=0
 ·rw[vab (by simp[h0]),vad h0,qfc p 1 ⟨h3 h0,h⟩,qhb]
  rfl
 ·rw[vad (by simpa using h0),vab h0]
theorem qlH(p:aa)(h:fP (ac p)<=16777216):LD p=some (Cb p):=by
 obtain⟨h1,h2,h3⟩:=WF p h
 unfold LD Cb
 rw[h1]
 simp only[vaa]
 by_cases h0:Uk p=0
 ·rw[vab (by simp[h0]),vad h0,qfP p ⟨h3 h0,h⟩]
  rfl
 ·rw[vad (by simpa using h0),vab h0]
theorem VG(p:aa)(h:fP (ac p)<=16777216):(Cb p).1.length<=40 * fP (ac p):=by
 unfold Cb
 split
 ·rename_i h0
  have:=XK p ((WF p h).2.2 h0)
  simp only[]
  omega
 ·simp
end Go.Proofs.YtibglelmlnfojaaGreatDoor
