/- PROVED: a part of the proof. Conditions: none. -/
import Derived.Test.YtjddnhkahpfhdaaGreatDoorPkO17
import Derived.Test.YtjddnhkahpfhdaaGreatDoorPkO9
import Derived.Test.YtjddnhkahpfhdaaGreatDoorPkO11
set_option linter.unusedSimpArgs false
set_option linter.unusedVariables false
noncomputable section
namespace Go.Proofs.YtjddnhkahpfhdaaGreatDoor
open Go
set_option linter.unusedVariables false
set_option linter.unusedSimpArgs false
noncomputable instance decVc:DecidableEq aa:=λa b=>Classical.propDecidable _
noncomputable instance decBc:DecidableEq aA:=λa b=>Classical.propDecidable _
theorem DR{a b:aa}:a=b↔a.Op=b.Op/\a.N=b.N/\a.Name=b.Name/\a.Kids=b.Kids/\a.Params=b.Params/\a.Body=b.Body/\a.Binds=b.Binds:=by
 obtain⟨o,n,k,ks,ps,as1,ts⟩:=a
 obtain⟨o',n',k',ks',ps',as1',ts'⟩:=b
 constructor
 ·rintro h;cases h;exact⟨rfl,rfl,rfl,rfl,rfl,rfl,rfl⟩
 ·rintro⟨h1,h2,h3,h4,h5,h6,h7⟩;cases h1;cases h2;cases h3;cases h4;cases h5;cases h6;cases h7;rfl
theorem Gp{a b:aA}:a=b↔a.Name=b.Name/\a.Value=b.Value:=by
 obtain⟨n,t⟩:=a
 obtain⟨n',t'⟩:=b
 constructor
 ·rintro h;cases h;exact⟨rfl,rfl⟩
 ·rintro⟨h1,h2⟩;cases h1;cases h2;rfl
abbrev vF(v:aa):Prop:=cW (ac v)<=cV
theorem mY{v x:aa}(h:vF v)(hx:x∈v.Kids):vF x:=vaw (vbz (iQ hx)) h
theorem Dg{v:aa}{x:aA}(h:vF v)(hx:x∈v.Binds):vF x.Value:=vaw (vbz (yI hx)) h
theorem Dh{v:aa}{x:aj}(h:vF v)(hx:x∈v.Body):BQ x:=vaw (vbz (IZ hx)) h
theorem PH{v:aa}(h:vF v):Ho v.Body<=cV:=by have:=J5 v.Body;have:=dM v;have h:cW (ac v)<=cV:=h;omega
theorem Q3{R:aa->aa->Option Bool}{a b:List aa}(ha:a.length<=cV)(h:∀x∈a,∀y∈b,R x y=some (decide (x=y))):iU R a b=some (decide (a=b)):=by
 unfold iU je
 refine iK ha _ (λi h1 h2=>?_) ?_ rfl rfl
 ·show cX R b a (a.length:Int) (i:Int)=_
  unfold cX
  rw[vaA (by simpa using h1),aQ a i h1]
  simp only[vab]
  rw[aQ b i h2]
  simp only[vab]
  rw[h _ (vah h1) _ (vah h2)]
  simp only[vab]
  by_cases he:a[i]=b[i]<;>simp[he]
 ·show cX R b a (a.length:Int) (a.length:Int)=_
  unfold cX
  rw[vaz (by simp)]
theorem Q0{R:aa->aa->Option Bool}(a b:aA)(h:R a.Value b.Value=some (decide (a.Value=b.Value))):nc R a b=some (decide (a=b)):=by
 unfold nc
 rw[h]
 simp only[vab,M6,vas]
 rw[vbR]
 simp[Gp (a:=a) (b:=b)]
theorem PN{R:aa->aa->Option Bool}{a b:List aA}(ha:a.length<=cV)(h:∀x∈a,∀y∈b,R x.Value y.Value=some (decide (x.Value=y.Value))):gE R a b=some (decide (a=b)):=by
 unfold gE ib
 refine iK ha _ (λi h1 h2=>?_) ?_ rfl rfl
 ·show cB R b a (a.length:Int) (i:Int)=_
  unfold cB
  rw[vaA (by simpa using h1),aQ a i h1]
  simp only[vab]
  rw[aQ b i h2]
  simp only[vab]
  rw[Q0 _ _ (h _ (vah h1) _ (vah h2))]
  simp only[vab]
  by_cases he:a[i]=b[i]<;>simp[he]
 ·show cB R b a (a.length:Int) (a.length:Int)=_
  unfold cB
  rw[vaz (by simp)]
theorem NZ(a b:aa)(ha:vF a):om a b=some (decide (a=b)):=by
 refine gv (F:=rK) (λx=>cW (ac x.1)) (λx=>vF x.1) (λx=>decide (x.1=x.2)) (λR x hx ih=>?_) (a,b) ha (gB ha)
 obtain⟨u,v⟩:=x
 have hu:vF u:=hx
 have l0:cW (ac u)<=cV:=hu
 have l1:=iZ u
 have l2:=xK u
 have l3:=uJ u
 show nf (λa a2=>R (a,a2)) u v=some (decide (u=v))
 unfold nf p9
 rw[Q3 (R:=λa a2=>R (a,a2)) (a:=u.Kids) (b:=v.Kids) (by omega) (λx hx y _=>ih (x,y) (iQ hx) (mY hu hx)),zY (by omega),Ka _ _ (PH hu) (λx hx=>Dh hu hx),
  PN (R:=λa a2=>R (a,a2)) (a:=u.Binds) (b:=v.Binds) (by omega) (λx hx y _=>ih (x.Value,y.Value) (yI hx) (Dg hu hx))]
 have he:=DR (a:=u) (b:=v)
 by_cases e1:u.Op=v.Op<;>by_cases e2:u.N=v.N<;>by_cases e3:u.Name=v.Name<;>by_cases e4:u.Kids=v.Kids<;>by_cases e5:u.Params=v.Params<;>by_cases e6:u.Body=v.Body<;>by_cases e7:u.Binds=v.Binds<;>simp[he,e1,e2,e3,e4,e5,e6,e7]
theorem Ok{a b:List aj}(ha:a.length<=cV)(h:∀x∈a,BQ x)(h':∀x∈b,BQ x):j2 a b=some (decide (a=b)):=by
 unfold j2 j3
 refine iK ha _ (λi h1 h2=>?_) ?_ rfl rfl
 ·show dH a b (i:Int)=_
  unfold dH
  rw[vaA (by simpa using h1),aQ a i h1]
  simp only[vab]
  rw[aQ b i h2]
  simp only[vab]
  rw[Ol _ _ (h _ (vah h1)) (h' _ (vah h2))]
  simp only[vab]
  by_cases he:a[i]=b[i]<;>simp[he]
 ·show dH a b (a.length:Int)=_
  unfold dH
  rw[vaz (by simp)]
theorem PY{R:aa->aa->Option Bool}{a b:List aA}(ha:a.length<=cV)(h:∀x∈a,∀y∈b,R x.Value y.Value=some (decide (x.Value=y.Value))):lk R a b=some (decide (a=b)):=by
 unfold lk kJ
 refine iK ha _ (λi h1 h2=>?_) ?_ rfl rfl
 ·show dW R a b (i:Int)=_
  unfold dW kI
  rw[vaA (by simpa using h1),aQ a i h1]
  simp only[vab]
  rw[aQ b i h2]
  simp only[vab]
  rw[h _ (vah h1) _ (vah h2)]
  simp only[vab]
  have he:=Gp (a:=a[i]) (b:=b[i])
  by_cases e1:a[i].Name=b[i].Name<;>by_cases e2:a[i].Value=b[i].Value<;>simp[he,e1,e2]
 ·show dW R a b (a.length:Int)=_
  unfold dW
  rw[vaz (by simp)]
theorem Ra(a b:aa)(ha:vF a)(hb:vF b):Co a b=some (decide (a=b)):=by
 refine gv (F:=wR) (λx=>cW (ac x.1)) (λx=>vF x.1/\vF x.2) (λx=>decide (x.1=x.2)) (λR x hx ih=>?_) (a,b) ⟨ha,hb⟩ (gB ha)
 obtain⟨u,v⟩:=x
 obtain⟨hu,hv⟩:vF u/\vF v:=hx
 have l0:cW (ac u)<=cV:=hu
 have l1:=iZ u
 have l2:=xK u
 have l3:=uJ u
 have l4:=Gq u
 show qV (λa a2=>R (a,a2)) u v=some (decide (u=v))
 unfold qV tH
 rw[Ab (by omega),Ok (by omega) (λx hx=>Dh hu hx) (λx hx=>Dh hv hx),
  PY (R:=λa a2=>R (a,a2)) (a:=u.Binds) (b:=v.Binds) (by omega) (λx hx y hy=>ih (x.Value,y.Value) (yI hx) ⟨Dg hu hx,Dg hv hy⟩)]
 have he:=DR (a:=u) (b:=v)
 by_cases hk:u.Kids.length=v.Kids.length
 ·have hL:oY (λa a2=>R (a,a2)) u v 0=some (if decide (u.Kids=v.Kids)=true then .inr ()else .inl ()):=by
   unfold oY
   refine nV hk (by unfold cV at l0;omega) (λzz=>fC (λa a2=>R (a,a2)) u v zz) (.inl ()) (.inr ()) (λi h1 h2=>?_) ?_
   ·show fC (λa a2=>R (a,a2)) u v (i:Int)=_
    unfold fC
    rw[vaA (by simpa using h1),aQ _ i h1]
    simp only[vab]
    rw[aQ _ i h2]
    simp only[vab]
    rw[ih (u.Kids[i],v.Kids[i]) (iQ (vah h1)) ⟨mY hu (vah h1),mY hv (vah h2)⟩]
    simp only[vab]
    by_cases he:u.Kids[i]=v.Kids[i]<;>simp[he]
   ·show fC (λa a2=>R (a,a2)) u v (u.Kids.length:Int)=_
    unfold fC
    rw[vaz (by simp)]
  rw[hL]
  have hk':((u.Kids.length:Int)!=(v.Kids.length:Int))=false:=by simp[hk]
  by_cases e1:u.Op=v.Op<;>by_cases e2:u.N=v.N<;>by_cases e3:u.Name=v.Name<;>by_cases e4:u.Kids=v.Kids<;>by_cases e5:u.Params=v.Params<;>by_cases e6:u.Body=v.Body<;>by_cases e7:u.Binds=v.Binds<;>simp[he,e1,e2,e3,e4,e5,e6,e7,hk,hk']
 ·have hx:((u.Kids.length:Int)!=(v.Kids.length:Int))=true:=by simp;omega
  have e4:u.Kids≠v.Kids:=λh=>hk (by rw[h])
  by_cases e1:u.Op=v.Op<;>by_cases e2:u.N=v.N<;>by_cases e3:u.Name=v.Name<;>simp[he,e1,e2,e3,e4,hx]
mutual
def Gn:aa->Nat
 |⟨_,_,_,ks,_,_,_⟩=>Gm ks+1
def Gm:List aa->Nat
 |[]=>0
 |x::l=>Gn x+Gm l
end
theorem OC(v:aa):Gn v=Gm v.Kids+1:=by obtain⟨o,n,k,ks,ps,as1,ts⟩:=v;rw[Gn];rfl
mutual
theorem Ri:∀v:aa,Gn v<=cW (ac v)
 |⟨o,n,nm,ks,ps,bd,bs⟩=>by
  have:=HN ks
  rw[Gn,dM]
  show Gm ks+1<=1+(1+(nm.length+1+(bp (ks.map ac)+1+(bp (ps.map cS)+1+(bp (bd.map ak)+1+(bp (bs.map aL)+1+0))))))
  omega
theorem HN:∀l:List aa,Gm l<=bp (l.map ac)
 |[]=>by simp[Gm]
 |x::l=>by
  have:=Ri x
  have:=HN l
  simp only[Gm,vaG,bp];omega
end
theorem Jh(l:List aa)(i:Nat)(h:i<l.length):Gm (l.take (i+1))=Gm (l.take i)+Gn l[i]:=by
 induction l generalizing i with
 |nil=>simp at h
 |cons x l ih=>
  cases i with
  |zero=>simp[Gm]
  |succ i=>simp only[List.take_succ_cons,Gm,List.getElem_cons_succ];rw[ih i (by simpa using h)];omega
theorem A3(l:List aa)(i:Nat):Gm (l.take i)<=Gm l:=by
 induction l generalizing i with
 |nil=>simp[Gm]
 |cons x l ih=>
  cases i with
  |zero=>simp[Gm]
  |succ i=>simp only[List.take_succ_cons,Gm];have:=ih i;omega
theorem OH{α:Type}{o:Option α}{a:α}(h:tot o (λx=>x=a)):o=some a:=by obtain⟨x,e,rfl⟩:=h;exact e
theorem N1(v:aa)(hv:vF v):jK v=some (Gn v:Int):=by
 refine gv (F:=ng) (λx=>cW (ac x)) (λx=>vF x) (λx=>(Gn x:Int)) (λR x hx ih=>?_) v hv (gB hv)
 have hx:cW (ac x)<=cV:=hx
 have l1:=iZ x
 have l2:=HN x.Kids
 have l3:=dM x
 show kB (λv=>R v) x=some (Gn x:Int)
 unfold kB wC
 have hL:loop (λzz:Int×Int=>dQ (λv=>R v) x.Kids (x.Kids.length:Int) zz.1 zz.2) (1,0)=some (Gn x:Int):=by
  refine OH ((HQ x.Kids (by unfold cV at hx;omega) (λi n=>n=((1+Gm (x.Kids.take i):Nat):Int)) (λi hi n hI=>?_) (λn=>?_) 1 (by simp[Gm])).mono λr hr=>?_)
  ·have e1:=Jh x.Kids i hi
   have e2:=A3 x.Kids (i+1)
   show tot (dQ (λv=>R v) x.Kids (x.Kids.length:Int) n (i:Int)) _
   unfold dQ
   rw[vaA (by simpa using hi),aQ x.Kids i hi]
   simp only[vab]
   rw[ih x.Kids[i] (iQ (vah hi)) (mY hx (vah hi))]
   simp only[vab]
   unfold cV at hx
   rw[bE (n:=n+_) (by omega) (by omega)]
   exact dF ⟨_,rfl,by omega⟩
  ·show dQ (λv=>R v) x.Kids (x.Kids.length:Int) n (x.Kids.length:Int)=_
   unfold dQ
   rw[vaz (by simp)]
  ·rw[vba]at hr
   rw[hr,OC];omega
 rw[hL];rfl
theorem Om(v:aa)(hv:vF v):nC v=some (Gn v:Int):=by
 refine gv (F:=wS) (λx=>cW (ac x)) (λx=>vF x) (λx=>(Gn x:Int)) (λR x hx ih=>?_) v hv (gB hv)
 have hx:cW (ac x)<=cV:=hx
 have l1:=iZ x
 have l2:=HN x.Kids
 have l3:=dM x
 show qW (λv=>R v) x=some (Gn x:Int)
 unfold qW AC
 have hL:loop (λzz:Int×Int=>fD (λv=>R v) x zz.1 zz.2) (1,0)=some (Gn x:Int):=by
  refine OH ((HQ x.Kids (by unfold cV at hx;omega) (λi n=>n=((1+Gm (x.Kids.take i):Nat):Int)) (λi hi n hI=>?_) (λn=>?_) 1 (by simp[Gm])).mono λr hr=>?_)
  ·have e1:=Jh x.Kids i hi
   have e2:=A3 x.Kids (i+1)
   show tot (fD (λv=>R v) x n (i:Int)) _
   unfold fD
   rw[vaA (by simpa using hi),aQ x.Kids i hi]
   simp only[vab]
   rw[ih x.Kids[i] (iQ (vah hi)) (mY hx (vah hi))]
   simp only[vab]
   unfold cV at hx
   rw[bE (n:=n+_) (by omega) (by omega)]
   exact dF ⟨_,rfl,by omega⟩
  ·show fD (λv=>R v) x n (x.Kids.length:Int)=_
   unfold fD
   rw[vaz (by simp)]
  ·rw[vba]at hr
   rw[hr,OC];omega
 rw[hL];rfl
def xn(a b:Int):Int:=if a<b then -1 else if a>b then 1 else 0
def IL(a b:ai):Int:=if Op.bytesLess a b=true then -1 else if a=b then 0 else 1
def Px(a b c d:Int):Int:=if a≠0 then a else if b≠0 then b else if c≠0 then c else d
def Qf(a b:aa):Int:=Px (xn (Gn a) (Gn b)) (xn a.Op b.Op) (xn a.N b.N) (IL a.Name b.Name)
mutual
def HV:aa->aa->Int
 |⟨op,n,nm,ks,ps,bd,bs⟩,b=>if Qf ⟨op,n,nm,ks,ps,bd,bs⟩ b≠0 then Qf ⟨op,n,nm,ks,ps,bd,bs⟩ b else Jq ks b.Kids
def Jq:List aa->List aa->Int
 |[],[]=>0
 |[],_::_=>-1
 |_::_,[]=>1
 |x::l,y::r=>if HV x y≠0 then HV x y else Jq l r
end
theorem Nj(a b:aa):HV a b=if Qf a b≠0 then Qf a b else Jq a.Kids b.Kids:=by obtain⟨o,n,k,ks,ps,as1,ts⟩:=a;rw[HV];rfl
theorem Sy(a b:Int):jN a b=some (xn a b):=by
 unfold jN qi xn
 by_cases h1:a<b<;>by_cases h2:a>b<;>simp[h1,h2]
theorem Sz(a b:Int):jn a b=some (xn a b):=by
 unfold jn lJ xn
 by_cases h1:a<b<;>by_cases h2:a>b<;>simp[h1,h2]
theorem SA(a b:ai):jo a b=some (IL a b):=by
 unfold jo lK IL
 by_cases h2:a=b
 ·subst h2;simp[zy]
 ·by_cases h1:Op.bytesLess a b=true<;>simp[h1,h2]
theorem WC(a b c d:Int):CD [a,b,c,d]=some (Px a b c d):=by
 have w:∀n:Nat,n<10->cc ((n:Int)+1)=((n+1:Nat):Int):=λn h=>by rw[bE (by omega) (by omega)];omega
 have st:∀(l:List Int) (i:Nat) (h:i<l.length),l.length<10->loop (λzz:Int=>eN l (l.length:Int) zz) (i:Int)=if l[i]≠0 then some (.inl l[i])else loop (λzz:Int=>eN l (l.length:Int) zz) ((i+1:Nat):Int):=λl i h hl=>by
  have hb:eN l (l.length:Int) (i:Int)=if(l[i]!=0)=true then some (.inr (.inl l[i]))else some (.inl (cc ((i:Int)+1))):=by
   unfold eN
   rw[vaA (by simpa using h),aQ l i h]
   rfl
  by_cases hz:l[i]≠0
  ·rw[vaA hz]
   rw[vaA (by simpa using hz)]at hb
   exact fS hb
  ·rw[vaz hz]
   rw[vaz (by simpa using hz),w i (by omega)]at hb
   exact qj hb
 have en:∀l:List Int,loop (λzz:Int=>eN l (l.length:Int) zz) (l.length:Int)=some (.inr ()):=λl=>fS (by
  show eN l (l.length:Int) (l.length:Int)=_
  unfold eN
  rw[vaz (by simp)])
 unfold CD uR Px
 have s0:=st [a,b,c,d] 0 (by simp) (by simp)
 have s1:=st [a,b,c,d] 1 (by simp) (by simp)
 have s2:=st [a,b,c,d] 2 (by simp) (by simp)
 have s3:=st [a,b,c,d] 3 (by simp) (by simp)
 have s4:=en [a,b,c,d]
 rw[show((0:Int))=((0:Nat):Int)from rfl,s0,s1,s2,s3]
 rw[show(((3+1:Nat)):Int)=((([a,b,c,d]:List Int).length:Nat):Int)from rfl,s4]
 by_cases h1:a=0<;>by_cases h2:b=0<;>by_cases h3:c=0<;>by_cases h4:d=0<;>simp[h1,h2,h3,h4]
theorem Q2{R:aa->aa->Option Int}{a b:List aa}(ha:a.length<=cV)(h:∀x∈a,∀y∈b,R x y=some (HV x y)):eZ R a b=some (Jq a b):=by
 have key:∀k i,k+i=a.length->i<=b.length->(loop (λzz:Int=>bv R a b (a.length:Int) zz) (i:Int)).bind (λo7=>match o7 with
  |.inl o7=>some o7
  |.inr o7=>if decide ((a.length:Int)<(b.length:Int))=true then some (-1)else some 0)=some (Jq (a.drop i) (b.drop i)):=by
  intro k
  induction k with
  | zero =>
   intro i hi hb
   obtain rfl:i=a.length:=by omega
   rw[fS (x:=.inr ()) (by
    show bv R a b (a.length:Int) (a.length:Int)=_
    unfold bv
    rw[vaz (by simp)]),vct]
   simp only[vab]
   by_cases hl:a.length<b.length
   ·rw[vaA (by simpa using hl),vaU hl,Jq]
   ·rw[vaz (by simpa using hl),vbe (by omega),Jq]
  | succ k ih =>
   intro i hi hb
   have h1:i<a.length:=by omega
   rw[vaU h1]
   by_cases h2:i<b.length
   ·rw[vaU h2,Jq]
    have hbd:bv R a b (a.length:Int) (i:Int)=if(HV a[i] b[i]!=0)=true then some (.inr (.inl (HV a[i] b[i])))else some (.inl (cc ((i:Int)+1))):=by
     unfold bv
     rw[vaA (by simpa using h1),aQ a i h1]
     simp only[vab]
     rw[vaz (by simp;omega),aQ b i h2]
     simp only[vab]
     rw[h _ (vah h1) _ (vah h2)]
     rfl
    by_cases hz:HV a[i] b[i]≠0
    ·rw[vaA hz]
     rw[vaA (by simpa using hz)]at hbd
     rw[fS hbd]
     rfl
    ·rw[vaz hz]
     rw[vaz (by simpa using hz),bE (by omega) (by unfold cV at ha;omega)]at hbd
     rw[qj hbd,show((i:Int)+1)=((i+1:Nat):Int) by omega]
     exact ih (i+1) (by omega) (by omega)
   ·rw[show b.drop i=[]from vbe (by omega),Jq]
    rw[fS (x:=.inl 1) (by
     show bv R a b (a.length:Int) (i:Int)=_
     unfold bv
     rw[vaA (by simpa using h1),aQ a i h1]
     simp only[vab]
     rw[vaA (by simp;omega)])]
    rfl
 have:=key a.length 0 (by omega) (vaQ _)
 unfold eZ fh
 exact this
theorem Sw(a b:aa)(ha:vF a)(hb:vF b):gZ a b=some (HV a b):=by
 refine gv (F:=jC) (λx=>cW (ac x.1)) (λx=>vF x.1/\vF x.2) (λx=>HV x.1 x.2) (λR x hx ih=>?_) (a,b) ⟨ha,hb⟩ (gB ha)
 obtain⟨u,v⟩:=x
 obtain⟨hu,hv⟩:vF u/\vF v:=hx
 have l0:cW (ac u)<=cV:=hu
 have l1:=iZ u
 show gM (λa a2=>R (a,a2)) u v=some (HV u v)
 unfold gM
 rw[N1 u hu,N1 v hv,Sz,SA,Q2 (R:=λa a2=>R (a,a2)) (a:=u.Kids) (b:=v.Kids) (by omega) (λx hx y hy=>ih (x,y) (iQ hx) ⟨mY hu hx,mY hv hy⟩),Nj]
 simp only[vab,Sy,WC]
 show(if(Qf u v !=0)=true then some (Qf u v)else some (Jq u.Kids v.Kids))=_
 by_cases h:Qf u v=0<;>simp[h]
theorem Rc(a b:Int):iJ a b=some (xn a b):=by
 unfold iJ xn
 by_cases h1:a<b<;>by_cases h2:a>b<;>simp[h1,h2]
theorem Hu{a b:Int}(h:a≠b):xn a b≠0:=by
 unfold xn
 by_cases h1:a<b
 ·simp[h1]
 ·have:a>b:=by omega
  simp[h1,this]
theorem zX(a:Int):xn a a=0:=by unfold xn;simp
theorem Mi(a:ai):IL a a=0:=by unfold IL;simp[zy]
theorem PM{a b:ai}(h:a≠b):IL a b≠0:=by unfold IL;split<;>simp[h]
theorem Q9{R:aa->aa->Option Int}{u v:aa}(ha:u.Kids.length<=cV)(h:∀x∈u.Kids,∀y∈v.Kids,R x y=some (HV x y)):(nB R u v 0).bind (λo21=>match o21 with
  |.inl o21=>some o21
  |.inr o21=>(iJ (u.Kids.length:Int) (v.Kids.length:Int)).bind λr22=>some r22)=some (Jq u.Kids v.Kids):=by
 have key:∀k i,k+i=u.Kids.length->i<=v.Kids.length->(loop (λzz:Int=>cQ R u v zz) (i:Int)).bind (λo21=>match o21 with
  |.inl o21=>some o21
  |.inr o21=>(iJ (u.Kids.length:Int) (v.Kids.length:Int)).bind λr22=>some r22)=some (Jq (u.Kids.drop i) (v.Kids.drop i)):=by
  intro k
  induction k with
  | zero =>
   intro i hi hb
   obtain rfl:i=u.Kids.length:=by omega
   rw[fS (x:=.inr ()) (by
    show cQ R u v (u.Kids.length:Int)=_
    unfold cQ iq
    rw[vaz (by simp)]
    rfl),vct]
   simp only[vab]
   rw[Rc]
   simp only[vab]
   unfold xn
   by_cases hl:u.Kids.length<v.Kids.length
   ·rw[vaA (by omega),vaU hl,Jq]
   ·rw[vaz (by omega),vaz (by omega),vbe (by omega),Jq]
  | succ k ih =>
   intro i hi hb
   have h1:i<u.Kids.length:=by omega
   rw[vaU h1]
   by_cases h2:i<v.Kids.length
   ·rw[vaU h2,Jq]
    have hbd:cQ R u v (i:Int)=if(HV u.Kids[i] v.Kids[i]!=0)=true then some (.inr (.inl (HV u.Kids[i] v.Kids[i])))else some (.inl (cc ((i:Int)+1))):=by
     unfold cQ iq
     rw[vaA (by simpa using h1),vb4 (by omega)]
     simp only[vab,if_true]
     rw[aQ _ i h1]
     simp only[vab]
     rw[aQ _ i h2]
     simp only[vab]
     rw[h _ (vah h1) _ (vah h2)]
     rfl
    by_cases hz:HV u.Kids[i] v.Kids[i]≠0
    ·rw[vaA hz]
     rw[vaA (by simpa using hz)]at hbd
     rw[fS hbd]
     rfl
    ·rw[vaz hz]
     rw[vaz (by simpa using hz),bE (by omega) (by unfold cV at ha;omega)]at hbd
     rw[qj hbd,show((i:Int)+1)=((i+1:Nat):Int) by omega]
     exact ih (i+1) (by omega) (by omega)
   ·rw[show v.Kids.drop i=[]from vbe (by omega),Jq]
    rw[fS (x:=.inr ()) (by
     show cQ R u v (i:Int)=_
     unfold cQ iq
     rw[vaA (by simpa using h1),decide_eq_false (by omega)]
     rfl)]
    simp only[vab]
    rw[Rc]
    simp only[vab]
    unfold xn
    rw[vaz (by omega),vaA (by omega)]
 exact key u.Kids.length 0 (by omega) (vaQ _)
theorem SH(a b:aa)(ha:vF a)(hb:vF b):tG a b=some (HV a b):=by
 refine gv (F:=pS) (λx=>cW (ac x.1)) (λx=>vF x.1/\vF x.2) (λx=>HV x.1 x.2) (λR x hx ih=>?_) (a,b) ⟨ha,hb⟩ (gB ha)
 obtain⟨u,v⟩:=x
 obtain⟨hu,hv⟩:vF u/\vF v:=hx
 have l0:cW (ac u)<=cV:=hu
 have l1:=iZ u
 show lj (λa a2=>R (a,a2)) u v=some (HV u v)
 unfold lj
 have hk:=Q9 (R:=λa a2=>R (a,a2)) (u:=u) (v:=v) (by omega) (λx hx y hy=>ih (x,y) (iQ hx) ⟨mY hu hx,mY hv hy⟩)
 rw[Om u hu,Om v hv,Nj]
 simp only[vab,Rc]at hk ⊢
 unfold Qf Px
 by_cases h1:(Gn u:Int)=(Gn v:Int)
 ·rw [h1,zX]
  by_cases h2:u.Op=v.Op
  ·rw[h2,zX]
   by_cases h3:u.N=v.N
   ·rw[h3,zX]
    by_cases h4:u.Name=v.Name
    ·rw[h4,Mi]
     simp only[bne_self_eq_false,beq_self_eq_true,Bool.not_true,vbc,if_false,ne_eq,not_true_eq_false]
     exact hk
    ·have h5:=PM h4
     simp only[bne_self_eq_false,vbc,if_false,ne_eq,not_true_eq_false,h5,not_false_eq_true,if_true]
     rw[vaA (by simpa using h4)]
     unfold IL
     by_cases hl:Op.bytesLess u.Name v.Name=true<;>simp[hl,h4]
   ·have h5:=Hu h3
    have h6:(u.N !=v.N)=true:=by simpa using h3
    simp[h5,h6]
  ·have h5:=Hu h2
   have h6:(u.Op !=v.Op)=true:=by simpa using h2
   simp[h5,h6]
 ·have h5:=Hu h1
  have h6:((Gn u:Int)!=(Gn v:Int))=true:=by simpa using h1
  simp[h5,h6]
mutual
def RG:PVal->Prop
 |.slice es=>Ea es
 |.int k i=>(Lit.int k i).wf=true
 |_=>True
def BW:List PVal->Prop
 |[]=>True
 |p::l=>RG p/\BW l
def Ea:List (List PVal)->Prop
 |[]=>True
 |x::r=>BW x/\Ea r
end
theorem Eb:∀{a b:List PVal},BW a->BW b->BW (a++b)
 |[],b,_,hb=>hb
 |p::a,b,ha,hb=>by
  simp only[vaO,BW]at ha ⊢
  exact⟨ha.1,Eb ha.2 hb⟩
theorem LE:∀{es:List (List PVal)},(∀x∈es,BW x)->Ea es
 |[],_=>by simp only[Ea]
 |x::es,h=>by
  simp only[Ea]
  exact⟨h x (by simp),LE λy hy=>h y (vaK _ hy)⟩
theorem Jo:∀{es:List (List PVal)} {x:List PVal},Ea es->x∈es->BW x
 | y :: es,x,h,hx => by
  simp only[Ea]at h
  rcases vaB.1 hx with rfl|hx
  ·exact h.1
  ·exact Jo h.2 hx
def Ll(P:Program)(t:TypeId):Bool:=match P.underlying t with
 |some .bool=>true
 |some (.int _)=>true
 |some .string=>true
 |some (.slice _)=>true
 |some (.struct _)=>true
 |_=>false
theorem Ou{P:Program}{L:List TypeId}(hF:MW P L)(hp:L.all (Ll P)=true):∀(n:Nat) {t:TypeId},t∈L->∀{l:List PVal},Sh P n t l->BW l
 |0,t,_,l,h=>h.elim
 | n + 1,t,ht,l,h => by
  have ih:=@Ou P L hF hp n
  have hf:∀(fs:List Field) (l:List PVal),(∀f∈fs,f.type∈L)->Rt P (Sh P n) fs l->BW l:=by
   intro fs
   induction fs with
   |nil=>intro l _ h;unfold Rt at h;subst h;simp only[BW]
   |cons f fs ihf=>
    intro l hm h
    unfold Rt at h
    obtain⟨a,b,rfl,_,h1,h2⟩:=h
    exact Eb (ih (hm f (by simp)) h1) (ihf b (λg hg=>hm g (vaK _ hg)) h2)
  have h1:=vap.1 hp t ht
  unfold Ll at h1
  unfold Sh at h
  split at h1
  ·rename_i hu;rw[hu]at h;obtain⟨b,rfl⟩:=h;simp[BW,RG]
  ·rename_i hu;rw[hu]at h;obtain⟨b,rfl,hw⟩:=h;simpa[BW,RG]using hw
  ·rename_i hu;rw[hu]at h;obtain⟨b,rfl,_⟩:=h;simp[BW,RG]
  ·rename_i hu;rw[hu]at h;obtain⟨es,rfl,_,he⟩:=h
   simp only[BW,RG,vbV]
   exact LE λx hx=>ih (hF.sl t ht _ hu).2 (he x hx)
  ·rename_i hu;rw[hu]at h;exact hf _ _ (hF.st t ht _ hu).2 h
  ·cases h1
theorem pg:∀(k n:Nat),n<10 ^ (k+1)->(Lib.decDigits n).length<=k+1
 |0,n,h=>by
  rw[Lib.decDigits,dif_pos (by simpa using h)];simp
 | k + 1,n,h => by
  rw[Lib.decDigits]
  by_cases hn:n<10
  ·rw[dif_pos hn];simp
  ·rw[dif_neg hn]
   have:=pg k (n / 10) (by rw[Nat.pow_succ]at h;omega)
   simp;omega
theorem CY{n:Int}(h1: -9223372036854775808<=n)(h2:n<=9223372036854775807):(Lib.itoa n).length<=21:=by
 unfold Lib.itoa
 split
 ·have:=pg 19 n.natAbs (by have:(10:Nat) ^ (19+1)=100000000000000000000:=rfl;omega)
  simp;omega
 ·have:=pg 19 n.toNat (by have:(10:Nat) ^ (19+1)=100000000000000000000:=rfl;omega)
  omega
theorem NB{n:Int}(h1: -9223372036854775808<=n)(h2:n<=9223372036854775807):K2 n=some (Lib.itoa n):=by
 unfold K2
 rw[vaA (by simp;omega)]
theorem DN{m:Int}:(m.tmod 10=((m.natAbs % 10:Nat):Int)/\m.tdiv 10=((m.natAbs / 10:Nat):Int)/\0<=m)\/(m.tmod 10= -((m.natAbs % 10:Nat):Int)/\m.tdiv 10= -((m.natAbs / 10:Nat):Int)/\m<0):=by
 by_cases h:0<=m
 ·left
  obtain⟨k,rfl⟩:=vcq h
  rw[vce h,vbT h]
  omega
 ·right
  obtain⟨k,hk⟩:=vcq (show 0<=-m by omega)
  obtain rfl:m= -(k:Int):=by omega
  rw[Int.neg_tmod,Int.neg_tdiv,vce (by omega),vbT (by omega)]
  omega
theorem Kq:∀(k:Nat) (m:Int) (acc:ai),m.natAbs<10 ^ k->-9223372036854775808<=m->m<=9223372036854775807->acc.length+k<=1000->lD acc m=some (if m=0 then acc else Lib.decDigits m.natAbs++acc):=by
 intro k
 induction k with
 |zero=>
  intro m acc hk _ _ _
  have hm:m=0:=by simp at hk;omega
  subst hm
  unfold lD
  rw[vaA rfl]
  exact fS rfl
 | succ k ih =>
  intro m acc hk h1 h2 ha
  by_cases hm:m=0
  ·subst hm
   unfold lD
   rw[vaA rfl]
   exact fS rfl
  ·have hJ:oL (m.tmod 10)=some ((m.natAbs % 10:Nat):Int):=by
    unfold oL
    rcases DN (m:=m)with⟨e,_,_⟩|⟨e,_,_⟩
    ·rw[e,vaz (by simp;omega)]
    ·rw[e]
     by_cases hz:m.natAbs % 10=0
     ·rw[hz];rfl
     ·rw[vaA (by simp;omega),Kx (by omega) (by omega)]
      congr 1;omega
   have h4:IntKind.u8.wrap (cc (48+((m.natAbs % 10:Nat):Int)))=((48+m.natAbs % 10:Nat):Int):=by
    rw[bE (by omega) (by omega)]
    have h5:(48:Int)+((m.natAbs % 10:Nat):Int)=((48+m.natAbs % 10:Nat):Int):=by omega
    rw[h5]
    generalize hq:48+m.natAbs % 10=q
    have:q<58:=by omega
    show((q:Int) % 256)=q
    omega
   have h6:nO [((48+m.natAbs % 10:Nat):Int)]=some [UInt8.ofNat (48+m.natAbs % 10)]:=by
    simp only[nO]
    rw[vaA (by omega)]
    rfl
   have h7:qu .i64 m 10=some (m.tdiv 10):=by
    simp only[qu]
    rw[vaz (by omega)]
    refine vbo some (Kx ?_ ?_)<;>rcases DN (m:=m)with⟨_,e,_⟩|⟨_,e,_⟩<;>rw[e]<;>omega
   have h8:re m 10=some (m.tmod 10):=by
    simp only[re]
    rw[vaz (by omega)]
   have hb:ji acc m=some (.inl (UInt8.ofNat (48+m.natAbs % 10)::acc,m.tdiv 10)):=by
    unfold ji
    rw[vaA (by simpa using hm),h8,vab,hJ,vab,h4,h6,vab,ka (by simp;omega),vab,h7]
    rfl
   have hna:(m.tdiv 10).natAbs=m.natAbs / 10:=by
    rcases DN (m:=m)with⟨_,e,_⟩|⟨_,e,_⟩<;>rw[e]<;>omega
   have ih:=ih (m.tdiv 10) (UInt8.ofNat (48+m.natAbs % 10)::acc) (by rw[hna];rw[Nat.pow_succ]at hk;omega) (by rcases DN (m:=m)with⟨_,e,_⟩|⟨_,e,_⟩<;>rw[e]<;>omega) (by rcases DN (m:=m)with⟨_,e,_⟩|⟨_,e,_⟩<;>rw[e]<;>omega) (by simp;omega)
   unfold lD at ih ⊢
   refine(qj (body:=λzz:ai×Int=>ji zz.1 zz.2) (s:=(acc,m)) (s':=(UInt8.ofNat (48+m.natAbs % 10)::acc,m.tdiv 10)) hb).trans ?_
   rw[ih,hna,vaz hm]
   conv=>rhs;rw[Lib.decDigits]
   by_cases h:m.natAbs<10
   ·rw[dif_pos h,vaA (by omega),vb8 h]
    rfl
   ·rw[dif_neg h,vaz (by omega)]
    simp
theorem My{n:Int}(h1: -9223372036854775808<=n)(h2:n<=9223372036854775807):sU n=some (Lib.itoa n):=by
 unfold sU
 by_cases h0:n=0
 ·subst h0
  rw[vaA (by rfl)]
  unfold Lib.itoa
  rw[vaz (by omega),Lib.decDigits,dif_pos (by simp)]
  rfl
 ·have hl:=pg 19 n.natAbs (by have:(10:Nat) ^ (19+1)=100000000000000000000:=rfl;omega)
  rw[vaz (by simpa using h0),Kq 20 n [] (by have:(10:Nat) ^ 20=100000000000000000000:=rfl;omega) h1 h2 (by simp),vab,vaz h0]
  unfold Lib.itoa
  by_cases hn:n<0
  ·rw[vaA (by simpa using hn),ka (by simp;omega),vaA hn]
   simp
  ·rw[vaz (by simpa using hn),vaz hn,show n.natAbs=n.toNat by omega]
   simp
theorem Qo(v:aa):BW (ac v)↔(Lit.int .i64 v.Op).wf=true/\(Lit.int .i64 v.N).wf=true/\Ea (v.Kids.map ac)/\Ea (v.Params.map cS)/\Ea (v.Body.map ak)/\Ea (v.Binds.map aL):=by
 rw[bm]
 simp only[BW,RG,sl,vb1,vbV]
theorem Ro{v:aa}(h:BW (ac v)): -9223372036854775808<=v.N/\v.N<=9223372036854775807:=by
 have:=((Qo v).1 h).2.1
 simp only[Lit.wf,vae,vam]at this
 exact this
theorem Ky{v x:aa}(h:BW (ac v))(hx:x∈v.Kids):BW (ac x):=Jo ((Qo v).1 h).2.2.1 (vai.2 ⟨x,hx,rfl⟩)
mutual
def uz:aa->ai
 |⟨op,n,nm,ks,_,_,_⟩=>if op=1 then Lib.itoa n else if op=2 then(if n≠0 then Ed else zn)else if op=4 then iE++Lib.itoa n++uK else if op=3 then(if ks.length=0 then nm else nm++ga++Lib.join (SX ks) dn++uK)else Jp
def SX:List aa->List ai
 |[]=>[]
 |x::l=>uz x::SX l
end
theorem Ly:∀l:List aa,SX l=l.map uz
 |[]=>by rw[SX];rfl
 |x::l=>by rw[SX,Ly l];rfl
theorem Kv(v:aa):uz v=if v.Op=1 then Lib.itoa v.N else if v.Op=2 then(if v.N≠0 then Ed else zn)else if v.Op=4 then iE++Lib.itoa v.N++uK else if v.Op=3 then(if v.Kids.length=0 then v.Name else v.Name++ga++Lib.join (v.Kids.map uz) dn++uK)else Jp:=by
 obtain⟨op,n,nm,ks,ps,bd,bs⟩:=v
 rw[uz,Ly];rfl
theorem Jj:∀(r:List aa),(∀x∈r,(uz x).length+40<=40 * cW (ac x))->(Lib.joinTail dn (r.map uz)).length<=40 * bp (r.map ac)
 |[],_=>by simp[Lib.joinTail]
 |y::r,h=>by
  have h1:=Jj r λx hx=>h x (vaK _ hx)
  have h2:=h y (by simp)
  have h3:(dn:ai).length=2:=rfl
  simp only[Lib.joinTail,vaG,List.flatten_cons,vat,bp]at h1 ⊢
  omega
theorem Iw(l:List aa)(h:∀x∈l,(uz x).length+40<=40 * cW (ac x)):(Lib.join (l.map uz) dn).length<=40 * bp (l.map ac):=by
 cases l with
 |nil=>simp[Lib.join,List.intercalate]
 |cons x r=>
  have h1:=Jj r λy hy=>h y (vaK _ hy)
  have h2:=h x (by simp)
  rw[vaG,Lib.join_cons]
  simp only[vaG,vat,bp]
  omega
theorem HR:∀(n:Nat) (v:aa),cW (ac v)<=n->BW (ac v)->(uz v).length+40<=40 * cW (ac v)
 |0,v,h,_=>by have:=Ge v;omega
 | n + 1,v,h,w => by
  have hp:=dM v
  have⟨n1,n2⟩:=Ro w
  have hi:=CY n1 n2
  rw[Kv]
  have e1:(Ed:ai).length=4:=rfl
  have e2:(zn:ai).length=5:=rfl
  have e3:(iE:ai).length=5:=rfl
  have e4:(uK:ai).length=1:=rfl
  have e5:(ga:ai).length=2:=rfl
  have e6:(Jp:ai).length=3:=rfl
  split
  ·omega
  split
  ·split<;>omega
  split
  ·simp only[vat];omega
  split
  ·split
   ·omega
   ·have:=Iw v.Kids λx hx=>HR n x (by have:=iQ hx;omega) (Ky w hx)
    simp only[vat]
    omega
  ·omega
theorem Jk{α β:Type}(f:α->β)(l:List α)(i:Nat)(h:i<l.length):(l.take (i+1)).map f=(l.take i).map f++[f l[i]]:=by
 rw[vbZ,vaa h,vcc];rfl
theorem IE{α σ:Type}(l:List α)(hl:l.length<4611686018427387904)(body:σ×Int->Option ((σ×Int)⊕σ))(f:Nat->σ)
  (hin:∀i,i<l.length->body (f i,(i:Int))=some (.inl (f (i+1),cc ((i:Int)+1)))) (hend:body (f l.length,(l.length:Int))=some (.inr (f l.length))):loop body (f 0,0)=some (f l.length):=by
 have key:∀k i,k+i=l.length->loop body (f i,(i:Int))=some (f l.length):=by
  intro k
  induction k with
  |zero=>
   intro i hi
   obtain rfl:i=l.length:=by omega
   exact fS hend
  |succ k ih=>
   intro i hi
   have hb:=hin i (by omega)
   rw[bE (by omega) (by omega)]at hb
   rw[qj hb,show((i:Int)+1)=((i+1:Nat):Int) by omega]
   exact ih (i+1) (by omega)
 exact key l.length 0 (by omega)
abbrev NU(v:aa):Prop:=cW (ac v)<=oB/\BW (ac v)
theorem Lg{v x:aa}(h:NU v)(hx:x∈v.Kids):NU x:=⟨vaw (vbz (iQ hx)) h.1,Ky h.2 hx⟩
theorem PI{v:aa}(h:NU v):(uz v).length<=160000000:=by have:=HR _ v (vak _) h.2;have h1:=h.1;unfold oB at h1;omega
theorem FF{v:aa}(h:NU v)(i:Nat):(Lib.join ((v.Kids.take i).map uz) dn).length<=160000000:=by
 have h0:=Iw (v.Kids.take i) λx hx=>HR _ x (vak _) (Ky h.2 (vbF hx))
 have h1:=bM ac v.Kids i
 have h2:=dM v
 have h3:=h.1
 unfold oB at h3
 omega
theorem CZ{v:aa}(h:NU v):(Lib.join (v.Kids.map uz) dn).length<=160000000:=by
 have:=FF h v.Kids.length
 rwa[vba]at this
theorem IH{v:aa}(h:NU v):v.Name.length<=4000000:=by have:=dM v;have h1:=h.1;unfold oB at h1;omega
theorem L5(l:List ai)(y sep:ai)(h:l≠[]):Lib.join (l++[y]) sep=Lib.join l sep++sep++y:=by
 cases l with
 |nil=>exact absurd rfl h
 |cons x r=>rw[vaO,Lib.join_cons,Lib.join_cons];simp[Lib.joinTail]
theorem Sx(v:aa)(hv:NU v):kZ v=some (uz v):=by
 refine gv (F:=rL) (λx=>cW (ac x)) (λx=>NU x) (λx=>uz x) (λR x hx ih=>?_) v hv (gB (vaw hv.1 (by decide)))
 have l0:=hx.1
 have l1:=iZ x
 have⟨n1,n2⟩:=Ro hx.2
 have hi:=CY n1 n2
 have l2:=IH hx
 have l3:=CZ hx
 have e3:(iE:ai).length=5:=rfl
 have e4:(uK:ai).length=1:=rfl
 have e5:(ga:ai).length=2:=rfl
 unfold oB at l0
 show nh (λv=>R v) x=some (uz x)
 rw[Kv]
 unfold nh qm
 rw[NB n1 n2]
 simp only[vab]
 by_cases c1:x.Op=1
 ·simp[c1]
 by_cases c2:x.Op=2
 ·by_cases c3:x.N=0<;>simp[c2,c3]
 by_cases c4:x.Op=4
 ·simp only[c4,show((4:Int)==1)=false from rfl,show((4:Int)==2)=false from rfl,show((4:Int)==4)=true from rfl,vbc,if_false,if_true,show ¬(4:Int)=1 by decide,show ¬(4:Int)=2 by decide]
  rw[ka (by omega)]
  simp only[vab]
  rw[ka (by simp only[vat];omega)]
  rfl
 by_cases c5:x.Op=3
 ·simp only[c5,show((3:Int)==1)=false from rfl,show((3:Int)==2)=false from rfl,show((3:Int)==4)=false from rfl,show((3:Int)==3)=true from rfl,vbc,if_false,if_true,show ¬(3:Int)=1 by decide,show ¬(3:Int)=2 by decide,show ¬(3:Int)=4 by decide]
  by_cases c6:x.Kids.length=0
  ·simp[c6]
  ·rw[vaz (by simpa using c6),vaz c6]
   have hL:wD (λv=>R v) x.Kids (x.Kids.length:Int) [] 0=some (x.Kids.map uz):=by
    have:=IE x.Kids (by omega) (λzz:List ai×Int=>eE (λv=>R v) x.Kids (x.Kids.length:Int) zz.1 zz.2) (λi=>(x.Kids.take i).map uz) (λi hi=>?_) ?_
    ·rw[vba]at this
     exact this
    ·show eE (λv=>R v) x.Kids (x.Kids.length:Int) ((x.Kids.take i).map uz) (i:Int)=_
     unfold eE
     rw[vaA (by simpa using hi),aQ _ i hi]
     simp only[vab]
     rw[ih x.Kids[i] (iQ (vah hi)) (Lg hx (vah hi))]
     simp only[vab]
     rw[M9 (by simp only[vbq,vaN,vaT,List.length_nil];omega)]
     simp only[vab]
     rw[Jk uz x.Kids i hi]
    ·show eE (λv=>R v) x.Kids (x.Kids.length:Int) _ (x.Kids.length:Int)=_
     unfold eE
     rw[vaz (by simp)]
   rw[hL]
   simp only[vab]
   rw[ka (by omega)]
   simp only[vab]
   have hj:K3 (x.Kids.map uz) dn=some (Lib.join (x.Kids.map uz) dn):=vaA ⟨by rw[vbq];omega,by omega⟩
   rw[hj]
   simp only[vab]
   rw[ka (by simp only[vat];omega)]
   simp only[vab]
   rw[ka (by simp only[vat];omega)]
   rfl
 simp[c1,c2,c4,c5]
theorem SI(v:aa)(hv:NU v):Cr v=some (uz v):=by
 refine gv (F:=wU) (λx=>cW (ac x)) (λx=>NU x) (λx=>uz x) (λR x hx ih=>?_) v hv (gB (vaw hv.1 (by decide)))
 have l0:=hx.1
 have l1:=iZ x
 have⟨n1,n2⟩:=Ro hx.2
 have hi:=CY n1 n2
 have l2:=IH hx
 have l3:=CZ hx
 have e3:(iE:ai).length=5:=rfl
 have e4:(uK:ai).length=1:=rfl
 have e5:(ga:ai).length=2:=rfl
 have e6:(dn:ai).length=2:=rfl
 unfold oB at l0
 show qX (λv=>R v) x=some (uz x)
 rw[Kv]
 unfold qX
 rw[My n1 n2]
 simp only[vab]
 by_cases c1:x.Op=1
 ·simp[c1]
 by_cases c2:x.Op=2
 ·by_cases c3:x.N=0<;>simp[c2,c3]
 by_cases c4:x.Op=4
 ·simp only[c4,show((4:Int)==1)=false from rfl,show((4:Int)==2)=false from rfl,show((4:Int)==4)=true from rfl,vbc,if_false,if_true,show ¬(4:Int)=1 by decide,show ¬(4:Int)=2 by decide]
  rw[ka (by omega)]
  simp only[vab]
  rw[ka (by simp only[vat];omega)]
  rfl
 by_cases c5:x.Op=3
 ·simp only[c5,show((3:Int)==1)=false from rfl,show((3:Int)==2)=false from rfl,show((3:Int)==4)=false from rfl,show((3:Int)==3)=true from rfl,vbc,if_false,if_true,show ¬(3:Int)=1 by decide,show ¬(3:Int)=2 by decide,show ¬(3:Int)=4 by decide]
  by_cases c6:x.Kids.length=0
  ·simp[c6]
  ·rw [vaz (by simpa using c6),vaz c6]
   have hL:AD (λv=>R v) x (x.Name++ga) 0=some (x.Name++ga++Lib.join (x.Kids.map uz) dn):=by
    have:=IE x.Kids (by omega) (λzz:ai×Int=>fE (λv=>R v) x zz.1 zz.2) (λi=>x.Name++ga++Lib.join ((x.Kids.take i).map uz) dn) (λi hi=>?_) ?_
    ·rw[vba]at this
     rw[<-this]
     show loop _ (x.Name++ga,0)=loop _ (x.Name++ga++Lib.join [] dn,0)
     have:(Lib.join [] dn:ai)=[]:=rfl
     rw[this,vbb]
    ·show fE (λv=>R v) x (x.Name++ga++Lib.join ((x.Kids.take i).map uz) dn) (i:Int)=_
     have hk:=Lg hx (vah hi)
     have hkl:=PI hk
     have hjl:=FF hx i
     unfold fE tJ
     have htk:=Jk uz x.Kids i hi
     rw[vaA (by simpa using hi)]
     by_cases h0:i=0
     ·subst h0
      rw[vaz (by simp)]
      simp only[vab]
      rw[aQ _ 0 hi]
      simp only[vab]
      rw[ih x.Kids[0] (iQ (vah hi)) hk]
      simp only[vab]
      rw[ka (by simp only[vat];omega),htk]
      have e1:(Lib.join ((x.Kids.take 0).map uz) dn:ai)=[]:=rfl
      have e2:(Lib.join ((x.Kids.take 0).map uz++[uz x.Kids[0]]) dn:ai)=uz x.Kids[0]:=by
       show Lib.join (uz x.Kids[0]::[]) dn=_
       rw[Lib.join_cons];simp[Lib.joinTail]
      rw[e1,e2,vbb]
      rfl
     ·rw[vaA (by simp;omega),ka (by simp only[vat];omega)]
      simp only[vab]
      rw[aQ _ i hi]
      simp only[vab]
      rw[ih x.Kids[i] (iQ (vah hi)) hk]
      simp only[vab]
      rw[ka (by simp only[vat];omega),htk,L5 _ _ _ (by
       intro he
       have h':((x.Kids.take i).map uz).length=0:=by rw[he];rfl
       rw[vbq,vaN]at h'
       omega)]
      simp only[vbY]
      rfl
    ·show fE (λv=>R v) x _ (x.Kids.length:Int)=_
     unfold fE
     rw[vaz (by simp)]
   rw[ka (by omega)]
   simp only[vab]
   rw[hL]
   simp only[vab]
   rw[ka (by simp only[vat];omega)]
   rfl
 simp[c1,c2,c4,c5]
theorem IT(x0 x1:aa)(h:cW (ac x0)+(cW (ac x1)+0)<=1048576)(w:BW (ac x0))(w2:BW (ac x1)):mc x0 x1=some true:=by
 have h0:vF x0:=by show _<=cV;unfold cV;omega
 have h1:vF x1:=by show _<=cV;unfold cV;omega
 obtain⟨b0,e0⟩:=Ox x0 (by unfold oB;omega)
 obtain⟨b1,e1⟩:=Ox x1 (by unfold oB;omega)
 have k0:NU x0:=⟨by unfold oB;omega,w⟩
 have hJ:∃b,gq x0 x1=some b:=by
  unfold gq
  rw[e0,e1]
  cases b0<;>exact⟨_,rfl⟩
 obtain⟨b,hb⟩:=hJ
 unfold mc
 rw[hb,Jx,NZ x0 x1 h0,Ra x0 x1 h0 h1,NZ x0 x0 h0,Sw x0 x1 h0 h1,SH x0 x1 h0 h1,N1 x0 h0,Om x0 h0,Sx x0 k0,SI x0 k0]
 cases b<;>simp
end Go.Proofs.YtjddnhkahpfhdaaGreatDoor
