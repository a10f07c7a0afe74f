/- PROVED: a part of the proof. Conditions: none. -/
import Derived.Test.YtkdahfeiedaahaaGreatDoorPkF20
import Derived.Test.YtkdahfeiedaahaaGreatDoorPkF18
import Derived.Test.YtkdahfeiedaahaaGreatDoorPkF19
noncomputable section
namespace Go.Proofs.YtkdahfeiedaahaaGreatDoor
open Go
set_option linter.unusedVariables false
set_option linter.unusedSimpArgs false
def RH(d:eA):List af:=(tv true (qo [] d.Body)).filter fun s=>!Ng d s
def IB(m:aP)(x:af):List af:=if(lR m x).2=true then(RH (lR m x).1).filter fun y=>(lR m y).2 else[]
inductive S6(m:aP):af->af->Prop
 |one {x y:af}:y∈IB m x->S6 m x y
 |step {x y z:af}:y∈IB m x->S6 m y z->S6 m x z
theorem S6.trans{m:aP}{x y z:af}(h:S6 m x y)(h2:S6 m y z):S6 m x z:=by
 induction h with
 |one h=>exact .step h h2
 |step h _ ih=>exact .step h (ih h2)
theorem Qm{m:aP}{L:List af}(hc:∀y∈L,∀z∈IB m y,z∈L){x y:af}(hx:∀z∈IB m x,z∈L)(h:S6 m x y):y∈L:=by
 induction h with
 |one h=>exact hx _ h
 |step h _ ih=>exact ih (hc _ (hx _ h))
theorem Oy{m:aP}{x:af}(h:(lR m x).2=true):x∈m.Defs.map (·.Name):=by
 unfold lR at h
 cases hf:m.Defs.find? (fun d=>d.Name==x)with
 |none=>rw[hf]at h;cases h
 |some d=>
  have h1:=va8 hf
  have h2:=vbA hf
  exact vag.2 ⟨d,h1,by simpa using h2⟩
theorem LH{m:aP}{x:af}(h:(lR m x).2=true):(lR m x).1∈m.Defs:=by
 unfold lR at h ⊢
 cases hf:m.Defs.find? (fun d=>d.Name==x)with
 |none=>rw[hf]at h;cases h
 |some d=>exact va8 hf
def Y8(m:aP):Prop:=m.Defs.length<=30/\∀d∈m.Defs,nE d.Body<=300000000/\d.Params.length<=300000000
theorem RF{m:aP}(hm:Y8 m){d:eA}(hd:d∈m.Defs):tc d=some (RH d)/\(RH d).length<=nE d.Body:=by
 obtain⟨h1,h2⟩:=hm.2 d hd
 have hl:=By true (qo [] d.Body)
 have ho:=Ft [] d.Body
 refine⟨?_,?_⟩
 ·unfold tc
  rw[Sq _ (by unfold nh;omega)]
  simp only[vaa]
  rw[vaw (by simp only[vad,vaj];unfold dF;omega)]
  rfl
 ·unfold RH
  have:=vby (fun s=>!Ng d s) (tv true (qo [] d.Body))
  omega
theorem Bo:∀(l:List af) (m:List (af×Bool)) (j:af),iu (iO m l) j=(l.contains j||iu m j)
 |[],m,j=>by simp[iO]
 |k::l,m,j=>by
  show iu (iO (ri m k true) l) j=_
  rw[Bo l,OF,vcH]
  cases l.contains j<;>cases(j==k)<;>simp
theorem Bp(l:List af)(j:af):iu (iO [] l) j=true↔j∈l:=by
 rw[Bo]
 have:iu ([]:List (af×Bool)) j=false:=rfl
 rw[this]
 simp
def Pq(m:aP)(s:List (af×Bool)):Prop:=∃L,s=iO [] L/\L.Nodup/\∀x∈L,(lR m x).2=true
theorem Sf{m:aP}{L:List af}(hn:L.Nodup)(hk:∀x∈L,(lR m x).2=true):L.length<=m.Defs.length:=by
 by_cases h:m.Defs.length<L.length
 ·obtain⟨x,hx,hu⟩:=Qb (m.Defs.map (·.Name)) L hn (by simpa using h)
  exact absurd (Oy (hk x hx)) hu
 ·omega
theorem Pq.put{m:aP}{s:List (af×Bool)}{x:af}(h:Pq m s)(hk:(lR m x).2=true)(hx:iu s x=false):Pq m (iO s [x]):=by
 obtain⟨L,rfl,hn,hL⟩:=h
 have hx':x∉L:=fun hm=>by rw[(Bp L x).2 hm]at hx;cases hx
 refine⟨L++[x],by rw[jh],?_,fun y hy=>?_⟩
 ·rw[vbU]
  exact⟨hn,by simp,fun a ha b hb hab=>by simp at hb;subst hb;subst hab;exact hx' ha⟩
 ·rcases vam.1 hy with hy|hy
  ·exact hL y hy
  ·rw[va4.1 hy];exact hk
def zT(m:aP)(s:List (af×Bool)):Nat:=((m.Defs.map (·.Name)).filter fun x=>!iu s x).length
theorem Gv{α:Type}{p q:α->Bool}(h:∀y,q y=true->p y=true):∀(l:List α),(l.filter q).length<=(l.filter p).length
 |[]=>by simp
 |a::l=>by
  have ih:=Gv h l
  simp only[vbs]
  cases hqa:q a with
  |true=>rw[h a hqa];simpa using ih
  |false=>cases p a<;>simp<;>omega
theorem VQ{m:aP}{s t:List (af×Bool)}(h:∀y,iu s y=true->iu t y=true):zT m t<=zT m s:=by
 unfold zT
 refine Gv (fun y hy=>?_) _
 cases hs:iu s y with
 |false=>rfl
 |true=>rw[h y hs]at hy;cases hy
theorem LM{α:Type}{p q:α->Bool}:∀{l:List α} {x:α},x∈l->(∀y,q y=true->p y=true)->p x=true->q x=false->(l.filter q).length<(l.filter p).length
 | a :: l,x,hx,h,hp,hq => by
  have hle:(l.filter q).length<=(l.filter p).length:=Gv h l
  rcases vaB.1 hx with rfl|hx
  ·rw[List.filter_cons_of_pos hp,List.filter_cons_of_neg (by rw[hq];simp)]
   simp only[vaF];omega
  ·have ih:=LM hx h hp hq
   simp only[vbs]
   cases hqa:q a with
   |true=>rw[h a hqa];simp;omega
   |false=>cases p a<;>simp<;>omega
theorem T9{m:aP}{s:List (af×Bool)}{x:af}(hk:(lR m x).2=true)(hx:iu s x=false):zT m (iO s [x])<zT m s:=by
 unfold zT
 refine LM (Oy hk) (fun y hy=>?_) (by rw[hx];rfl) ?_
 ·rw[Bo]at hy
  cases hs:iu s y with
  |false=>rfl
  |true=>rw[hs]at hy;simp at hy
 ·rw[Bo];simp
def Vd(m:aP)(x:af)(s t:List (af×Bool)):Prop:=
 Pq m t/\(∀y,iu s y=true->iu t y=true)/\(∀y,iu t y=true->iu s y=true\/S6 m x y)/\(∀y∈IB m x,iu t y=true)/\∀y,iu t y=true->iu s y=false->∀z∈IB m y,iu t z=true
theorem SS{m:aP}(hm:Y8 m)(x:af)(s:List (af×Bool))(hs:Pq m s):wF (lL x m s m) (Vd m x s):=by
 have hlen:m.Defs.length<9223372036854775808:=by have:=hm.1;omega
 refine Ga (F:=kv) (fun x=>zT m x.2.2.1) (fun x=>x.2.1=m/\x.2.2.2=m/\Pq m x.2.2.1) (fun x t=>Vd m x.1 x.2.2.1 t) (fun R x hx ih=>?_) (x,m,s,m) ⟨rfl,rfl,hs⟩ ?_
 ·obtain⟨x,m2,s,m1⟩:=x
  obtain⟨h1,h2,hs⟩:=hx
  simp only at h1 h2 hs
  subst h1 h2
  show wF (g6 (fun name a k2 c=>R (name,a,k2,c)) x m1 s m1) (Vd m1 x s)
  unfold g6
  rw[Rb _ _ hlen]
  simp only[vaa]
  refine Gb (fun hk=>dB ?_) (fun hk=>?_)
  ·have hk':¬(lR m1 x).2=true:=by simpa using hk
   have h0:IB m1 x=[]:=by unfold IB;rw[vax hk']
   exact⟨hs,fun _ h=>h,fun _ h=>.inl h,fun y hy=>(by rw[h0]at hy;cases hy),fun y h1 h2=>by rw[h1]at h2;cases h2⟩
  ·have hk':(lR m1 x).2=true:=by simpa using hk
   obtain⟨hc,hcl⟩:=RF hm (LH hk')
   have hb:=(hm.2 _ (LH hk')).1
   rw[hc]
   simp only[vaa]
   have hsx:IB m1 x=(RH (lR m1 x).1).filter fun y=>(lR m1 y).2:=by unfold IB;rw[vaw hk']
   generalize hl:RH (lR m1 x).1=l at hcl hsx
   refine fK (R:=Vd m1 x s) ?_ (fun t ht=>dB ht)
   unfold jV
   refine Mn l (by omega) (fun i (t:List (af×Bool))=>(i,t)) (fun i t=>Pq m1 t/\(∀y,iu s y=true->iu t y=true)/\(∀y,iu t y=true->iu s y=true\/S6 m1 x y)/\(∀y∈l.take i,(lR m1 y).2=true->iu t y=true)/\∀y,iu t y=true->iu s y=false->∀z∈IB m1 y,iu t z=true) (fun i h t hI=>?_) (fun t hI=>?_) s ⟨hs,fun _ h=>h,fun _ h=>.inl h,fun y hy=>by simp at hy,fun y h1 h2=>by rw[h1]at h2;cases h2⟩
   ·obtain⟨i1,i2,i3,i4,i5⟩:=hI
    show wF (dv _ m1 l (l.length:Int) m1 (i:Int) t) _
    unfold dv jU
    rw[vaw (by simpa using h),dg _ _ h]
    simp only[vaa]
    rw[Rb _ _ hlen]
    simp only[vaa]
    have hcond:(if(lR m1 l[i]).2=true then some (!((wx t l[i]).getD false))else some false)=some ((lR m1 l[i]).2&&!iu t l[i]):=by
     cases(lR m1 l[i]).2<;>rfl
    rw[hcond]
    simp only[vaa]
    have htake:∀t',(∀y,iu t y=true->iu t' y=true)->((lR m1 l[i]).2=true->iu t' l[i]=true)->∀y∈l.take (i+1),(lR m1 y).2=true->iu t' y=true:=fun t' ht hx y hy hyk=>by
     rw[vaz h]at hy
     rcases vam.1 hy with hy|hy
     ·exact ht y (i4 y hy hyk)
     ·rw[va4.1 hy]at hyk ⊢;exact hx hyk
    refine Gb (fun hc=>?_) (fun hc=>dB ⟨t,rfl,i1,i2,i3,htake t (fun _ h=>h) (fun hk2=>?_),i5⟩)
    ·simp only[vad,vaV]at hc
     obtain⟨hk2,hnot⟩:=hc
     rw[sn _ _ (by simp)]
     simp only[vaa]
     have hput:=i1.put hk2 hnot
     have hlt:zT m1 (iO t [l[i]])<zT m1 s:=vaA (T9 hk2 hnot) (VQ i2)
     refine fK (ih (l[i],m1,iO t [l[i]],m1) hlt ⟨rfl,rfl,hput⟩) (fun u hu=>dB ⟨u,rfl,?_⟩)
     obtain⟨u1,u2,u3,u4,u5⟩:=hu
     have hmem:∀y,iu (iO t [l[i]]) y=true↔y=l[i]\/iu t y=true:=fun y=>by rw[Bo];simp
     have hx1:l[i]∈IB m1 x:=by rw[hsx];exact vaS.2 ⟨vaG h,hk2⟩
     have ht2:∀y,iu t y=true->iu u y=true:=fun y hy=>u2 y ((hmem y).2 (.inr hy))
     refine⟨u1,fun y hy=>ht2 y (i2 y hy),fun y hy=>?_,htake u ht2 (fun _=>u2 _ ((hmem _).2 (.inl rfl))),fun y hy hys z hz=>?_⟩
     ·rcases u3 y hy with hy|hy
      ·rcases(hmem y).1 hy with rfl|hy
       ·exact .inr (.one hx1)
       ·exact i3 y hy
      ·exact .inr (.step hx1 hy)
     ·cases hya:iu (iO t [l[i]]) y with
      |false=>exact u5 y hy hya z hz
      | true =>
       rcases(hmem y).1 hya with rfl|hya
       ·exact u4 z hz
       ·exact ht2 z (i5 y hya hys z hz)
    ·cases hh:iu t l[i]with
     |true=>rfl
     |false=>rw[hk2,hh]at hc;exact absurd rfl hc
   ·obtain⟨i1,i2,i3,i4,i5⟩:=hI
    show wF (dv _ m1 l (l.length:Int) m1 (l.length:Int) t) _
    unfold dv
    rw[vax (by simp)]
    rw[vaR]at i4
    refine dB ⟨i1,i2,i3,fun y hy=>?_,i5⟩
    rw[hsx]at hy
    exact i4 y (vaS.1 hy).1 (vaS.1 hy).2
 ·have h1:zT m s<=30:=by
   unfold zT
   have h2:=vby (fun x=>!iu s x) (m.Defs.map (·.Name))
   have h3:=hm.1
   rw[vbb]at h2
   omega
  exact xP (by unfold nh;show zT m s<=_;omega)
theorem NM{m:aP}(hm:Y8 m)(x:af):∃L,qG m x=some (vX L)/\(∀y,y∈L↔S6 m x y)/\L.length<=30:=by
 obtain⟨t,ht,⟨L,rfl,hn,hk⟩,h2,h3,h4,h5⟩:=SS hm x [] ⟨[],rfl,by simp,by simp⟩
 have h0:∀y,iu ([]:List (af×Bool)) y=false:=fun y=>rfl
 have hlen:L.length<=30:=vay (Sf hn hk) hm.1
 refine⟨L,?_,fun y=>⟨fun hy=>?_,fun hy=>?_⟩,hlen⟩
 ·unfold qG
  rw[GR]
  simp only[vaa]
  rw[ht]
  simp only[vaa]
  rw[G9 _ (by omega)]
  rfl
 ·rcases h3 y ((Bp L y).2 hy)with h|h
  ·cases h
  ·exact h
 ·exact Qm (fun a ha z hz=>(Bp L z).1 (h5 a ((Bp L a).2 ha) rfl z hz)) (fun z hz=>(Bp L z).1 (h4 z hz)) hy
theorem Qz{l:List af}{s:af}:(l.any fun k=>k==s)=true↔s∈l:=by simp
theorem Nq(d:eA):ir (ae d.Body)+cJ (d.Params.map cS)+d.Name.length<=ir (bH d):=by
 unfold bH
 rw[sh,sh]
 simp only[ir,pm,sl]
 omega
theorem OZ(m:aP):cJ (m.Defs.map bH)+cJ (m.Instances.map dJ)+cJ (m.Datas.map nG)<=ir (az m):=by
 rw[DZ]
 simp only[ir,pm,sl]
 omega
theorem Np{m:aP}{d:eA}(h:d∈m.Defs):ir (bH d)<=ir (az m):=by
 have:=zy bH h
 have:=OZ m
 omega
theorem UI{m:aP}{x:mt}{d:eA}(h:x∈m.Instances)(hd:d∈x.Defs):ir (bH d)<=ir (az m):=by
 have h1:=zy dJ h
 have h2:=OZ m
 have h3:=zy bH hd
 have h4:cJ (x.Defs.map bH)<=ir (dJ x):=by
  unfold dJ
  rw[sh,sh]
  simp only[ir,pm,sl]
  omega
 omega
theorem VH(m:aP)(hm:ir (az m)<=Fc):wF (IL m) (fun b=>b=true->m.Datas.length<=30/\m.Instances.length<=30/\m.Defs.length<=30/\(∀x∈m.Instances,x.Defs.length<=30)/\∀d∈m.Datas,d.Cons.length<=30):=by
 have hB:ir (az m)<=4000000:=hm
 unfold IL DM
 simp only[qau,vaa]
 refine Gb (fun _=>dB (fun h=>by cases h)) (fun h0=>?_)
 simp only[va6,not_or,vaj]at h0
 obtain⟨hd,hi,hf⟩:=h0
 rw[lF (by simp;omega)]
 simp only[vaa,vaZ]
 refine fK (R:=fun o=>match o with|.inl _=>True|.inr v=>v.length<=930/\(∀d∈v,ir (bH d)<=ir (az m))/\∀x∈m.Instances,x.Defs.length<=30) ?_ (fun o ho=>?_)
 ·unfold DN
  refine Mn m.Instances (by omega) (fun i v=>(v,i)) (fun i (v:List eA)=>v.length<=30+30 * i/\(∀d∈v,ir (bH d)<=ir (az m))/\∀x∈m.Instances.take i,x.Defs.length<=30) (fun i h v hv=>?_) (fun v hv=>?_) m.Defs ⟨by omega,fun d hd=>Np hd,fun x hx=>by simp at hx⟩
  ·obtain⟨v1,v2,v3⟩:=hv
   have hmem:m.Instances[i]∈m.Instances:=vaG h
   show wF (nB m v (i:Int)) _
   unfold nB
   rw[vaw (by simpa using h),dg _ _ h]
   simp only[vaa]
   refine Gb (fun _=>dB trivial) (fun h30=>?_)
   simp only[vaj]at h30
   rw[lF (by omega)]
   refine dB ⟨v++m.Instances[i].Defs,rfl,by rw[vau];omega,fun d hd=>?_,fun x hx=>?_⟩
   ·rcases vam.1 hd with hd|hd
    ·exact v2 d hd
    ·exact UI hmem hd
   ·rw[vaz h]at hx
    rcases vam.1 hx with hx|hx
    ·exact v3 x hx
    ·rw[va4.1 hx];omega
  ·show wF (nB m v (m.Instances.length:Int)) _
   unfold nB
   rw[vax (by simp)]
   obtain⟨v1,v2,v3⟩:=hv
   rw[vaR]at v3
   exact dB ⟨by omega,v2,v3⟩
 ·cases o with
  |inl _=>exact dB (fun h=>by cases h)
  | inr v =>
   obtain⟨v1,v2,v3⟩:=ho
   refine fK (R:=fun _=>True) ?_ (fun n _=>?_)
   ·unfold DO
    refine(zP v (by omega) 2000 (fun i n=>0<=n/\n<=2000+8000000) (fun i h n hI hn=>?_) (fun i n _ h=>?_) 0 ⟨by omega,by omega⟩).mono (fun _ _=>trivial)
    ·have hv:=v2 _ (vaG h)
     have hp:=Nq v[i]
     have hl:=LX v[i].Params
     show wF (nC v n (i:Int)) _
     unfold nC zc
     rw[DW h hn]
     simp only[vaa,if_true]
     rw[dg _ _ h]
     simp only[vaa]
     refine fK (Yf v[i].Body 2000 (by unfold Fc;omega) (by omega) (by omega)) (fun r hr=>?_)
     rw[co (n:=n+_) (by omega) (by omega),co (n:=n+_+_) (by omega) (by omega)]
     exact dB ⟨_,rfl,by omega,by omega⟩
    ·show nC v n (i:Int)=_
     unfold nC zc
     rw[zj h]
     rfl
   ·refine fK (R:=fun o=>match o with|.inl _=>True|.inr _=>∀d∈m.Datas,d.Cons.length<=30) ?_ (fun o ho=>?_)
    ·unfold DP
     refine(Qq m.Datas.length (by omega) (fun i=>∀(h:i<m.Datas.length),m.Datas[i].Cons.length<=30) (fun _=>True) (fun i h=>?_) ?_).mono (fun r hr=>?_)
     ·unfold uD
      rw[vaw (by simpa using h),dg _ _ h]
      simp only[vaa]
      refine Gb (fun _=>dB trivial) (fun h30=>dB ⟨rfl,fun _=>?_⟩)
      simp only[vaj]at h30
      omega
     ·unfold uD
      rw[vax (by simp)]
     ·cases r with
      |inl _=>trivial
      |inr _=>
       intro d hd
       obtain⟨i,h,rfl⟩:=List.mem_iff_getElem.1 hd
       exact hr i h h
    ·cases o with
     |inl _=>exact dB (fun h=>by cases h)
     |inr _=>exact dB (fun _=>⟨by omega,by omega,by omega,v3,ho⟩)
set_option maxRecDepth 100000
theorem Pw:Cb=some true:=by kernel_rfl
theorem Xt(m:aP)(hm:ir (az m)<=1048576)(h:m.Defs.length<=30):Y8 m:=by
 refine⟨h,fun d hd=>?_⟩
 have h1:=Np hd
 have h2:=Nq d
 have h3:=LX d.Params
 have h4:=OH d.Body
 exact⟨by omega,by omega⟩
theorem Rk{l:List af}(s:af)(h:l.length<=1073741824):EK l s=some (l.any fun k=>k==s):=by
 unfold EK DQ
 rw[Sb l (by omega) (fun(zz:Int)=>zf l s zz) (fun i x=>if(x==s)=true then some (.inr (.inl ()))else some (.inl (bV (i+1)))) (fun k=>k==s) (.inl ()) (.inr ()) (fun _=>rfl) (fun x _ i=>by split<;>rfl)]
 cases l.any (fun k=>k==s)<;>rfl
theorem SF{l k:List af}(hl:l.length<=1073741824)(hk:k.length<=1073741824)(h:∀x∈k,x∈l):kg l k 0=some (.inr ()):=by
 unfold kg
 refine fT k.length (fun(zz:Int)=>dO l k zz) (fun i=>(i:Int)) _ (fun i hi=>?_) ?_
 ·show dO l k (i:Int)=_
  unfold dO
  rw[vaw (by simpa using hi),dg _ _ hi,vaa,Rk _ hl,vaa,Qz.2 (h _ (vaG hi)),vax (by simp),co (by omega) (by omega)]
  rfl
 ·show dO l k (k.length:Int)=_
  unfold dO
  rw[vax (by simp)]
theorem No(x0:aP)(x1 x2:af)(h:ir (az x0)+(pm (.str x1)+(pm (.str x2)+0))<=1048576):qc x0 x1 x2=some true:=by
 have hm:ir (az x0)<=1048576:=by omega
 obtain⟨b,hb,hfew⟩:=VH x0 (by unfold Fc;omega)
 have hx2:x2.length<=1048576:=by simp only[pm]at h;omega
 unfold qc ng
 rw[hb,Pw]
 simp only[vaa]
 cases b with
 |false=>simp
 | true =>
  obtain⟨f1,f2,f3,f4,f5⟩:=hfew rfl
  have hok:=Xt x0 hm f3
  simp only[Bool.not_true,vaY,if_false]
  by_cases hl:decide ((x1.length:Int)>100)=true
  ·simp[hl]
  ·simp only[hl,vaY,if_false,vaa]
   by_cases hl2:decide ((x2.length:Int)>100)=true
   ·simp[hl2]
   ·simp only[hl2,vaY,if_false]
    obtain⟨L1,e1,m1,l1⟩:=NM hok x1
    have k1:(vX L1).length<=1073741824:=by have:=FL L1;omega
    rw[e1,vaa]
    have g2:kf x0 (vX L1) 0=some (.inr ()):=by
     unfold kf
     refine fT (vX L1).length (fun(zz:Int)=>dM x0 (vX L1) zz) (fun i=>(i:Int)) _ (fun i hi=>?_) ?_
     ·show dM x0 (vX L1) (i:Int)=_
      unfold dM
      obtain⟨L2,e2,m2,l2⟩:=NM hok (vX L1)[i]
      have hi1:=(m1 _).1 (((vY L1).2 _).1 (vaG hi))
      rw[vaw (by simpa using hi),dg _ _ hi,vaa,e2,vaa,SF k1 (by have:=FL L2;omega) (fun x hx=>?_)]
      ·simp only[vaa]
       rw[co (by omega) (by omega)]
       rfl
      ·exact((vY L1).2 x).2 ((m1 x).2 (hi1.trans ((m2 x).1 (((vY L2).2 x).1 hx))))
     ·show dM x0 (vX L1) ((vX L1).length:Int)=_
      unfold dM
      rw[vax (by simp)]
    rw[g2]
    simp only[vaa]
    have g4:kh x1 x2 x0 0=some (.inr ()):=by
     unfold kh
     refine fT x0.Defs.length (fun(zz:Int)=>dP x1 x2 x0 zz) (fun i=>(i:Int)) _ (fun i hi=>?_) ?_
     ·show dP x1 x2 x0 (i:Int)=_
      have hd:=vaG hi
      have h1:=Np hd
      have h2:=Nq x0.Defs[i]
      have h3:=OH x0.Defs[i].Body
      have he:OM x0.Defs[i].Body:=by unfold OM nh;omega
      have hfl:=FL (uf x0.Defs[i].Body)
      have hfl2:=LO x0.Defs[i].Body
      unfold dP
      rw[vaw (by simpa using hi),dg _ _ hi,vaa,OP _ (ON he),vaa]
      have gJ:ke x1 x2 x0 (i:Int) (vX (uf x0.Defs[i].Body))=some false:=by
       unfold ke
       rw[Rk _ (by omega),vaa]
       by_cases hq:((vX (uf x0.Defs[i].Body)).any fun k=>k==x1)=true
       ·rw[hq,vax (by simp)]
       ·have hq':((vX (uf x0.Defs[i].Body)).any fun k=>k==x1)=false:=vcn.2 hq
        have hnf:x1∉uf x0.Defs[i].Body:=fun hc=>hq (Qz.2 (((vY _).2 x1).2 hc))
        have hns:nE (Wk x0.Defs[i].Body x1 x2)=nE x0.Defs[i].Body:=Tu _ _ _
        rw[hq',vaw (by simp),dg _ _ hi,vaa,S9 _ _ _ he (by omega) (by omega),vaa,OP _ (by unfold nh;omega),vaa,SL _ _ _ hnf,SD (by unfold nh;omega),vaa]
        simp
      rw[gJ,vaa,vax (by simp),co (by omega) (by omega)]
      rfl
     ·show dP x1 x2 x0 (x0.Defs.length:Int)=_
      unfold dP
      rw[vax (by simp)]
    rw[g4]
    simp only[vaa]
end Go.Proofs.YtkdahfeiedaahaaGreatDoor
