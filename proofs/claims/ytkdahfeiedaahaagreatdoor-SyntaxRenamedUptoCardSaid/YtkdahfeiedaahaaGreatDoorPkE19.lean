/- PROVED: a part of the proof. Conditions: none. -/
import Derived.Test.YtkdahfeiedaahaaGreatDoorPkE18
import Derived.Test.YtkdahfeiedaahaaGreatDoorPkE10
import Derived.Shelf.SlicesE.DeleteFunc
import Derived.Shelf.SlicesE.Index
import Derived.Lib.SlicesCompact
noncomputable section
namespace Go.Proofs.YtkdahfeiedaahaaGreatDoor
open Go
set_option linter.unusedVariables false
set_option linter.unusedSimpArgs false
theorem mR(e:af):iB (ae e)=1+(e.Name.length+1+(1+(bM (e.Kids.map ae)+1+(bM (e.Params.map aq)+1+(bM (e.Alts.map az)+1+(bM (e.Types.map ai)+1+0)))))):=by
 rw[bD];simp only[iB,pm,sl]
theorem ye(a:aH):iB (az a)=a.Con.length+1+(bM (a.Names.map cS)+1+iB (ae a.Body)):=by
 obtain⟨c,ns,b⟩:=a
 rw[az]
 show iB (PVal.str c::sl cS ns::ae b)=_
 simp only[iB,pm,sl];rfl
theorem tS(p:av):iB (aq p)=p.Name.length+1+iB (ai p.Type_):=by
 show iB (PVal.str p.Name::ai p.Type_)=_
 simp only[iB,pm]
theorem Su(e:af):1<=iB (ae e):=by rw[mR];omega
theorem TF(a:aH):1<=iB (az a):=by rw[ye];omega
theorem Ks(p:av):1<=iB (aq p):=by rw[tS];omega
theorem Hg{α:Type}(c:α->List PVal){l:List α}{x:α}(h:x∈l):iB (c x)<=bM (l.map c):=DX (vag.2 ⟨x,h,rfl⟩)
theorem N4{e x:af}(h:x∈e.Kids):iB (ae x)<iB (ae e):=by have:=Hg ae h;rw[mR e];omega
theorem St{e:af}{a:aH}(h:a∈e.Alts):iB (az a)<iB (ae e):=by have:=Hg az h;rw[mR e];omega
theorem Iy{e:af}{a:aH}(h:a∈e.Alts):iB (ae a.Body)<iB (ae e):=by have:=St h;have:=ye a;omega
theorem MV{e:af}{p:av}(h:p∈e.Params):iB (aq p)<iB (ae e):=by have:=Hg aq h;rw[mR e];omega
theorem TJ{e:af}{t:aj}(h:t∈e.Types):iB (ai t)<iB (ae e):=by have:=Hg ai h;rw[mR e];omega
theorem TG{e x:af}(h:x∈iD e):iB (ae x)<iB (ae e):=by
 rcases vaw.1 h with h|h
 ·exact N4 h
 ·obtain⟨a,ha,rfl⟩:=vag.1 h
  exact Iy ha
theorem TH{e x:af}(h:x∈eP e):iB (ae x)<=iB (ae e):=by
 revert x
 refine OL (Q:=fun e=>∀{x},x∈eP e->iB (ae x)<=iB (ae e)) (fun e ih x h=>?_) e
 rw[AT]at h
 rcases vaE.1 h with rfl|h
 ·exact vam _
 ·obtain⟨y,hy,hx⟩:=List.mem_flatMap.1 h
  have:=ih y hy hx
  have:=TG hy
  omega
mutual
theorem OU:∀(e:af),nE e<=iB (ae e)
 |⟨o,n,k,ks,ps,as1,ts⟩=>by
  have h1:=R6 ks
  have h2:=R2 as1
  have h3:=ph aq Ks ps
  have h4:=ph ai MW ts
  rw[nE,mR]
  show _<=1+(n.length+1+(1+(bM (ks.map ae)+1+(bM (ps.map aq)+1+(bM (as1.map az)+1+(bM (ts.map ai)+1+0))))))
  omega
theorem Wq:∀(a:aH),nA a<=iB (az a)
 |⟨c,ns,b⟩=>by
  have h1:=OU b
  have h2:=OO ns
  rw[nA,ye]
  show _<=c.length+1+(bM (ns.map cS)+1+iB (ae b))
  omega
theorem R6:∀(l:List af),tQ l<=bM (l.map ae)
 |[]=>by simp[tQ]
 |e::l=>by
  have:=OU e
  have:=R6 l
  rw[tQ]
  simp only[var,bM]
  omega
theorem R2:∀(l:List aH),va l<=bM (l.map az)
 |[]=>by simp[va]
 |a::l=>by
  have:=Wq a
  have:=R2 l
  rw[va]
  simp only[var,bM]
  omega
end
theorem Sg{t:aj}(h:iB (ai t)<=gZ):Lu t:=⟨vaC (OP t) h,Oo gZ t h⟩
theorem Tv(l:List ag)(most:Int)(hl:bM (l.map cS)<=Ev):Ew (AA l most) (fun r=>0<=r/\r<=(bM (l.map cS):Int)):=by
 unfold AA xI
 unfold Ev at hl
 have hlen:=OO l
 refine jj (Bb l (by omega) most (fun i n=>0<=n/\n<=(bM ((l.take i).map cS):Int)) (fun i hi n hI hm=>?_) (fun i n _ h=>?_) 0 ⟨by omega,by omega⟩) (fun r hr=>kM ?_)
 ·obtain⟨g1,g2⟩:=hI
  have e:=tR cS l i hi
  have e2:=fg cS l (i+1)
  have e3:iB (cS l[i])=l[i].length+1:=by simp only[cS,iB,pm]
  show Ew (kg l most n i) _
  unfold kg th
  rw[EL hi hm,bY l i hi]
  simp only[vaa,if_true]
  have hq:=vbC l[i].length 50
  rw[show(50:Int)=((50:Nat):Int)from rfl,Fj _ 50 (by omega) (by omega)]
  simp only[vaa]
  rw[co (n:=n+1) (by omega) (by omega),co (n:=n+1+_) (by omega) (by omega)]
  exact kM ⟨_,rfl,by omega,by omega⟩
 ·show kg l most n i=_
  unfold kg th
  rw[AK h]
  rfl
 ·obtain⟨i,hi,⟨g1,g2⟩,h⟩:=hr
  have e2:=fg cS l i
  exact⟨g1,by omega⟩
theorem V5(e:af)(most:Int)(he:iB (ae e)<=Ev)(h1: -4000000<=most)(h2:most<=1000000000):Ew (Ho e most) (fun r=>0<=r/\r<=(iB (ae e):Int)):=by
 refine IU (F:=Ck) (fun x=>iB (ae x.1)) (fun x=>iB (ae x.1)<=Ev/\-4000000<=x.2/\x.2<=1000000000) (fun x r=>0<=r/\r<=(iB (ae x.1):Int)) (fun R x hx ih=>?_) (e,most) ⟨he,h1,h2⟩ (qR (vaC he (by decide)))
 obtain⟨e,most⟩:=x
 obtain⟨he,h1,h2⟩:=hx
 have he:iB (ae e)<=Ev:=he
 have h1: -4000000<=most:=h1
 have h2:most<=1000000000:=h2
 have hpm:=mR e
 have l1:=ph aq Ks e.Params
 have l2:=ph ae Su e.Kids
 have l3:=ph az TF e.Alts
 show Ew (xG (fun e most=>R (e,most)) e most) (fun r=>0<=r/\r<=(iB (ae e):Int))
 unfold xG
 unfold Ev at he
 have hq:=vbC e.Name.length 50
 rw[show(50:Int)=((50:Nat):Int)from rfl,Fj _ 50 (by omega) (by omega)]
 simp only[vaa]
 refine jj (Pb e.Types most (by unfold Ev;omega) (by omega) h2) (fun rt ht=>?_)
 have t1:=ht.lo
 have t2:=ht.hi
 rw[co (n:=1+_) (by omega) (by omega),co (n:=1+_+rt) (by omega) (by omega)]
 generalize hb:(1:Int)+((e.Name.length / 50:Nat):Int)+rt=b0
 have b1:0<=b0:=by omega
 have b2:b0<=((1+e.Name.length+bM (e.Types.map ai):Nat):Int):=by omega
 refine jj (R:=fun r=>0<=r/\r<=b0+(bM (e.Params.map aq):Int)) ?_ (fun r1 hr1=>?_)
 ·unfold zd
  refine(Bb e.Params (by omega) most (fun i n=>0<=n/\n<=b0+(bM ((e.Params.take i).map aq):Int)) (fun i hi n hI hm=>?_) (fun i n _ h=>?_) b0 ⟨b1,by simp[bM]⟩).mono (fun r hr=>?_)
  ·obtain⟨g1,g2⟩:=hI
   have e1:=tR aq e.Params i hi
   have e2:=fg aq e.Params (i+1)
   have e3:=tS e.Params[i]
   show Ew (lS most e n i) _
   unfold lS vD
   rw[EL hi hm,bY e.Params i hi]
   simp only[vaa,if_true]
   have hq:=vbC e.Params[i].Name.length 50
   rw[show(50:Int)=((50:Nat):Int)from rfl,Fj _ 50 (by omega) (by omega)]
   simp only[vaa]
   refine jj (Pb [e.Params[i].Type_] most (by unfold Ev;simp only[var,vbP,bM];omega) (by omega) h2) (fun rp hp=>?_)
   have p1:=hp.lo
   have p2:rp<=((iB (ai e.Params[i].Type_)+0:Nat):Int):=by
    have:=hp.hi
    simp only[var,vbP,bM]at this
    exact this
   rw[co (n:=n+1) (by omega) (by omega),co (n:=n+1+_) (by omega) (by omega),co (n:=n+1+_+_) (by omega) (by omega)]
   exact kM ⟨_,rfl,by omega,by omega⟩
  ·show lS most e n i=_
   unfold lS vD
   rw[AK h]
   rfl
  ·obtain⟨i,hi,⟨g1,g2⟩,h⟩:=hr
   have e2:=fg aq e.Params i
   exact⟨g1,by omega⟩
 obtain⟨c1,c2⟩:=hr1
 refine jj (R:=fun r=>0<=r/\r<=r1+(bM (e.Kids.map ae):Int)) ?_ (fun r2 hr2=>?_)
 ·unfold ze
  refine(Bb e.Kids (by omega) most (fun i n=>0<=n/\n<=r1+(bM ((e.Kids.take i).map ae):Int)) (fun i hi n hI hm=>?_) (fun i n _ h=>?_) r1 ⟨c1,by simp[bM]⟩).mono (fun r hr=>?_)
  ·obtain⟨g1,g2⟩:=hI
   have e1:=tR ae e.Kids i hi
   have e2:=fg ae e.Kids (i+1)
   have hk:=N4 (vaB hi)
   show Ew (lT (fun e most=>R (e,most)) most e n i) _
   unfold lT vE
   rw[EL hi hm,bY e.Kids i hi]
   simp only[vaa,if_true]
   rw[co (n:=most - n) (by omega) (by omega)]
   refine jj (ih (e.Kids[i],most - n) hk ⟨by show iB (ae e.Kids[i])<=Ev;unfold Ev;omega,by show -4000000<=most - n;omega,by show most - n<=1000000000;omega⟩) (fun r hr=>?_)
   have q1:0<=r:=hr.1
   have q2:r<=(iB (ae e.Kids[i]):Int):=hr.2
   rw[co (n:=n+r) (by omega) (by omega)]
   exact kM ⟨_,rfl,by omega,by omega⟩
  ·show lT (fun e most=>R (e,most)) most e n i=_
   unfold lT vE
   rw[AK h]
   rfl
  ·obtain⟨i,hi,⟨g1,g2⟩,h⟩:=hr
   have e2:=fg ae e.Kids i
   exact⟨g1,by omega⟩
 obtain⟨d1,d2⟩:=hr2
 refine jj (R:=fun r=>0<=r/\r<=r2+(bM (e.Alts.map az):Int)) ?_ (fun r3 hr3=>kM ⟨hr3.1,by have:=hr3.2;omega⟩)
 unfold zf
 refine(Bb e.Alts (by omega) most (fun i n=>0<=n/\n<=r2+(bM ((e.Alts.take i).map az):Int)) (fun i hi n hI hm=>?_) (fun i n _ h=>?_) r2 ⟨d1,by simp[bM]⟩).mono (fun r hr=>?_)
 ·obtain⟨g1,g2⟩:=hI
  have e1:=tR az e.Alts i hi
  have e2:=fg az e.Alts (i+1)
  have e3:=ye e.Alts[i]
  have hk:=Iy (vaB hi)
  show Ew (lU (fun e most=>R (e,most)) most e n i) _
  unfold lU vF
  rw[EL hi hm,bY e.Alts i hi]
  simp only[vaa,if_true]
  have hq:=vbC e.Alts[i].Con.length 50
  rw[show(50:Int)=((50:Nat):Int)from rfl,Fj _ 50 (by omega) (by omega)]
  simp only[vaa]
  refine jj (Tv e.Alts[i].Names most (by unfold Ev;omega)) (fun rn hn=>?_)
  obtain⟨n1,n2⟩:=hn
  rw[co (n:=n+1) (by omega) (by omega),co (n:=n+1+_) (by omega) (by omega),co (n:=n+1+_+_) (by omega) (by omega),co (n:=most - _) (by omega) (by omega)]
  refine jj (ih (e.Alts[i].Body,most - (n+1+((e.Alts[i].Con.length / 50:Nat):Int)+rn)) hk ⟨by show iB (ae e.Alts[i].Body)<=Ev;unfold Ev;omega,by show -4000000<=most - _;omega,by show most - _<=1000000000;omega⟩) (fun r hr=>?_)
  have q1:0<=r:=hr.1
  have q2:r<=(iB (ae e.Alts[i].Body):Int):=hr.2
  rw[co (n:=_+r) (by omega) (by omega)]
  exact kM ⟨_,rfl,by omega,by omega⟩
 ·show lU (fun e most=>R (e,most)) most e n i=_
  unfold lU vF
  rw[AK h]
  rfl
 ·obtain⟨i,hi,⟨g1,g2⟩,h⟩:=hr
  have e2:=fg az e.Alts i
  exact⟨g1,by omega⟩
theorem Ql(e:af)(he:iB (ae e)<=Ev):Ew (AE e) (fun _=>True):=by
 unfold AE
 exact jj (V5 e 600 he (by omega) (by omega)) (fun r _=>kM trivial)
theorem Og{a b:av}:a=b↔a.Name=b.Name/\a.Type_=b.Type_:=by
 obtain⟨n,t⟩:=a
 obtain⟨n',t'⟩:=b
 constructor
 ·rintro h;cases h;exact⟨rfl,rfl⟩
 ·rintro⟨h1,h2⟩;cases h1;cases h2;rfl
theorem SF{a b:aH}:a=b↔a.Con=b.Con/\a.Names=b.Names/\a.Body=b.Body:=by
 obtain⟨n,t,e⟩:=a
 obtain⟨n',t',e'⟩:=b
 constructor
 ·rintro h;cases h;exact⟨rfl,rfl,rfl⟩
 ·rintro⟨h1,h2,h3⟩;cases h1;cases h2;cases h3;rfl
theorem tU{a b:af}:a=b↔a.Op=b.Op/\a.Name=b.Name/\a.N=b.N/\a.Kids=b.Kids/\a.Types=b.Types/\a.Params=b.Params/\a.Alts=b.Alts:=by
 obtain⟨o,n,k,ks,ps,as1,ts⟩:=a
 obtain⟨o',n',k',ks',ps',as1',ts'⟩:=b
 constructor
 ·rintro h;cases h;exact⟨rfl,rfl,rfl,rfl,rfl,rfl,rfl⟩
 ·rintro⟨h1,h2,h3,h4,h5,h6,h7⟩;cases h1;cases h2;cases h3;cases h4;cases h5;cases h6;cases h7;rfl
abbrev F7(e:af):Prop:=iB (ae e)<=gZ
theorem uI{e:af}(h:F7 e):nE e<=gZ:=vaC (OU e) h
theorem Lt{e x:af}(h:F7 e)(hx:x∈e.Kids):F7 x:=vaC (vbK (N4 hx)) h
theorem E8{e:af}{a:aH}(h:F7 e)(hx:a∈e.Alts):F7 a.Body:=vaC (vbK (Iy hx)) h
theorem Sf{e x:af}(h:F7 e)(hx:x∈eP e):F7 x:=vaC (TH hx) h
theorem Im{e:af}{t:aj}(h:F7 e)(hx:t∈e.Types):Lu t:=Sg (vaC (vbK (TJ hx)) h)
theorem E9{e:af}{p:av}(h:F7 e)(hx:p∈e.Params):Lu p.Type_:=Sg (by have:=MV hx;have:=tS p;have:iB (ae e)<=gZ:=h;omega)
theorem Se{e:af}{a:aH}(h:F7 e)(hx:a∈e.Alts):a.Names.length<=gZ:=vaC (vbK (Pn hx)) (uI h)
theorem Oc{a b:List av}(ha:a.length<=gZ)(h:∀x∈a,Lu x.Type_)(h':∀x∈b,Lu x.Type_):pA a b=some (decide (a=b)):=by
 unfold pA pC
 refine K5 ha _ (fun i h1 h2=>?_) ?_ rfl rfl
 ·show fW a b (i:Int)=_
  unfold fW pB
  rw[vaq (by simpa using h1),bY a i h1]
  simp only[vaa]
  rw[bY b i h2]
  simp only[vaa]
  rw[Kx _ _ (h _ (vaB h1)) (h' _ (vaB h2))]
  simp only[vaa,Wv]
  have he:=Og (a:=a[i]) (b:=b[i])
  by_cases e1:a[i].Name=b[i].Name<;>by_cases e2:a[i].Type_=b[i].Type_<;>simp[he,e1,e2]
 ·show fW a b (a.length:Int)=_
  unfold fW
  rw[vat (by simp)]
theorem SA(a b:af)(ha:F7 a)(hb:F7 b):zg a b=some (decide (a=b)):=by
 refine tw (F:=Cm) (fun x=>nE x.1) (fun x=>F7 x.1/\F7 x.2) (fun x=>decide (x.1=x.2)) (fun R x hx ih=>?_) (a,b) ⟨ha,hb⟩ (qR (uI ha))
 obtain⟨u,v⟩:=x
 obtain⟨hu,hv⟩:F7 u/\F7 v:=hx
 have l0:=uI hu
 have l1:=EN u
 have l2:=AH u
 have l3:=MO u
 have l4:=Oh u
 show xH (fun a a2=>R (a,a2)) u v=some (decide (u=v))
 unfold xH zj zk
 rw[Oc (by omega) (fun x hx=>E9 hu hx) (fun x hx=>E9 hv hx),Ku (R:=nb) (a:=u.Types) (b:=v.Types) (by omega) (fun x hx y hy=>Kx x y (Im hu hx) (Im hv hy))]
 simp only[vaa,Wv]
 by_cases h0:(u.Op !=v.Op||(!(u.Name==v.Name)||(u.N !=v.N||(!decide (u.Params=v.Params)||!decide (u.Types=v.Types)))))=true
 ·rw[vaq h0]
  congr 1;symm
  rw[va3,tU]
  rintro⟨e1,e2,e3,e4,e5,e6,e7⟩
  simp[e1,e2,e3,e5,e6]at h0
 ·rw [vat h0]
  simp only[vaY,not_or,vaT,bne_iff_ne,ne_eq,Decidable.not_not,vcG,vaW,vak]at h0
  obtain⟨e1,e2,e3,e6,e5⟩:=h0
  by_cases hk:u.Kids.length=v.Kids.length
  ·by_cases hal:u.Alts.length=v.Alts.length
   ·rw [vat (by simp [hk,hal])]
    unfold zm
    rw[zU hk (by unfold gZ at l0;omega) (fun zz=>jX (fun a a2=>R (a,a2)) u v zz) (.inl ()) (.inr ()) (fun i h1 h2=>?_) ?_]
    ·by_cases e4:u.Kids=v.Kids
     ·simp only[e4,decide_true,if_true,vaa]
      unfold zn
      rw[zU hal (by unfold gZ at l0;omega) (fun zz=>jZ (fun a a2=>R (a,a2)) u v zz) (.inl ()) (.inr ()) (fun i h1 h2=>?_) ?_]
      ·by_cases e7:u.Alts=v.Alts
       ·simp[e7,tU (a:=u) (b:=v),e1,e2,e3,e4,e5,e6]
       ·simp[e7,tU (a:=u) (b:=v)]
      ·show jZ (fun a a2=>R (a,a2)) u v (u.Alts.length:Int)=_
       unfold jZ
       rw[vat (by simp)]
      ·show jZ (fun a a2=>R (a,a2)) u v (i:Int)=_
       unfold jZ
       rw[vaq (by simpa using h1),bY _ i h1]
       simp only[vaa]
       rw[bY _ i h2]
       simp only[vaa,J2]
       unfold zl
       rw[A7 (Se hu (vaB h1))]
       have hih:=ih (u.Alts[i].Body,v.Alts[i].Body) (AG (vaB h1)) ⟨E8 hu (vaB h1),E8 hv (vaB h2)⟩
       simp only[J2,vaa,hih,Wv]
       have he:=SF (a:=u.Alts[i]) (b:=v.Alts[i])
       by_cases f1:u.Alts[i].Con=v.Alts[i].Con<;>by_cases f2:u.Alts[i].Names=v.Alts[i].Names<;>by_cases f3:u.Alts[i].Body=v.Alts[i].Body<;>simp[he,f1,f2,f3]
     ·simp[e4,tU (a:=u) (b:=v)]
    ·show jX (fun a a2=>R (a,a2)) u v (u.Kids.length:Int)=_
     unfold jX
     rw[vat (by simp)]
    ·show jX (fun a a2=>R (a,a2)) u v (i:Int)=_
     unfold jX
     rw[vaq (by simpa using h1),bY _ i h1]
     simp only[vaa]
     rw[bY _ i h2]
     simp only[vaa]
     rw[ih (u.Kids[i],v.Kids[i]) (AP (vaB h1)) ⟨Lt hu (vaB h1),Lt hv (vaB h2)⟩]
     simp only[vaa]
     by_cases he:u.Kids[i]=v.Kids[i]<;>simp[he]
   ·have hx:((u.Alts.length:Int)!=(v.Alts.length:Int))=true:=by simp;omega
    rw[vaq (by simp[hx])]
    congr 1;symm
    rw[va3,tU]
    rintro⟨_,_,_,_,_,_,e7⟩
    exact hal (by rw[e7])
  ·have hx:((u.Kids.length:Int)!=(v.Kids.length:Int))=true:=by simp;omega
   rw[vaq (by simp[hx])]
   congr 1;symm
   rw[va3,tU]
   rintro⟨_,_,_,e4,_⟩
   exact hk (by rw[e4])
abbrev W9(a:List ag):Prop:=a.length<9223372036854775808
def HR(l:List ag)(s:ag):Int:=match l.findIdx? (fun x=>x==s)with|some j=>(j:Int)|none=>-1
theorem vC(l:List ag)(s:ag)(hl:l.length<9223372036854775808):Hm l s=some (HR l s):=by
 unfold Hm FE
 have:=Kd l hl (fun zz=>ry l s l.length zz) (fun x=>x==s) (fun j=>Sum.inl (j:Int)) (Sum.inr ()) (fun i h=>by
  simp only[ry]
  rw[vaq (by simp;omega),bY _ i h]
  simp only[vaa]
  split<;>simp_all) (by simp only[ry];rw[vat (by simp)])
 rw[this]
 unfold HR
 cases l.findIdx? (fun x=>x==s)<;>rfl
theorem Jt(l:List ag)(s:ag)(hl:l.length<9223372036854775808):uD l s=some (HR l s):=by
 unfold uD yl sP
 have:=Kd l hl (fun zz=>jQ l s l.length zz) (fun x=>x==s) (fun j=>Sum.inl (j:Int)) (Sum.inr ()) (fun i h=>by
  simp only[jQ]
  rw[vaq (by simp;omega),bY _ i h]
  simp only[vaa,BEq.comm (a:=s)]
  split<;>simp_all) (by simp only[jQ];rw[vat (by simp)])
 rw[this]
 unfold HR
 cases l.findIdx? (fun x=>x==s)<;>rfl
theorem pI(l:List ag)(s:ag):decide (HR l s>=0)=l.any fun k=>k==s:=by
 unfold HR
 cases h:l.findIdx? (fun x=>x==s)with
 |none=>
  rw[List.findIdx?_eq_none_iff]at h
  symm
  simp only[vbd]
  rw[show decide ((-1:Int)>=0)=false from rfl]
  simp only[vbd,vco]
  exact h
 | some j =>
  have h2:l.any (fun x=>x==s)=true:=by
   have:=List.findIdx?_isSome (xs:=l) (p:=fun x=>x==s)
   rw[h]at this
   exact this.symm
  rw[h2]
  simp
theorem PH(l:List ag)(s:ag):decide (HR l s<0)= !l.any fun k=>k==s:=by
 rw[<-pI]
 rw[<-decide_not]
 simp
theorem Kf{α:Type}(k:ag)(v:α)(j:ag):∀(m:List (ag×α)),xY (qS m k v) j=if(j==k)=true then some v else xY m j
 |[]=>by
  simp only[qS,xY,List.find?_cons,List.find?_nil]
  cases(j==k)<;>rfl
 | e :: r => by
  have ih:=Kf k v j r
  unfold qS
  by_cases h:(k==e.1)=true
  ·have h':k=e.1:=by simpa using h
   rw[vaq h]
   unfold xY
   simp only[List.find?_cons]
   rw[<-h']
   cases hj:(j==k)<;>simp
  ·rw [vat h]
   unfold xY at ih ⊢
   simp only[List.find?_cons]
   cases hj:(j==e.1)
   ·simpa using ih
   ·have:¬(j==k)=true:=fun hk=>h (by
      have h1:j=e.1:=by simpa using hj
      have h2:j=k:=by simpa using hk
      simp[<-h1,<-h2])
    simp[this]
abbrev Ib(m:List (ag×Bool))(k:ag):Bool:=(xY m k).getD false
theorem R1(m:List (ag×Bool))(k j:ag):Ib (qS m k true) j=(j==k||Ib m j):=by
 unfold Ib
 rw[Kf]
 cases(j==k)<;>rfl
def NJ(l:ag):Nat:=l.foldl (fun a c=>10 * a+(c.toNat - 48)) 0
theorem HL(u:Nat):NJ (Lib.decDigits u)=u:=by
 induction u using Nat.strongRecOn with
 | _ u ih =>
  rw[Lib.decDigits]
  by_cases h:u<10
  ·rw[dif_pos h]
   unfold NJ
   simp
   omega
  ·rw[dif_neg h]
   have:=ih (u / 10) (by omega)
   unfold NJ at this ⊢
   rw[vcg,this]
   simp
   omega
theorem Tm{u v:Nat}(h:Lib.decDigits u=Lib.decDigits v):u=v:=by rw[<-HL u,<-HL v,h]
theorem K3(u:Nat):(Lib.decDigits u).length<=u+1:=by
 induction u using Nat.strongRecOn with
 | _ u ih =>
  rw[Lib.decDigits]
  by_cases h:u<10
  ·rw[dif_pos h];simp
  ·rw[dif_neg h]
   have:=ih (u / 10) (by omega)
   simp
   omega
theorem KB:∀(k n:Nat) (acc:ag),n<=k->n<=1000000000->acc.length<=1000000000 - n->rU acc n=some (if n=0 then acc else Lib.decDigits n++acc)
 |k,0,acc,_,_,_=>by
  unfold rU
  exact tP rfl
 |0,n+1,_,h,_,_=>absurd h (by omega)
 | k + 1,n + 1,acc,hk,hn,ha => by
  have hb:rx acc ((n+1:Nat):Int)=some (.inl (UInt8.ofNat (48+(n+1) % 10)::acc,(((n+1) / 10:Nat):Int))):=by
   simp only[rx]
   have h1:(((n+1:Nat):Int)!=0)=true:=by simp;omega
   have h2:re ((n+1:Nat):Int) 10=some (((n+1) % 10:Nat):Int):=by
    simp only[re]
    have e:((n+1:Nat):Int) % 10=(((n+1) % 10:Nat):Int):=by omega
    rw[vat (by omega),Int.tmod_eq_emod_of_nonneg (by omega),e]
   have h3:y8 (((n+1) % 10:Nat):Int)=some (((n+1) % 10:Nat):Int):=by
    simp only[y8]
    rw[vat (by simp;omega)]
   have h4:IntKind.u8.wrap (cp (48+(((n+1) % 10:Nat):Int)))=((48+(n+1) % 10:Nat):Int):=by
    rw[co (by omega) (by omega)]
    have h5:(48:Int)+(((n+1) % 10:Nat):Int)=((48+(n+1) % 10:Nat):Int):=by omega
    rw[h5]
    generalize hq:48+(n+1) % 10=q
    have:q<58:=by omega
    show((q:Int) % 256)=q
    omega
   have h6:Dq [((48+(n+1) % 10:Nat):Int)]=some [UInt8.ofNat (48+(n+1) % 10)]:=by
    simp only[Dq]
    rw[vaq (by omega)]
    rfl
   have h7:qu .i64 ((n+1:Nat):Int) 10=some (((n+1) / 10:Nat):Int):=by
    simp only[qu]
    rw[vat (by omega),vb6 (by omega)]
    have e:((n+1:Nat):Int) / 10=(((n+1) / 10:Nat):Int):=by omega
    rw[e]
    exact va9 some (co (by omega) (by omega))
   rw[h1]
   simp only[if_true,h2,vaa,h3,h4,h6]
   rw[HI (by simp;omega),h7]
   rfl
  unfold rU
  refine(wW (body:=fun zz:ag×Int=>rx zz.1 zz.2) (s:=(acc,((n+1:Nat):Int))) (s':=(UInt8.ofNat (48+(n+1) % 10)::acc,(((n+1) / 10:Nat):Int))) hb).trans ?_
  have ih:=KB k ((n+1) / 10) (UInt8.ofNat (48+(n+1) % 10)::acc) (by omega) (by omega) (by simp;omega)
  unfold rU at ih
  rw[ih,vat (by omega:¬n+1=0)]
  conv=>rhs;rw[Lib.decDigits]
  by_cases h:n+1<10
  ·rw[dif_pos h,vaq (by omega),vb0 h]
   rfl
  ·rw[dif_neg h,vat (by omega)]
   simp
theorem FD(n:Nat)(h0:1<=n)(h:n<=1000000000):Hl n=some (Lib.decDigits n):=by
 unfold Hl
 have h1:((n:Int)==0)=false:=by simp;omega
 rw[h1,KB n n [] (vam _) h (by simp)]
 have h2:decide ((n:Int)<0)=false:=by simp
 simp only[vaV,if_false,vaa,h2]
 rw[vat (by omega)]
 simp
theorem My(n:Nat)(h:n<=1000000000):OM n=some (Lib.decDigits n):=by
 unfold OM Lib.itoa
 rw[vaq (by simp;omega),vat (by omega)]
 rfl
theorem Sp:∀(used L:List ag),L.Nodup->used.length<L.length->∃x∈L,x∉used
 |[],L,_,h=>by
  cases L with
  |nil=>simp at h
  |cons x L=>exact⟨x,by simp,by simp⟩
 | u :: us,L,hn,h => by
  obtain⟨x,hx,hu⟩:=Sp us (L.erase u) (hn.erase u) (by
   have:=List.length_erase (a:=u) (l:=L)
   rw[this]
   simp at h
   split<;>omega)
  rw[hn.mem_erase_iff]at hx
  exact⟨x,hx.2,by simp[hx.1,hu]⟩
theorem HU(used:List ag)(base:ag):∃n,1<=n/\n<=used.length+1/\base++Lib.decDigits n∉used:=by
 obtain⟨x,hx,hu⟩:=Sp used ((List.range (used.length+1)).map fun i=>base++Lib.decDigits (i+1)) (by
  unfold List.Nodup
  rw[List.pairwise_map]
  refine vci ?_ (List.nodup_range (n:=used.length+1))
  intro a b hab e
  have:=Tm (List.append_cancel_left e)
  omega) (by simp)
 simp only[vag,vbq]at hx
 obtain⟨i,hi,rfl⟩:=hx
 exact⟨i+1,by omega,by omega,hu⟩
def oN(used:List ag)(base:ag):Nat->Nat->ag
 |0,_=>[]
 |k+1,n=>if used.contains (base++Lib.decDigits n)=true then oN used base k (n+1)else base++Lib.decDigits n
def zO(used:List ag)(base:ag):ag:=if used.contains base=true then oN used base 100000001 1 else base
theorem DJ(used:List ag)(hl:W9 used):∃m,pO used used.length 0 []=some m/\∀k,Ib m k=used.contains k:=by
 unfold pO
 have:=DD used hl (fun i (m:List (ag×Bool))=>(i,m)) (fun zz=>kp used used.length zz.1 zz.2) (fun _ _=>True) (fun _ x m=>.inl (qS m x true)) (fun m=>m) (fun i hi t _=>⟨by
   simp only[kp]
   rw[vaq (by simp;omega),bY _ i hi]
   rfl,fun _ _=>trivial⟩) (fun _ _=>by simp only[kp];rw[vat (by simp)]) 0 [] (va5 _) trivial
 simp only[Int.ofNat_zero,vcz]at this
 rw[this]
 refine⟨_,rfl,?_⟩
 have key:∀(l:List ag) (i:Nat) (m:List (ag×Bool)) k,Ib (CJ (fun _ x (m:List (ag×Bool))=>(Sum.inl (qS m x true):List (ag×Bool)⊕List (ag×Bool))) (fun m=>m) l i m) k=(l.contains k||Ib m k):=by
  intro l
  induction l with
  |nil=>intro i m k;simp[CJ]
  |cons x l ih=>
   intro i m k
   unfold CJ
   simp only[ih,R1,List.contains_cons]
   cases(k==x)<;>cases l.contains k<;>simp
 intro k
 rw[key]
 simp[Ib,xY]
theorem FW(used:List ag)(base:ag)(m:List (ag×Bool))(hm:∀k,Ib m k=used.contains k)(hl:used.length<=100000000)(hb:base.length<=4000000000000000000)(N:Nat)(hN:base++Lib.decDigits N∉used)(hN2:N<=100000001):∀(k n:Nat),1<=n->n<=N->N<n+k->mN base m n=some (oN used base k n)/\na used base (base++Lib.decDigits n) ((n+1:Nat):Int)=some (oN used base k n)/\oN used base k n∉used
 |0,n,_,h1,h2=>absurd h2 (by omega)
 | k + 1,n,h0,h1,h2 => by
  have hd:=K3 n
  have hd2:=K3 (n+1)
  have e1:cp ((n:Int)+1)=((n+1:Nat):Int):=by rw[co (by omega) (by omega)];omega
  have e2:cp (((n+1:Nat):Int)+1)=((n+2:Nat):Int):=by rw[co (by omega) (by omega)];omega
  unfold oN
  by_cases hc:used.contains (base++Lib.decDigits n)=true
  ·rw[vaq hc]
   have hne:n≠N:=by
    rintro rfl
    exact hN (by simpa using hc)
   obtain⟨i1,i2,i3⟩:=FW used base m hm hl hb N hN hN2 k (n+1) (by omega) (by omega) (by omega)
   have hm':=hm (base++Lib.decDigits n)
   unfold Ib at hm'
   have b1:iP base m (n:Int)=some (.inl (((n+1:Nat):Int))):=by
    simp only[iP]
    rw[My n (by omega)]
    simp only[vaa]
    rw[HI (by omega)]
    simp only[vaa,hm',hc,e1]
    rfl
   have b2:dm used base (base++Lib.decDigits n) ((n+1:Nat):Int)=some (.inl (base++Lib.decDigits (n+1),((n+2:Nat):Int))):=by
    simp only[dm]
    rw[vC _ _ (by omega)]
    simp only[vaa,pI]
    have:(used.any fun k=>k==base++Lib.decDigits n)=true:=by simpa[vbt]using hc
    rw[this,vaq rfl,FD (n+1) (by omega) (by omega)]
    simp only[vaa]
    rw[HI (by omega)]
    simp only[vaa,e2]
   refine⟨?_,?_,i3⟩
   ·unfold mN at i1 ⊢
    exact(wW b1).trans i1
   ·unfold na at i2 ⊢
    exact(wW (body:=fun zz:ag×Int=>dm used base zz.1 zz.2) (s:=(base++Lib.decDigits n,((n+1:Nat):Int))) (s':=(base++Lib.decDigits (n+1),((n+2:Nat):Int))) b2).trans i2
  ·rw[vat hc]
   have hc':used.contains (base++Lib.decDigits n)=false:=by simpa using hc
   have hm':=hm (base++Lib.decDigits n)
   unfold Ib at hm'
   have b1:iP base m (n:Int)=some (.inr (base++Lib.decDigits n)):=by
    simp only[iP]
    rw[My n (by omega)]
    simp only[vaa]
    rw[HI (by omega)]
    simp only[vaa,hm',hc']
    rfl
   have b2:dm used base (base++Lib.decDigits n) ((n+1:Nat):Int)=some (.inr (base++Lib.decDigits n)):=by
    simp only[dm]
    rw[vC _ _ (by omega)]
    simp only[vaa,pI]
    have:(used.any fun k=>k==base++Lib.decDigits n)=false:=by
     rw[vcH]
     intro h
     apply hc
     simpa[vbt]using h
    rw[this]
    rfl
   refine⟨?_,?_,by simpa using hc⟩
   ·unfold mN
    exact tP b1
   ·unfold na
    exact tP (body:=fun zz:ag×Int=>dm used base zz.1 zz.2) (s:=(base++Lib.decDigits n,((n+1:Nat):Int))) b2
theorem QM(used:List ag)(base:ag)(hl:used.length<=100000000)(hb:base.length<=4000000000000000000):sn used base=some (zO used base)/\JJ used base=some (zO used base)/\zO used base∉used:=by
 obtain⟨m,hm1,hm⟩:=DJ used (show _<_ by omega)
 have hm':=hm base
 unfold Ib at hm'
 obtain⟨N,h1,h2,h3⟩:=HU used base
 obtain⟨i1,i2,i3⟩:=FW used base m hm hl hb N h3 (by omega) 100000001 1 (vam _) h1 (by omega)
 unfold sn JJ zO
 rw[hm1]
 simp only[vaa,hm']
 have hd:=K3 1
 by_cases hc:used.contains base=true
 ·simp only[hc,Bool.not_true,vaV,if_false,if_true]
  simp only[Int.ofNat_one]at i1
  rw[i1]
  have b2:dm used base base 1=some (.inl (base++Lib.decDigits 1,((2:Nat):Int))):=by
   simp only[dm]
   rw[vC _ _ (by omega)]
   simp only[vaa,pI]
   have:(used.any fun k=>k==base)=true:=by simpa[vbt]using hc
   have ht:=FD 1 (by omega) (by omega)
   simp only[Int.ofNat_one]at ht
   rw[this,vaq rfl,ht]
   simp only[vaa]
   rw[HI (by omega)]
   rfl
  unfold na at i2 ⊢
  have:=(wW (body:=fun zz:ag×Int=>dm used base zz.1 zz.2) (s:=(base,1)) (s':=(base++Lib.decDigits 1,((2:Nat):Int))) b2).trans i2
  rw[this]
  exact⟨rfl,rfl,i3⟩
 ·have hc':used.contains base=false:=by simpa using hc
  simp only[hc',Bool.not_false,if_true,vaV,if_false]
  have b2:dm used base base 1=some (.inr base):=by
   simp only[dm]
   rw[vC _ _ (by omega)]
   simp only[vaa,pI]
   have:(used.any fun k=>k==base)=false:=by
    rw[vcH]
    intro h
    apply hc
    simpa[vbt]using h
   rw[this]
   rfl
  unfold na
  have:=tP (body:=fun zz:ag×Int=>dm used base zz.1 zz.2) (s:=(base,1)) b2
  rw[this]
  exact⟨trivial,rfl,by simpa using hc⟩
theorem Ru(l:List av)(hl:l.length<=1073741824):kY l=some (l.map (·.Name)):=by
 unfold kY
 have h:=eG l.length (fun zz:(List ag)×Int=>fR l (l.length:Int) zz.1 zz.2) (fun i=>((l.take i).map (·.Name),(i:Int))) (l.map (·.Name)) (fun i hi=>?_) ?_
 ·have h':oK l (l.length:Int) ([]:List ag) 0=some (l.map (·.Name)):=by unfold oK;simpa using h
  rw[h'];rfl
 ·show fR l (l.length:Int) _ (i:Int)=_
  unfold fR
  rw[vaq (by simpa using hi),bY _ _ hi,vaa,j1 (by simp;omega),vaa,co (by omega) (by omega),vaA hi,vaF]
  rfl
 ·show fR l (l.length:Int) _ (l.length:Int)=_
  unfold fR
  rw[vat (by simp),vaP]
theorem GK(l:List aH)(hl:l.length<=1073741824):iy l=some (l.map (·.Con)):=by
 unfold iy
 have h:=eG l.length (fun zz:(List ag)×Int=>da l (l.length:Int) zz.1 zz.2) (fun i=>((l.take i).map (·.Con),(i:Int))) (l.map (·.Con)) (fun i hi=>?_) ?_
 ·have h':iF l (l.length:Int) ([]:List ag) 0=some (l.map (·.Con)):=by unfold iF;simpa using h
  rw[h'];rfl
 ·show da l (l.length:Int) _ (i:Int)=_
  unfold da
  rw[vaq (by simpa using hi),bY _ _ hi,vaa,j1 (by simp;omega),vaa,co (by omega) (by omega),vaA hi,vaF]
  rfl
 ·show da l (l.length:Int) _ (l.length:Int)=_
  unfold da
  rw[vat (by simp),vaP]
theorem ME(l:List aH)(i:Nat):va (l.take i)<=va l:=by
 have:∀(l:List aH) (i:Nat),va (l.take i)<=va l:=by
  intro l
  induction l with
  |nil=>intro i;simp
  |cons x l ih=>
   intro i
   cases i with
   |zero=>simp[va]
   |succ i=>have:=ih i;simp only[List.take_succ_cons,va];omega
 exact this l i
abbrev W7(l:List ag):Prop:=l.Pairwise Qv
def nc(m:List (ag×Bool))(l:List ag):List (ag×Bool):=l.foldl (fun m x=>qS m x true) m
theorem mK(m:List (ag×Bool))(a b:List ag):nc m (a++b)=nc (nc m a) b:=by unfold nc;rw[vcg]
theorem uM(l:List ag)(m:List (ag×Bool))(hl:l.length<9223372036854775808):eU l m=some (nc m l):=by
 unfold eU
 have h:=eG l.length (fun zz:Int×(List (ag×Bool))=>eI l (l.length:Int) zz.1 zz.2) (fun i=>((i:Int),nc m (l.take i))) (nc m l) (fun i hi=>?_) ?_
 ·have h':mn l (l.length:Int) 0 m=some (nc m l):=by unfold mn;simpa[nc]using h
  rw[h'];rfl
 ·show eI l (l.length:Int) (i:Int) _=_
  unfold eI
  rw[vaq (by simpa using hi),bY _ _ hi,vaa,co (by omega) (by omega),vaA hi,mK]
  rfl
 ·show eI l (l.length:Int) (l.length:Int) _=_
  unfold eI
  rw[vat (by simp),vaP]
theorem Ki:lZ ([]:List ag)=some []:=by
 unfold lZ
 rw[uM _ _ (by simp)];rfl
def pK(m:List (ag×Bool)):List ag:=m.map (·.1)
theorem MA(k:ag):∀(m:List (ag×Bool)),pK (qS m k true)=if k∈pK m then pK m else pK m++[k]
 |[]=>by simp[qS,pK]
 | e :: r => by
  have ih:=MA k r
  unfold pK at *
  rw[qS]
  by_cases h:(k==e.1)=true
  ·have h':k=e.1:=by simpa using h
   rw[vaq h,var,var,vaq (by rw[h'];simp),h']
  ·have h':¬k=e.1:=by simpa using h
   rw[vat h,var,var,ih]
   by_cases h2:k∈r.map (·.1)
   ·rw[vaq h2,vaq (vaQ _ h2)]
   ·rw[vat h2,vat (by rw[vaE];rintro(h3|h3);exact h' h3;exact h2 h3)]
    rfl
theorem AF:∀(l:List ag) (m:List (ag×Bool)),(pK m).Nodup->(pK (nc m l)).Nodup/\(∀x,x∈pK (nc m l)↔x∈pK m\/x∈l)/\(nc m l).length<=m.length+l.length
 |[],m,h=>⟨h,fun x=>by simp[nc],by simp[nc]⟩
 | k :: l,m,h => by
  have hp:=MA k m
  have hn:(pK (qS m k true)).Nodup:=by
   rw[hp]
   split
   ·exact h
   ·rename_i hk
    rw[va7]
    exact⟨h,by simp,fun a ha b hb hab=>by simp at hb;subst hb;subst hab;exact hk ha⟩
  have hlen:(qS m k true).length<=m.length+1:=by
   have:=va9 List.length hp
   unfold pK at this
   rw[va8]at this
   rw[this]
   split<;>simp
  obtain⟨h1,h2,h3⟩:=AF l (qS m k true) hn
  refine⟨h1,fun x=>?_,?_⟩
  ·show x∈pK (nc (qS m k true) l)↔_
   rw[h2,hp]
   split
   ·rename_i hk
    constructor
    ·rintro(h|h)
     ·exact .inl h
     ·exact .inr (vaQ _ h)
    ·rintro(h|h)
     ·exact .inl h
     ·rcases vaE.1 h with rfl|h
      ·exact .inl hk
      ·exact .inr h
   ·rw[vaw,vbb,vaE,or_assoc]
  ·show(nc (qS m k true) l).length<=_
   simp only[vay]
   omega
def yi(l:List ag):List ag:=wS (pK (nc [] l))
theorem PO{l:List ag}(h:l.Nodup):W7 (wS l):=by
 have hn:(wS l).Nodup:=(oQ l).nodup_iff.2 h
 refine((pJ l).and hn).imp ?_
 rintro a b ⟨h1,h2⟩
 show Op.bytesLess a b=true
 cases hb:Op.bytesLess a b with
 |true=>rfl
 |false=>exact absurd (zB hb h1) h2
theorem IN(l:List ag):W7 (yi l)/\∀x,x∈yi l↔x∈l:=by
 obtain⟨h1,h2,_⟩:=AF l [] (by simp[pK])
 refine⟨PO h1,fun x=>?_⟩
 unfold yi
 rw[(oQ _).mem_iff,h2]
 simp[pK]
theorem D8(l:List ag):(yi l).length<=l.length:=by
 obtain⟨_,_,h⟩:=AF l [] (by simp[pK])
 unfold yi
 rw[(oQ _).length_eq]
 unfold pK
 rw[va8]
 simpa using h
theorem Kz(l:List ag)(hl:l.length<=1073741824):rb (nc [] l)=some (yi l):=by
 obtain⟨_,_,h⟩:=AF l [] (by simp[pK])
 unfold rb
 rw[vaq (by simp only[vak];unfold fC;simp at h;omega)]
 rfl
def uA(e:af):Bool:=e.Op==3||e.Op==5
theorem Gl(e:af):f6 e=some (uA e):=by
 unfold f6 uA
 rw[Wv]
def sK(o:Int)(n:ag)(ps:List av)(later:Bool):List ag:=if(o==7&&later)=true then[n]else if(o==6)=true then ps.map (·.Name)else[]
theorem PM(e:af)(i:Nat)(hl:e.Params.length<=1073741824):rQ e (i:Int)=some (sK e.Op e.Name e.Params (decide (0<i))):=by
 unfold rQ ri sK
 rw[VJ]
 simp only[vaa]
 have h0:decide ((i:Int)>0)=decide (0<i):=by by_cases h:0<i<;>simp[h]
 rw[h0]
 by_cases h1:(e.Op==7&&decide (0<i))=true
 ·rw[vaq h1,vaq h1]
 ·rw[vat h1,vat h1]
  by_cases h2:(e.Op==6)=true
  ·rw[vaq h2,vaq h2,Ru _ hl];rfl
  ·rw[vat h2,vat h2]
theorem RP(o:Int)(n:ag)(ps:List av)(b:Bool):(sK o n ps b).length<=1+ps.length:=by
 unfold sK
 split
 ·simp
 ·split<;>simp
mutual
def xf(h:List ag):af->List af
 |⟨o,n,k,ks,ps,as1,ts⟩=>(if(uA ⟨o,n,k,ks,ps,as1,ts⟩&&!h.any fun x=>x==n)=true then[⟨o,n,k,ks,ps,as1,ts⟩]else[])++(uH (h++sK o n ps false) (h++sK o n ps true) ks++uG h as1)
def Il(h:List ag):aH->List af
 |⟨_,ns,b⟩=>xf (h++ns) b
def uH(h0 h1:List ag):List af->List af
 |[]=>[]
 |e::l=>xf h0 e++uH h1 h1 l
def uG(h:List ag):List aH->List af
 |[]=>[]
 |a::l=>Il h a++uG h l
end
abbrev B6(h:List ag)(e:af):List af:=if(uA e&&!h.any fun x=>x==e.Name)=true then[e]else[]
theorem Tx(h:List ag)(e:af):xf h e=B6 h e++(uH (h++sK e.Op e.Name e.Params false) (h++sK e.Op e.Name e.Params true) e.Kids++uG h e.Alts):=by
 obtain⟨o,n,k,ks,ps,as1,ts⟩:=e
 rw[xf];rfl
theorem Ty(h:List ag)(a:aH):Il h a=xf (h++a.Names) a.Body:=by obtain⟨c,ns,b⟩:=a;rw[Il];rfl
theorem Kl(h0 h1:List ag):∀(l:List af) (i:Nat) (hi:i<l.length),uH h0 h1 (l.take (i+1))=uH h0 h1 (l.take i)++xf (if 0<i then h1 else h0) l[i]
 |x::l,0,hi=>by simp[uH]
 |x::l,i+1,hi=>by
  have hi':i<l.length:=by simpa using hi
  have ih:=Kl h1 h1 l i hi'
  rw[List.take_succ_cons,List.take_succ_cons,uH,uH,ih,ite_self]
  simp
theorem Kk(h:List ag):∀(l:List aH) (i:Nat) (hi:i<l.length),uG h (l.take (i+1))=uG h (l.take i)++xf (h++l[i].Names) l[i].Body
 |x::l,0,hi=>by simp[uG,Ty]
 |x::l,i+1,hi=>by
  have ih:=Kk h l i (by simpa using hi)
  rw[List.take_succ_cons,List.take_succ_cons,uG,uG,ih]
  simp
mutual
theorem Ik(h:List ag):∀(e:af),(xf h e).length<=nE e
 |⟨o,n,k,ks,ps,as1,ts⟩=>by
  have h1:=MK (h++sK o n ps false) (h++sK o n ps true) ks
  have h2:=MJ h as1
  rw[xf,nE,vas,vas]
  have h3:(if(uA ⟨o,n,k,ks,ps,as1,ts⟩&&!h.any fun x=>x==n)=true then[(⟨o,n,k,ks,ps,as1,ts⟩:af)]else[]).length<=1:=by split<;>simp
  omega
theorem Sb(h:List ag):∀(a:aH),(Il h a).length<=nA a
 |⟨c,ns,b⟩=>by
  have h1:=Ik (h++ns) b
  rw[Il,nA];omega
theorem MK(h0 h1:List ag):∀(l:List af),(uH h0 h1 l).length<=tQ l
 |[]=>by simp[uH]
 |e::l=>by
  have h2:=Ik h0 e
  have h3:=MK h1 h1 l
  rw[uH,tQ,vas];omega
theorem MJ(h:List ag):∀(l:List aH),(uG h l).length<=va l
 |[]=>by simp[uG]
 |a::l=>by
  have h2:=Sb h a
  have h3:=MJ h l
  rw[uG,va,vas];omega
end
theorem MF(l:List af)(i:Nat)(hi:i<l.length):tQ (l.take (i+1))=tQ (l.take i)+nE l[i]:=by
 have key:∀(a b:List af),tQ (a++b)=tQ a+tQ b:=by
  intro a b
  induction a with
  |nil=>simp[tQ]
  |cons x a ih=>rw[va1,tQ,tQ,ih];omega
 rw[vaA hi,key]
 simp[tQ]
theorem F2(l:List af)(i:Nat):tQ (l.take i)<=tQ l:=by
 have:∀(l:List af) (i:Nat),tQ (l.take i)<=tQ l:=by
  intro l
  induction l with
  |nil=>intro i;simp
  |cons x l ih=>
   intro i
   cases i with
   |zero=>simp[tQ]
   |succ i=>have:=ih i;simp only[List.take_succ_cons,tQ];omega
 exact this l i
theorem Kg(l:List aH)(i:Nat)(hi:i<l.length):va (l.take (i+1))=va (l.take i)+nA l[i]:=by
 have key:∀(a b:List aH),va (a++b)=va a+va b:=by
  intro a b
  induction a with
  |nil=>simp[va]
  |cons x a ih=>rw[va1,va,va,ih];omega
 rw[vaA hi,key]
 simp[va]
theorem Sc(h:List ag)(e:af)(hh:h.length<9223372036854775808):(f6 e).bind (fun r1=>if r1=true then(uD h e.Name).bind fun r4=>some (decide (r4<0))else some false)=some (uA e&&!h.any fun x=>x==e.Name):=by
 rw[Gl,Jt _ _ hh]
 simp only[vaa,VJ,PH]
theorem P1(e:af)(h:List ag)(m:List (ag×Bool))(hq:h.length+nE e<=1073741824):jv e h m=some (nc m ((xf h e).map (·.Name))):=by
 refine tw (F:=iG) (fun x=>nE x.1) (fun x=>x.2.1.length+nE x.1<=1073741824) (fun x=>nc x.2.2 ((xf x.2.1 x.1).map (·.Name))) (fun R x hx ih=>?_) (e,h,m) hq (qR (by unfold gZ;show nE e<=_;omega))
 obtain⟨e,h,m⟩:=x
 have hq:h.length+nE e<=1073741824:=hx
 have hn:=wZ e
 have hpos:=Lo e
 have lk:=DG e.Kids
 have la:=DF e.Alts
 show fB (fun e hidden k2=>R (e,hidden,k2)) e h m=some (nc m ((xf h e).map (·.Name)))
 unfold fB im io
 rw[Sc h e (by omega)]
 simp only[vaa]
 have hs:(if(uA e&&!h.any fun x=>x==e.Name)=true then(rO e m).bind fun r8=>some r8 else some m)=some (nc m ((B6 h e).map (·.Name))):=by
  unfold B6
  by_cases hc:(uA e&&!h.any fun x=>x==e.Name)=true
  ·rw[vaq hc,vaq hc]
   unfold rO
   rw[uM _ _ (by simp)];rfl
  ·rw[vat hc,vat hc];rfl
 rw[hs]
 simp only[vaa]
 have g1:∀m0,fh (fun e hidden k2=>R (e,hidden,k2)) h e e.Kids (e.Kids.length:Int) 0 m0=some (nc m0 ((uH (h++sK e.Op e.Name e.Params false) (h++sK e.Op e.Name e.Params true) e.Kids).map (·.Name))):=fun m0=>by
  have g:=eG e.Kids.length (fun zz:Int×(List (ag×Bool))=>cd (fun e hidden k2=>R (e,hidden,k2)) h e e.Kids (e.Kids.length:Int) zz.1 zz.2) (fun i=>((i:Int),nc m0 ((uH (h++sK e.Op e.Name e.Params false) (h++sK e.Op e.Name e.Params true) (e.Kids.take i)).map (·.Name)))) (nc m0 ((uH (h++sK e.Op e.Name e.Params false) (h++sK e.Op e.Name e.Params true) e.Kids).map (·.Name))) (fun i hi=>?_) ?_
  ·unfold fh;simpa[nc,uH]using g
  ·have hil:=RP e.Op e.Name e.Params (decide (0<i))
   have hm:=Ln (vaB hi)
   show cd _ h e e.Kids (e.Kids.length:Int) (i:Int) _=_
   unfold cd
   rw[vaq (by simpa using hi),bY _ _ hi,vaa,wO _ (by omega),vaa,PM e i (by omega),vaa,j1 (by omega),vaa]
   show(R _).bind _=_
   rw[ih (e.Kids[i],h++sK e.Op e.Name e.Params (decide (0<i)),_) (AP (vaB hi)) (by show(h++sK e.Op e.Name e.Params (decide (0<i))).length+nE e.Kids[i]<=1073741824;rw[vas];omega),vaa,Kl _ _ _ _ hi,vaF,mK,co (by omega) (by omega)]
   by_cases h0:0<i<;>simp[h0]
  ·show cd _ h e e.Kids (e.Kids.length:Int) (e.Kids.length:Int) _=_
   unfold cd
   rw[vat (by simp),vaP]
 have g2:∀m0,fi (fun e hidden k2=>R (e,hidden,k2)) h e.Alts (e.Alts.length:Int) 0 m0=some (nc m0 ((uG h e.Alts).map (·.Name))):=fun m0=>by
  have g:=eG e.Alts.length (fun zz:Int×(List (ag×Bool))=>ce (fun e hidden k2=>R (e,hidden,k2)) h e.Alts (e.Alts.length:Int) zz.1 zz.2) (fun i=>((i:Int),nc m0 ((uG h (e.Alts.take i)).map (·.Name)))) (nc m0 ((uG h e.Alts).map (·.Name))) (fun i hi=>?_) ?_
  ·unfold fi;simpa[nc,uG]using g
  ·have hm:=Hd (vaB hi)
   have hma:=F0 e.Alts[i]
   show ce _ h e.Alts (e.Alts.length:Int) (i:Int) _=_
   unfold ce
   rw[vaq (by simpa using hi),bY _ _ hi,vaa,wO _ (by omega),vaa,j1 (by omega),vaa]
   show(R _).bind _=_
   rw[ih (e.Alts[i].Body,h++e.Alts[i].Names,_) (AG (vaB hi)) (by show(h++e.Alts[i].Names).length+nE e.Alts[i].Body<=1073741824;rw[vas];omega),vaa,Kk _ _ _ hi,vaF,mK,co (by omega) (by omega)]
   rfl
  ·show ce _ h e.Alts (e.Alts.length:Int) (e.Alts.length:Int) _=_
   unfold ce
   rw[vat (by simp),vaP]
 rw[g1]
 simp only[vaa]
 rw[g2]
 simp only[vaa]
 rw[Tx,vaF,vaF,mK,mK]
def mL(e:af):List ag:=(xf [] e).map (·.Name)
theorem AO(e:af):(mL e).length<=nE e:=by unfold mL;rw[va8];exact Ik [] e
theorem Iq(e:af)(he:nE e<=gZ):mT e=some (yi (mL e)):=by
 have hB:nE e<=1073741824:=he
 have hl:=AO e
 unfold mT
 rw[Ki]
 simp only[vaa]
 rw[P1 e [] [] (by simpa using hB)]
 simp only[vaa]
 rw[show(xf [] e).map (·.Name)=mL e from rfl,Kz _ (by omega)]
 rfl
def wy(e:af):List ag:=(if(e.Op==4)=true then[e.Name]else[])++e.Alts.map (·.Con)
def ut(e:af):List ag:=(eP e).flatMap wy
theorem Rz(e:af):ut e=wy e++(iD e).flatMap ut:=by
 unfold ut
 rw[AT,vbM,List.flatMap_assoc]
theorem JZ:∀(e:af),(ut e).length<=nE e:=by
 refine OL fun e ih=>?_
 have h1:=wZ e
 have h2:(wy e).length<=e.Alts.length+1:=by
  unfold wy
  rw[vas,va8]
  have:(if(e.Op==4)=true then[e.Name]else[]).length<=1:=by split<;>simp
  omega
 have h3:∀(l:List af),(∀x∈l,(ut x).length<=nE x)->(l.flatMap ut).length<=tQ l:=by
  intro l
  induction l with
  |nil=>intro _;simp
  |cons x l ihl=>
   intro hx
   have a:=hx x (by simp)
   have b:=ihl fun y hy=>hx y (by simp[hy])
   rw[vbM,vas,tQ];omega
 have h4:∀(l:List aH),(∀x∈l,(ut x.Body).length<=nE x.Body)->((l.map (·.Body)).flatMap ut).length+l.length<=va l:=by
  intro l
  induction l with
  |nil=>intro _;simp
  |cons x l ihl=>
   intro hx
   have a:=hx x (by simp)
   have b:=ihl fun y hy=>hx y (by simp[hy])
   have c:=F0 x
   rw[var,vbM,vas,va,vay];omega
 have h5:=h3 e.Kids fun x hx=>ih x (vaw.2 (.inl hx))
 have h6:=h4 e.Alts fun x hx=>ih x.Body (vaw.2 (.inr (vag.2 ⟨x,hx,rfl⟩)))
 rw[Rz,vas,iD,vcC,vas]
 omega
theorem QH(x:af)(m:List (ag×Bool))(hx:nE x<=1073741824):lY x m=some (true,nc m (wy x)):=by
 have l2:=AH x
 unfold lY rh wy
 rw[GK _ (by omega)]
 by_cases h4:(x.Op==4)=true
 ·rw[vaq h4,vaq h4,uM _ _ (by simp)]
  simp only[vaa]
  rw[uM _ _ (by simp;omega),mK];rfl
 ·rw[vat h4,vat h4]
  simp only[vaa,vbj]
  rw[uM _ _ (by simp;omega)];rfl
theorem MM(e:af)(he:F7 e):sB e=some (yi (ut e)):=by
 have hB:nE e<=1073741824:=uI he
 have hl:=JZ e
 unfold sB
 rw[Ki]
 simp only[vaa]
 rw[IZ e [] (uI he),J6 (fun m x=>nc m (wy x)) (eP e) [] (fun x hx m=>QH x m (uI (Sf he hx)))]
 simp only[vaa]
 have:∀(l:List af) (m:List (ag×Bool)),l.foldl (fun m x=>nc m (wy x)) m=nc m (l.flatMap wy):=by
  intro l
  induction l with
  |nil=>intro m;rfl
  |cons x l ih=>intro m;rw[List.foldl_cons,ih,vbM,mK]
 rw[this,show(eP e).flatMap wy=ut e from rfl,Kz _ (by omega)]
 rfl
abbrev LT:=ag->List ag->ag×List ag
def ir(fr:LT):List ag->List aa->List ag->List ag×List aa×List ag
 |[],sc,u=>([],sc,u)
 |n::l,sc,u=>((fr n u).1::(ir fr l (sc++[⟨n,(fr n u).1⟩]) (fr n u).2).1,(ir fr l (sc++[⟨n,(fr n u).1⟩]) (fr n u).2).2)
def uC(sc:List aa)(s:ag):Option ag:=(sc.reverse.find? fun p=>p.old==s).map (·.new)
def mz(fe:ag->ag)(fr:LT)(o:Int)(n:ag)(sc:List aa)(u:List ag):ag×List aa×List ag:=
 if(o==3||o==5)=true then((uC sc n).getD (fe n),sc,u)else if(o==7)=true then((fr n u).1,sc++[⟨n,(fr n u).1⟩],(fr n u).2)else(n,sc,u)
def Fk(ps:List av)(ns:List ag):List av:=ps.zipWith (fun p n=>⟨n,p.Type_⟩) ns
def pu(fr:LT)(t:Bool)(ps:List av)(sc:List aa)(u:List ag):List av×List aa×List ag:=
 if t=true then(Fk ps (ir fr (ps.map (·.Name)) sc u).1,(ir fr (ps.map (·.Name)) sc u).2)else(ps,sc,u)
mutual
def uo(fe:ag->ag)(fr:LT):af->List aa->List ag->af×List ag
 |⟨o,n,k,ks,ps,as1,ts⟩,sc,u=>
  let a:=mz fe fr o n sc u
  let b:=pu fr (o==6) ps a.2.1 a.2.2
  let c:=yu fe fr ks (if(o==7)=true then sc else b.2.1) b.2.1 b.2.2
  let d:=um fe fr as1 sc c.2
  (⟨o,a.1,k,c.1,b.1,d.1,ts⟩,d.2)
def Df(fe:ag->ag)(fr:LT):aH->List aa->List ag->aH×List ag
 |⟨c,ns,b⟩,sc,u=>
  let a:=ir fr ns sc u
  let r:=uo fe fr b a.2.1 a.2.2
  (⟨c,a.1,r.1⟩,r.2)
def yu(fe:ag->ag)(fr:LT):List af->List aa->List aa->List ag->List af×List ag
 |[],s0,s1,u=>([],u)
 |e::l,s0,s1,u=>
  let a:=uo fe fr e s0 u
  let b:=yu fe fr l s1 s1 a.2
  (a.1::b.1,b.2)
def um(fe:ag->ag)(fr:LT):List aH->List aa->List ag->List aH×List ag
 |[],sc,u=>([],u)
 |x::l,sc,u=>
  let a:=Df fe fr x sc u
  let b:=um fe fr l sc a.2
  (a.1::b.1,b.2)
end
section
variable(fe:ag->ag)(fr:LT)
abbrev qB(o:Int)(n:ag)(ps:List av)(sc:List aa)(u:List ag):=pu fr (o==6) ps (mz fe fr o n sc u).2.1 (mz fe fr o n sc u).2.2
abbrev G7(o:Int)(n:ag)(ps:List av)(sc:List aa)(u:List ag):=if(o==7)=true then sc else(qB fe fr o n ps sc u).2.1
abbrev Eu(o:Int)(n:ag)(ps:List av)(ks:List af)(sc:List aa)(u:List ag):=yu fe fr ks (G7 fe fr o n ps sc u) (qB fe fr o n ps sc u).2.1 (qB fe fr o n ps sc u).2.2
theorem ww(o:Int)(n:ag)(k:Int)(ks:List af)(ps:List av)(as1:List aH)(ts:List aj)(sc:List aa)(u:List ag):uo fe fr ⟨o,n,k,ks,ps,as1,ts⟩ sc u=(⟨o,(mz fe fr o n sc u).1,k,(Eu fe fr o n ps ks sc u).1,(qB fe fr o n ps sc u).1,(um fe fr as1 sc (Eu fe fr o n ps ks sc u).2).1,ts⟩,(um fe fr as1 sc (Eu fe fr o n ps ks sc u).2).2):=by
 rw[uo]
theorem Ur(e:af)(sc:List aa)(u:List ag):uo fe fr e sc u=(⟨e.Op,(mz fe fr e.Op e.Name sc u).1,e.N,(Eu fe fr e.Op e.Name e.Params e.Kids sc u).1,(qB fe fr e.Op e.Name e.Params sc u).1,(um fe fr e.Alts sc (Eu fe fr e.Op e.Name e.Params e.Kids sc u).2).1,e.Types⟩,(um fe fr e.Alts sc (Eu fe fr e.Op e.Name e.Params e.Kids sc u).2).2):=by
 obtain⟨o,n,k,ks,ps,as1,ts⟩:=e
 rw[ww];rfl
theorem wx(c:ag)(ns:List ag)(b:af)(sc:List aa)(u:List ag):Df fe fr ⟨c,ns,b⟩ sc u=(⟨c,(ir fr ns sc u).1,(uo fe fr b (ir fr ns sc u).2.1 (ir fr ns sc u).2.2).1⟩,(uo fe fr b (ir fr ns sc u).2.1 (ir fr ns sc u).2.2).2):=by
 rw[Df]
theorem Rg(a:aH)(sc:List aa)(u:List ag):Df fe fr a sc u=(⟨a.Con,(ir fr a.Names sc u).1,(uo fe fr a.Body (ir fr a.Names sc u).2.1 (ir fr a.Names sc u).2.2).1⟩,(uo fe fr a.Body (ir fr a.Names sc u).2.1 (ir fr a.Names sc u).2.2).2):=by
 obtain⟨c,ns,b⟩:=a
 rw[wx];rfl
theorem oq(s0 s1:List aa)(u:List ag):yu fe fr [] s0 s1 u=([],u):=by rw[yu]
theorem kk(e:af)(l:List af)(s0 s1:List aa)(u:List ag):yu fe fr (e::l) s0 s1 u=((uo fe fr e s0 u).1::(yu fe fr l s1 s1 (uo fe fr e s0 u).2).1,(yu fe fr l s1 s1 (uo fe fr e s0 u).2).2):=by rw[yu]
theorem nf(sc:List aa)(u:List ag):um fe fr [] sc u=([],u):=by rw[um]
theorem jJ(x:aH)(l:List aH)(sc:List aa)(u:List ag):um fe fr (x::l) sc u=((Df fe fr x sc u).1::(um fe fr l sc (Df fe fr x sc u).2).1,(um fe fr l sc (Df fe fr x sc u).2).2):=by rw[um]
theorem Co:∀(l m:List ag) (sc:List aa) (u:List ag),ir fr (l++m) sc u=((ir fr l sc u).1++(ir fr m (ir fr l sc u).2.1 (ir fr l sc u).2.2).1,(ir fr m (ir fr l sc u).2.1 (ir fr l sc u).2.2).2)
 |[],m,sc,u=>rfl
 |n::l,m,sc,u=>by
  rw[va1,ir,Co l m]
  rfl
theorem QY(l:List ag)(i:Nat)(h:i<l.length)(sc:List aa)(u:List ag):ir fr (l.take (i+1)) sc u=((ir fr (l.take i) sc u).1++[(fr l[i] (ir fr (l.take i) sc u).2.2).1],(ir fr (l.take i) sc u).2.1++[⟨l[i],(fr l[i] (ir fr (l.take i) sc u).2.2).1⟩],(fr l[i] (ir fr (l.take i) sc u).2.2).2):=by
 rw[vaA h,Co]
 rfl
theorem L7:∀(l:List af) (i:Nat) (h:i<l.length) (s0 s1:List aa) (u:List ag),yu fe fr (l.take (i+1)) s0 s1 u=((yu fe fr (l.take i) s0 s1 u).1++[(uo fe fr l[i] (if 0<i then s1 else s0) (yu fe fr (l.take i) s0 s1 u).2).1],(uo fe fr l[i] (if 0<i then s1 else s0) (yu fe fr (l.take i) s0 s1 u).2).2)
 |x::l,0,h,s0,s1,u=>by
  simp only[List.take_succ_cons,List.take_zero,kk,oq]
  rfl
 |x::l,i+1,h,s0,s1,u=>by
  have ih:=L7 l i (by simpa using h) s1 s1 (uo fe fr x s0 u).2
  rw[List.take_succ_cons,List.take_succ_cons,kk,kk,ih,ite_self]
  simp
theorem L6:∀(l:List aH) (i:Nat) (h:i<l.length) (sc:List aa) (u:List ag),um fe fr (l.take (i+1)) sc u=((um fe fr (l.take i) sc u).1++[(Df fe fr l[i] sc (um fe fr (l.take i) sc u).2).1],(Df fe fr l[i] sc (um fe fr (l.take i) sc u).2).2)
 |x::l,0,h,sc,u=>by
  simp only[List.take_succ_cons,List.take_zero,jJ,nf]
  rfl
 |x::l,i+1,h,sc,u=>by
  have ih:=L6 l i (by simpa using h) sc (Df fe fr x sc u).2
  rw[List.take_succ_cons,List.take_succ_cons,jJ,jJ,ih]
  simp
theorem xN:∀(l:List ag) (sc:List aa) (u:List ag),(ir fr l sc u).1.length=l.length
 |[],sc,u=>rfl
 |n::l,sc,u=>by rw[ir];simp only[vay];rw[xN l]
theorem G6:∀(l:List ag) (sc:List aa) (u:List ag),(ir fr l sc u).2.1.map (·.old)=sc.map (·.old)++l
 |[],sc,u=>by simp[ir]
 |n::l,sc,u=>by rw[ir];simp only[];rw[G6 l];simp
theorem KR:∀(l:List ag) (sc:List aa) (u:List ag),(ir fr l sc u).2.1.map (·.new)=sc.map (·.new)++(ir fr l sc u).1
 |[],sc,u=>by simp[ir]
 |n::l,sc,u=>by rw[ir];simp only[];rw[KR l];simp
theorem HF(l:List ag)(sc:List aa)(u:List ag):(ir fr l sc u).2.1.length=sc.length+l.length:=by
 have:=va9 List.length (G6 fr l sc u)
 simpa using this
theorem IE:∀(ps:List av) (ns:List ag),ns.length=ps.length->(Fk ps ns).map (·.Name)=ns
 |[],[],_=>rfl
 |p::ps,n::ns,h=>by
  have:=IE ps ns (by simpa using h)
  unfold Fk at *
  rw[List.zipWith_cons_cons,var,this]
 |[],n::ns,h=>by simp at h
 |p::ps,[],h=>by simp at h
theorem SB(ps:List av)(ns:List ag)(h:ns.length=ps.length):(Fk ps ns).length=ps.length:=by unfold Fk;rw[List.length_zipWith,h];simp
theorem Kv:∀(ps:List av),Fk ps (ps.map (·.Name))=ps
 |[]=>rfl
 |p::ps=>by
  have:=Kv ps
  unfold Fk at *
  rw[var,List.zipWith_cons_cons,this]
theorem JR(ps:List av)(sc:List aa)(u:List ag):(pu fr true ps sc u).1.map (·.Name)=(ir fr (ps.map (·.Name)) sc u).1:=by
 unfold pu
 rw[vaq rfl]
 exact IE ps _ (by rw[xN];simp)
theorem Ox(t:Bool)(ps:List av)(sc:List aa)(u:List ag):(pu fr t ps sc u).1.length=ps.length:=by
 unfold pu
 split
 ·exact SB ps _ (by rw[xN];simp)
 ·rfl
theorem L8(t:Bool)(ps:List av)(sc:List aa)(u:List ag):(pu fr t ps sc u).2.1.length<=sc.length+ps.length:=by
 unfold pu
 split
 ·have:=HF fr (ps.map (·.Name)) sc u;simp at this;simp only[];omega
 ·simp
theorem Rd(o:Int)(n:ag)(sc:List aa)(u:List ag):(mz fe fr o n sc u).2.1.length<=sc.length+1:=by
 unfold mz
 split
 ·simp
 ·split<;>simp
theorem RJ(o:Int)(n:ag)(ps:List av)(sc:List aa)(u:List ag):(G7 fe fr o n ps sc u).map (·.old)=sc.map (·.old)++sK o n ps false/\(qB fe fr o n ps sc u).2.1.map (·.old)=sc.map (·.old)++sK o n ps true/\
  (G7 fe fr o n ps sc u).map (·.new)=sc.map (·.new)++sK o (mz fe fr o n sc u).1 (qB fe fr o n ps sc u).1 false/\(qB fe fr o n ps sc u).2.1.map (·.new)=sc.map (·.new)++sK o (mz fe fr o n sc u).1 (qB fe fr o n ps sc u).1 true:=by
 by_cases h7:o=7
 ·subst h7
  simp[G7,qB,mz,pu,sK]
 ·have e7:(o==7)=false:=by simpa using h7
  by_cases h6:o=6
  ·subst h6
   have h1:=G6 fr (ps.map (·.Name)) sc u
   have h2:=KR fr (ps.map (·.Name)) sc u
   have h3:=JR fr ps sc u
   have e1:mz fe fr 6 n sc u=(n,sc,u):=by unfold mz;simp
   have e2:(pu fr true ps sc u).2=(ir fr (ps.map (·.Name)) sc u).2:=by unfold pu;simp
   have e4:(6==(6:Int))=true:=rfl
   unfold G7 qB sK
   rw[e1,e4]
   simp only[e7,Bool.false_and,vaV,if_false,if_true,e2,h3]
   exact⟨h1,h1,h2,h2⟩
  ·have e6:(o==6)=false:=by simpa using h6
   unfold G7 qB mz pu sK
   simp only[e7,e6,Bool.false_and,vaV,if_false,vbk]
   split<;>exact⟨rfl,rfl,rfl,rfl⟩
end
section
variable{fe:ag->ag}{fr:LT}
theorem Ou{I:List ag->Prop}(hI:∀s u,I u->I (fr s u).2):∀(l:List ag) (sc:List aa) (u:List ag),I u->I (ir fr l sc u).2.2
 |[],sc,u,h=>h
 |n::l,sc,u,h=>by rw[ir];exact Ou hI l _ _ (hI n u h)
theorem Ra{I:List ag->Prop}(hI:∀s u,I u->I (fr s u).2)(o:Int)(n:ag)(sc:List aa)(u:List ag)(h:I u):I (mz fe fr o n sc u).2.2:=by
 unfold mz
 split
 ·exact h
 ·split
  ·exact hI n u h
  ·exact h
theorem Q2{I:List ag->Prop}(hI:∀s u,I u->I (fr s u).2)(o:Int)(n:ag)(ps:List av)(sc:List aa)(u:List ag)(h:I u):I (qB fe fr o n ps sc u).2.2:=by
 unfold qB pu
 split
 ·exact Ou hI _ _ _ (Ra hI _ _ _ _ h)
 ·exact Ra hI _ _ _ _ h
mutual
theorem Ov{I:List ag->Prop}(hI:∀s u,I u->I (fr s u).2):∀(e:af) (sc:List aa) (u:List ag),I u->I (uo fe fr e sc u).2
 |⟨o,n,k,ks,ps,as1,ts⟩,sc,u,h=>by
  rw[ww]
  exact T1 hI as1 _ _ (Q5 hI ks _ _ _ (Q2 hI o n ps sc u h))
theorem T4{I:List ag->Prop}(hI:∀s u,I u->I (fr s u).2):∀(a:aH) (sc:List aa) (u:List ag),I u->I (Df fe fr a sc u).2
 |⟨c,ns,b⟩,sc,u,h=>by
  rw[wx]
  exact Ov hI b _ _ (Ou hI ns sc u h)
theorem Q5{I:List ag->Prop}(hI:∀s u,I u->I (fr s u).2):∀(l:List af) (s0 s1:List aa) (u:List ag),I u->I (yu fe fr l s0 s1 u).2
 |[],s0,s1,u,h=>by rw[oq];exact h
 |e::l,s0,s1,u,h=>by
  rw[kk]
  exact Q5 hI l _ _ _ (Ov hI e _ _ h)
theorem T1{I:List ag->Prop}(hI:∀s u,I u->I (fr s u).2):∀(l:List aH) (sc:List aa) (u:List ag),I u->I (um fe fr l sc u).2
 |[],sc,u,h=>by rw[nf];exact h
 |x::l,sc,u,h=>by
  rw[jJ]
  exact T1 hI l _ _ (T4 hI x _ _ h)
end
def Bo(G:ag->Prop)(sc:List aa):Prop:=∀p∈sc,∀t,G t->p.new=t->p.old=t
theorem Km{G:ag->Prop}{sc:List aa}(h:Bo G sc){p:aa}(hp:∀t,G t->p.new=t->p.old=t):Bo G (sc++[p]):=fun q hq=>by
 rcases vaw.1 hq with hq|hq
 ·exact h q hq
 ·rw[vbb.1 hq];exact hp
theorem Nl{G:ag->Prop}{I:List ag->Prop}(hI:∀s u,I u->I (fr s u).2)(hG:∀s u,I u->∀t,G t->(fr s u).1=t->s=t):∀(l:List ag) (sc:List aa) (u:List ag),Bo G sc->I u->Bo G (ir fr l sc u).2.1
 |[],sc,u,h,_=>h
 |n::l,sc,u,h,hu=>by rw[ir];exact Nl hI hG l _ _ (Km h (hG n u hu)) (hI n u hu)
theorem Rc{G:ag->Prop}{I:List ag->Prop}(hG:∀s u,I u->∀t,G t->(fr s u).1=t->s=t)(o:Int)(n:ag)(sc:List aa)(u:List ag)(h:Bo G sc)(hu:I u):Bo G (mz fe fr o n sc u).2.1:=by
 unfold mz
 split
 ·exact h
 ·split
  ·exact Km h (hG n u hu)
  ·exact h
theorem Q3{G:ag->Prop}{I:List ag->Prop}(hI:∀s u,I u->I (fr s u).2)(hG:∀s u,I u->∀t,G t->(fr s u).1=t->s=t)(o:Int)(n:ag)(ps:List av)(sc:List aa)(u:List ag)(h:Bo G sc)(hu:I u):Bo G (qB fe fr o n ps sc u).2.1:=by
 unfold qB pu
 split
 ·exact Nl hI hG _ _ _ (Rc hG _ _ _ _ h hu) (Ra hI _ _ _ _ hu)
 ·exact Rc hG _ _ _ _ h hu
theorem Uw{G:ag->Prop}{I:List ag->Prop}(hI:∀s u,I u->I (fr s u).2)(hG:∀s u,I u->∀t,G t->(fr s u).1=t->s=t)(o:Int)(n:ag)(ps:List av)(sc:List aa)(u:List ag)(h:Bo G sc)(hu:I u):Bo G (G7 fe fr o n ps sc u):=by
 unfold G7
 split
 ·exact h
 ·exact Q3 hI hG o n ps sc u h hu
theorem NT{sc:List aa}{s:ag}(h:((sc.map (·.old)).any fun x=>x==s)=false):uC sc s=none:=by
 unfold uC
 rw[vcq,vbS]
 intro p hp hc
 rw[vbd]at h
 exact h p.old (vag.2 ⟨p,vby.1 hp,rfl⟩) hc
theorem EU{sc:List aa}{s t:ag}(h:uC sc s=some t):∃p∈sc,p.old=s/\p.new=t:=by
 unfold uC at h
 rw[vaK]at h
 obtain⟨p,hp,rfl⟩:=h
 have h1:=vbi hp
 have h2:=vbJ hp
 exact⟨p,vby.1 h1,by simpa using h2,rfl⟩
theorem NU{sc:List aa}{s:ag}(h:((sc.map (·.old)).any fun x=>x==s)=true):∃t,uC sc s=some t:=by
 cases hl:uC sc s with
 |some t=>exact⟨t,rfl⟩
 |none=>
  unfold uC at hl
  rw[vcq,vbS]at hl
  rw[vbt]at h
  obtain⟨x,hx,hc⟩:=h
  obtain⟨p,hp,rfl⟩:=vag.1 hx
  exact absurd hc (hl p (vby.2 hp))
theorem Pa(h:List ag)(e:af):(B6 h e).map (·.Name)=cond (uA e&&!h.any fun x=>x==e.Name) [e.Name] []:=by
 by_cases hc:(uA e&&!h.any fun x=>x==e.Name)=true
 ·rw[hc];unfold B6;rw[vaq hc];rfl
 ·have hc':(uA e&&!h.any fun x=>x==e.Name)=false:=by simpa using hc
  rw[hc'];unfold B6;rw[vat hc];rfl
theorem TU{G:ag->Prop}(hfe:∀s,G s->fe s=s)(o:Int)(n:ag)(k k2:Int)(ks ks2:List af)(ps ps2:List av)(as1 as2:List aH)(ts ts2:List aj)(sc:List aa)(u:List ag)(h:Bo G sc)
  (hg:∀x∈B6 (sc.map (·.old)) ⟨o,n,k,ks,ps,as1,ts⟩,G x.Name):(B6 (sc.map (·.new)) ⟨o,(mz fe fr o n sc u).1,k2,ks2,ps2,as2,ts2⟩).map (·.Name)=(B6 (sc.map (·.old)) ⟨o,n,k,ks,ps,as1,ts⟩).map (·.Name):=by
 have hg':(uA ⟨o,n,k,ks,ps,as1,ts⟩&&!(sc.map (·.old)).any fun x=>x==n)=true->G n:=fun hc=>hg ⟨o,n,k,ks,ps,as1,ts⟩ (by
  have hc2:(uA ⟨o,n,k,ks,ps,as1,ts⟩&&!(sc.map (·.old)).any fun x=>x==(⟨o,n,k,ks,ps,as1,ts⟩:af).Name)=true:=hc
  unfold B6;rw[vaq hc2];exact vbb.2 rfl)
 have hi:uA ⟨o,n,k,ks,ps,as1,ts⟩=(o==3||o==5):=rfl
 rw[Pa,Pa]
 show cond ((o==3||o==5)&&!(sc.map (·.new)).any fun x=>x==(mz fe fr o n sc u).1) [(mz fe fr o n sc u).1] []=cond ((o==3||o==5)&&!(sc.map (·.old)).any fun x=>x==n) [n] []
 rw[hi]at hg'
 by_cases hv:(o==3||o==5)=true
 ·have e1:(mz fe fr o n sc u).1=(uC sc n).getD (fe n):=by unfold mz;rw[vaq hv]
  rw[e1,hv]
  rw[hv]at hg'
  simp only[Bool.true_and]at hg' ⊢
  cases ha:(sc.map (·.old)).any fun x=>x==n with
  |true=>
   obtain⟨t,ht⟩:=NU ha
   obtain⟨p,hp,_,rfl⟩:=EU ht
   have hb:((sc.map (·.new)).any fun x=>x==p.new)=true:=vbt.2 ⟨p.new,vag.2 ⟨p,hp,rfl⟩,by simp⟩
   rw[ht,Option.getD_some,hb];rfl
  | false =>
   rw[ha]at hg'
   have hG:G n:=hg' rfl
   have hb:((sc.map (·.new)).any fun x=>x==n)=false:=by
    rw[vbd]
    intro x hx hc
    obtain⟨p,hp,rfl⟩:=vag.1 hx
    have h1:=h p hp n hG (by simpa using hc)
    rw[vbd]at ha
    exact ha p.old (vag.2 ⟨p,hp,rfl⟩) (by simpa using h1)
   rw[NT ha,Option.getD_none,hfe n hG,hb]
 ·have hv':(o==3||o==5)=false:=by simpa using hv
  rw[hv'];rfl
mutual
theorem Lr{G:ag->Prop}{I:List ag->Prop}(hfe:∀s,G s->fe s=s)(hI:∀s u,I u->I (fr s u).2)(hG:∀s u,I u->∀t,G t->(fr s u).1=t->s=t):∀(e:af) (sc:List aa) (u:List ag),Bo G sc->I u->(∀x∈xf (sc.map (·.old)) e,G x.Name)->(xf (sc.map (·.new)) (uo fe fr e sc u).1).map (·.Name)=(xf (sc.map (·.old)) e).map (·.Name)
 |⟨o,n,k,ks,ps,as1,ts⟩,sc,u,h,hu,hg=>by
  obtain⟨h1,h2,h3,h4⟩:=RJ fe fr o n ps sc u
  rw[xf,<-h1,<-h2]at hg
  rw[ww,xf,xf,<-h1,<-h2,<-h3,<-h4]
  have g1:=TU (fr:=fr) hfe o n k k ks (Eu fe fr o n ps ks sc u).1 ps (qB fe fr o n ps sc u).1 as1 (um fe fr as1 sc (Eu fe fr o n ps ks sc u).2).1 ts ts sc u h (fun x hx=>hg x (vaw.2 (.inl hx)))
  have g2:=OX hfe hI hG ks (G7 fe fr o n ps sc u) (qB fe fr o n ps sc u).2.1 (qB fe fr o n ps sc u).2.2 (Uw hI hG o n ps sc u h hu) (Q3 hI hG o n ps sc u h hu) (Q2 hI o n ps sc u hu) (fun x hx=>hg x (vaw.2 (.inr (vaw.2 (.inl hx)))))
  have g3:=OW hfe hI hG as1 sc (Eu fe fr o n ps ks sc u).2 h (Q5 hI ks _ _ _ (Q2 hI o n ps sc u hu)) (fun x hx=>hg x (vaw.2 (.inr (vaw.2 (.inr hx)))))
  rw[vaF,vaF,vaF,vaF,g2,g3]
  congr 1
theorem Tz{G:ag->Prop}{I:List ag->Prop}(hfe:∀s,G s->fe s=s)(hI:∀s u,I u->I (fr s u).2)(hG:∀s u,I u->∀t,G t->(fr s u).1=t->s=t):∀(a:aH) (sc:List aa) (u:List ag),Bo G sc->I u->(∀x∈Il (sc.map (·.old)) a,G x.Name)->(Il (sc.map (·.new)) (Df fe fr a sc u).1).map (·.Name)=(Il (sc.map (·.old)) a).map (·.Name)
 |⟨c,ns,b⟩,sc,u,h,hu,hg=>by
  have h1:=G6 fr ns sc u
  have h2:=KR fr ns sc u
  rw[Il,<-h1]at hg
  rw[wx,Il,Il,<-h1,<-h2]
  exact Lr hfe hI hG b _ _ (Nl hI hG ns sc u h hu) (Ou hI ns sc u hu) hg
theorem OX{G:ag->Prop}{I:List ag->Prop}(hfe:∀s,G s->fe s=s)(hI:∀s u,I u->I (fr s u).2)(hG:∀s u,I u->∀t,G t->(fr s u).1=t->s=t):∀(l:List af) (s0 s1:List aa) (u:List ag),Bo G s0->Bo G s1->I u->(∀x∈uH (s0.map (·.old)) (s1.map (·.old)) l,G x.Name)->(uH (s0.map (·.new)) (s1.map (·.new)) (yu fe fr l s0 s1 u).1).map (·.Name)=(uH (s0.map (·.old)) (s1.map (·.old)) l).map (·.Name)
 |[],s0,s1,u,_,_,_,_=>by rw[oq,uH,uH]
 |e::l,s0,s1,u,h0,h1,hu,hg=>by
  rw[uH]at hg
  rw[kk,uH,uH,vaF,vaF,Lr hfe hI hG e s0 u h0 hu (fun x hx=>hg x (vaw.2 (.inl hx))),OX hfe hI hG l s1 s1 _ h1 h1 (Ov hI e s0 u hu) (fun x hx=>hg x (vaw.2 (.inr hx)))]
theorem OW{G:ag->Prop}{I:List ag->Prop}(hfe:∀s,G s->fe s=s)(hI:∀s u,I u->I (fr s u).2)(hG:∀s u,I u->∀t,G t->(fr s u).1=t->s=t):∀(l:List aH) (sc:List aa) (u:List ag),Bo G sc->I u->(∀x∈uG (sc.map (·.old)) l,G x.Name)->(uG (sc.map (·.new)) (um fe fr l sc u).1).map (·.Name)=(uG (sc.map (·.old)) l).map (·.Name)
 |[],sc,u,_,_,_=>by rw[nf,uG,uG]
 |x::l,sc,u,h,hu,hg=>by
  rw[uG]at hg
  rw[jJ,uG,uG,vaF,vaF,Tz hfe hI hG x sc u h hu (fun y hy=>hg y (vaw.2 (.inl hy))),OW hfe hI hG l sc _ h (T4 hI x sc u hu) (fun y hy=>hg y (vaw.2 (.inr hy)))]
end
end
end Go.Proofs.YtkdahfeiedaahaaGreatDoor
namespace Go.Proofs.YtkdahfeiedaahaaGreatDoor
open Go
set_option linter.unusedVariables false
set_option linter.unusedSimpArgs false
mutual
def kl:af->List ag
 |⟨o,n,_,ks,ps,as1,_⟩=>(if(o==7)=true then[n]else[])++((if(o==6)=true then ps.map (·.Name)else[])++(fk ks++iC as1))
def ur:aH->List ag
 |⟨_,ns,b⟩=>ns++kl b
def fk:List af->List ag
 |[]=>[]
 |e::l=>kl e++fk l
def iC:List aH->List ag
 |[]=>[]
 |a::l=>ur a++iC l
end
theorem Pv(e:af):kl e=(if(e.Op==7)=true then[e.Name]else[])++((if(e.Op==6)=true then e.Params.map (·.Name)else[])++(fk e.Kids++iC e.Alts)):=by
 obtain⟨o,n,k,ks,ps,as1,ts⟩:=e
 rw[kl];rfl
theorem Pw(a:aH):ur a=a.Names++kl a.Body:=by obtain⟨c,ns,b⟩:=a;rw[ur];rfl
mutual
theorem uq:∀(e:af),(kl e).length<=nE e
 |⟨o,n,k,ks,ps,as1,ts⟩=>by
  have h1:=xP ks
  have h2:=xO as1
  have h3:(if(o==7)=true then[n]else[]).length<=1:=by split<;>simp
  have h4:(if(o==6)=true then ps.map (·.Name)else[]).length<=ps.length:=by split<;>simp
  rw[kl,nE,vas,vas,vas]
  omega
theorem Nx:∀(a:aH),(ur a).length<=nA a
 |⟨c,ns,b⟩=>by
  have:=uq b
  rw[ur,nA,vas];omega
theorem xP:∀(l:List af),(fk l).length<=tQ l
 |[]=>by simp[fk]
 |e::l=>by
  have:=uq e
  have:=xP l
  rw[fk,tQ,vas];omega
theorem xO:∀(l:List aH),(iC l).length<=va l
 |[]=>by simp[iC]
 |a::l=>by
  have:=Nx a
  have:=xO l
  rw[iC,va,vas];omega
end
section
variable{fe:ag->ag}{fr:LT}
theorem QZ(hf:∀s u,(fr s u).2=u++[(fr s u).1]):∀(l:List ag) (sc:List aa) (u:List ag),(ir fr l sc u).2.2=u++(ir fr l sc u).1
 |[],sc,u=>by simp[ir]
 |n::l,sc,u=>by rw[ir];simp only[];rw[QZ hf l,hf];simp
theorem VK(hf:∀s u,(fr s u).2=u++[(fr s u).1])(o:Int)(n:ag)(ps:List av)(sc:List aa)(u:List ag):(qB fe fr o n ps sc u).2.2=u++((if(o==7)=true then[(mz fe fr o n sc u).1]else[])++(if(o==6)=true then(qB fe fr o n ps sc u).1.map (·.Name)else[])):=by
 by_cases h7:o=7
 ·subst h7
  simp[qB,mz,pu,hf]
 ·have e7:(o==7)=false:=by simpa using h7
  by_cases h6:o=6
  ·subst h6
   have h1:=QZ hf (ps.map (·.Name)) sc u
   have h3:=JR fr ps sc u
   have e1:mz fe fr 6 n sc u=(n,sc,u):=by unfold mz;simp
   have e2:(pu fr true ps sc u).2=(ir fr (ps.map (·.Name)) sc u).2:=by unfold pu;simp
   have e4:(6==(6:Int))=true:=rfl
   unfold qB
   rw[e1,e4]
   simp only[e7,vaV,if_false,if_true,e2,h3,vbj]
   exact h1
  ·have e6:(o==6)=false:=by simpa using h6
   unfold qB mz pu
   simp only[e7,e6,vaV,if_false,vbk]
   split<;>rfl
mutual
theorem Q0(hf:∀s u,(fr s u).2=u++[(fr s u).1]):∀(e:af) (sc:List aa) (u:List ag),(uo fe fr e sc u).2=u++kl (uo fe fr e sc u).1
 |⟨o,n,k,ks,ps,as1,ts⟩,sc,u=>by
  have h1:=VK (fe:=fe) hf o n ps sc u
  have h2:=T3 hf ks (G7 fe fr o n ps sc u) (qB fe fr o n ps sc u).2.1 (qB fe fr o n ps sc u).2.2
  have h3:=T2 hf as1 sc (Eu fe fr o n ps ks sc u).2
  rw[ww,kl]
  show(um fe fr as1 sc (Eu fe fr o n ps ks sc u).2).2=u++((if(o==7)=true then[(mz fe fr o n sc u).1]else[])++((if(o==6)=true then(qB fe fr o n ps sc u).1.map (·.Name)else[])++(fk (Eu fe fr o n ps ks sc u).1++iC (um fe fr as1 sc (Eu fe fr o n ps ks sc u).2).1)))
  have h2':(Eu fe fr o n ps ks sc u).2=(qB fe fr o n ps sc u).2.2++fk (Eu fe fr o n ps ks sc u).1:=h2
  generalize um fe fr as1 sc (Eu fe fr o n ps ks sc u).2=A at h3 ⊢
  rw[h3,h2',h1]
  simp only[vaN]
theorem VL(hf:∀s u,(fr s u).2=u++[(fr s u).1]):∀(a:aH) (sc:List aa) (u:List ag),(Df fe fr a sc u).2=u++ur (Df fe fr a sc u).1
 |⟨c,ns,b⟩,sc,u=>by
  have h1:=QZ hf ns sc u
  have h2:=Q0 hf b (ir fr ns sc u).2.1 (ir fr ns sc u).2.2
  rw[wx,ur]
  show(uo fe fr b (ir fr ns sc u).2.1 (ir fr ns sc u).2.2).2=u++((ir fr ns sc u).1++kl (uo fe fr b (ir fr ns sc u).2.1 (ir fr ns sc u).2.2).1)
  generalize uo fe fr b (ir fr ns sc u).2.1 (ir fr ns sc u).2.2=A at h2 ⊢
  rw[h2,h1,vaN]
theorem T3(hf:∀s u,(fr s u).2=u++[(fr s u).1]):∀(l:List af) (s0 s1:List aa) (u:List ag),(yu fe fr l s0 s1 u).2=u++fk (yu fe fr l s0 s1 u).1
 |[],s0,s1,u=>by rw[oq,fk];simp
 |e::l,s0,s1,u=>by
  have h1:=Q0 hf e s0 u
  have h2:=T3 hf l s1 s1 (uo fe fr e s0 u).2
  rw[kk,fk]
  show(yu fe fr l s1 s1 (uo fe fr e s0 u).2).2=u++(kl (uo fe fr e s0 u).1++fk (yu fe fr l s1 s1 (uo fe fr e s0 u).2).1)
  generalize yu fe fr l s1 s1 (uo fe fr e s0 u).2=A at h2 ⊢
  rw[h2,h1,vaN]
theorem T2(hf:∀s u,(fr s u).2=u++[(fr s u).1]):∀(l:List aH) (sc:List aa) (u:List ag),(um fe fr l sc u).2=u++iC (um fe fr l sc u).1
 |[],sc,u=>by rw[nf,iC];simp
 |x::l,sc,u=>by
  have h1:=VL hf x sc u
  have h2:=T2 hf l sc (Df fe fr x sc u).2
  rw[jJ,iC]
  show(um fe fr l sc (Df fe fr x sc u).2).2=u++(ur (Df fe fr x sc u).1++iC (um fe fr l sc (Df fe fr x sc u).2).1)
  generalize um fe fr l sc (Df fe fr x sc u).2=A at h2 ⊢
  rw[h2,h1,vaN]
end
theorem EH(hl:∀s u,(fr s u).2.length<=u.length+1):∀(l:List ag) (sc:List aa) (u:List ag),(ir fr l sc u).2.2.length<=u.length+l.length
 |[],sc,u=>by simp[ir]
 |n::l,sc,u=>by
  have h1:=hl n u
  have h2:=EH hl l (sc++[⟨n,(fr n u).1⟩]) (fr n u).2
  rw[ir]
  simp only[vay]
  omega
theorem Nq(hl:∀s u,(fr s u).2.length<=u.length+1)(o:Int)(n:ag)(sc:List aa)(u:List ag):(mz fe fr o n sc u).2.2.length<=u.length+1:=by
 have h1:=hl n u
 unfold mz
 split
 ·simp
 ·split
  ·exact h1
  ·simp
theorem KT(hl:∀s u,(fr s u).2.length<=u.length+1)(t:Bool)(ps:List av)(sc:List aa)(u:List ag):(pu fr t ps sc u).2.2.length<=u.length+ps.length:=by
 have h1:=EH hl (ps.map (·.Name)) sc u
 rw[va8]at h1
 unfold pu
 split
 ·exact h1
 ·simp
theorem Q4(hl:∀s u,(fr s u).2.length<=u.length+1)(o:Int)(n:ag)(ps:List av)(sc:List aa)(u:List ag):(qB fe fr o n ps sc u).2.2.length<=u.length+1+ps.length:=by
 have h1:=Nq (fe:=fe) hl o n sc u
 have h2:=KT hl (o==6) ps (mz fe fr o n sc u).2.1 (mz fe fr o n sc u).2.2
 show(pu fr (o==6) ps (mz fe fr o n sc u).2.1 (mz fe fr o n sc u).2.2).2.2.length<=_
 omega
mutual
theorem Np(hl:∀s u,(fr s u).2.length<=u.length+1):∀(e:af) (sc:List aa) (u:List ag),(uo fe fr e sc u).2.length<=u.length+nE e
 |⟨o,n,k,ks,ps,as1,ts⟩,sc,u=>by
  have h1:=Q4 (fe:=fe) hl o n ps sc u
  have h2:=HG hl ks (G7 fe fr o n ps sc u) (qB fe fr o n ps sc u).2.1 (qB fe fr o n ps sc u).2.2
  have h3:=Nj hl as1 sc (Eu fe fr o n ps ks sc u).2
  rw[ww,nE]
  simp only[]
  have h2':(Eu fe fr o n ps ks sc u).2.length<=(qB fe fr o n ps sc u).2.2.length+tQ ks:=h2
  omega
theorem Rh(hl:∀s u,(fr s u).2.length<=u.length+1):∀(a:aH) (sc:List aa) (u:List ag),(Df fe fr a sc u).2.length<=u.length+nA a
 |⟨c,ns,b⟩,sc,u=>by
  have h1:=EH hl ns sc u
  have h2:=Np hl b (ir fr ns sc u).2.1 (ir fr ns sc u).2.2
  rw[wx,nA]
  simp only[]
  omega
theorem HG(hl:∀s u,(fr s u).2.length<=u.length+1):∀(l:List af) (s0 s1:List aa) (u:List ag),(yu fe fr l s0 s1 u).2.length<=u.length+tQ l
 |[],s0,s1,u=>by rw[oq];simp
 |e::l,s0,s1,u=>by
  have h1:=Np hl e s0 u
  have h2:=HG hl l s1 s1 (uo fe fr e s0 u).2
  rw[kk,tQ]
  simp only[]
  omega
theorem Nj(hl:∀s u,(fr s u).2.length<=u.length+1):∀(l:List aH) (sc:List aa) (u:List ag),(um fe fr l sc u).2.length<=u.length+va l
 |[],sc,u=>by rw[nf];simp
 |x::l,sc,u=>by
  have h1:=Rh hl x sc u
  have h2:=Nj hl l sc (Df fe fr x sc u).2
  rw[jJ,va]
  simp only[]
  omega
end
theorem Rb{o:Int}(h3:(o==3||o==5)=false)(h7:(o==7)=false)(n:ag)(sc:List aa)(u:List ag):(mz fe fr o n sc u).1=n:=by
 unfold mz
 rw[h3,h7];rfl
theorem Oq:∀(l:List aH) (sc:List aa) (u:List ag),(um fe fr l sc u).1.map (·.Con)=l.map (·.Con)
 |[],sc,u=>by rw[nf]
 |x::l,sc,u=>by
  rw[jJ,var,var,Oq l,Rg]
  rfl
theorem Tk(o:Int)(n:ag)(k:Int)(ks ks2:List af)(ps ps2:List av)(as1:List aH)(ts:List aj)(sc:List aa)(u u2:List ag):wy ⟨o,(mz fe fr o n sc u).1,k,ks2,ps2,(um fe fr as1 sc u2).1,ts⟩=wy ⟨o,n,k,ks,ps,as1,ts⟩:=by
 show(if(o==4)=true then[(mz fe fr o n sc u).1]else[])++(um fe fr as1 sc u2).1.map (·.Con)=(if(o==4)=true then[n]else[])++as1.map (·.Con)
 rw[Oq]
 by_cases h4:(o==4)=true
 ·have h4':o=4:=by simpa using h4
  rw[vaq h4,vaq h4,h4',Rb (by decide) (by decide)]
 ·rw[vat h4,vat h4]
mutual
theorem Dh:∀(e:af) (sc:List aa) (u:List ag),(eP (uo fe fr e sc u).1).map wy=(eP e).map wy
 |⟨o,n,k,ks,ps,as1,ts⟩,sc,u=>by
  have h1:=JQ ks (G7 fe fr o n ps sc u) (qB fe fr o n ps sc u).2.1 (qB fe fr o n ps sc u).2.2
  have h2:=JP as1 sc (Eu fe fr o n ps ks sc u).2
  rw[ww,eP,eP,var,var,vaF,vaF,h2,Tk o n k ks (Eu fe fr o n ps ks sc u).1 ps (qB fe fr o n ps sc u).1 as1 ts sc u]
  congr 2
theorem Po:∀(a:aH) (sc:List aa) (u:List ag),(CB (Df fe fr a sc u).1).map wy=(CB a).map wy
 |⟨c,ns,b⟩,sc,u=>by
  rw[wx,CB,CB]
  exact Dh b _ _
theorem JQ:∀(l:List af) (s0 s1:List aa) (u:List ag),(ya (yu fe fr l s0 s1 u).1).map wy=(ya l).map wy
 |[],s0,s1,u=>by rw[oq]
 |e::l,s0,s1,u=>by
  rw[kk,ya,ya,vaF,vaF,Dh e,JQ l]
theorem JP:∀(l:List aH) (sc:List aa) (u:List ag),(xZ (um fe fr l sc u).1).map wy=(xZ l).map wy
 |[],sc,u=>by rw[nf]
 |x::l,sc,u=>by
  rw[jJ,xZ,xZ,vaF,vaF,Po x,JP l]
end
mutual
theorem Ri:∀(e:af) (sc:List aa) (u:List ag),dE (uo fe fr e sc u).1=dE e
 |⟨o,n,k,ks,ps,as1,ts⟩,sc,u=>by
  have h1:=Q6 ks (G7 fe fr o n ps sc u) (qB fe fr o n ps sc u).2.1 (qB fe fr o n ps sc u).2.2
  have h2:=QU as1 sc (Eu fe fr o n ps ks sc u).2
  rw[ww,dE,dE,h2]
  congr 2
theorem Ux:∀(a:aH) (sc:List aa) (u:List ag),dA (Df fe fr a sc u).1=dA a
 |⟨c,ns,b⟩,sc,u=>by
  rw[wx,dA,dA]
  exact Ri b _ _
theorem Q6:∀(l:List af) (s0 s1:List aa) (u:List ag),AM (yu fe fr l s0 s1 u).1=AM l
 |[],s0,s1,u=>by rw[oq]
 |e::l,s0,s1,u=>by
  rw[kk,AM,AM,Ri e,Q6 l]
theorem QU:∀(l:List aH) (sc:List aa) (u:List ag),SM (um fe fr l sc u).1=SM l
 |[],sc,u=>by rw[nf]
 |x::l,sc,u=>by
  rw[jJ,SM,SM,Ux x,QU l]
end
mutual
theorem Rj:∀(e:af) (sc:List aa) (u:List ag),nE (uo fe fr e sc u).1=nE e
 |⟨o,n,k,ks,ps,as1,ts⟩,sc,u=>by
  have h1:=Q8 ks (G7 fe fr o n ps sc u) (qB fe fr o n ps sc u).2.1 (qB fe fr o n ps sc u).2.2
  have h2:=QW as1 sc (Eu fe fr o n ps ks sc u).2
  have h3:=Ox fr (o==6) ps (mz fe fr o n sc u).2.1 (mz fe fr o n sc u).2.2
  rw[ww,nE,nE,h2,h3]
  congr 4
theorem Uz:∀(a:aH) (sc:List aa) (u:List ag),nA (Df fe fr a sc u).1=nA a
 |⟨c,ns,b⟩,sc,u=>by
  rw[wx,nA,nA,xN,Rj b]
theorem Q8:∀(l:List af) (s0 s1:List aa) (u:List ag),tQ (yu fe fr l s0 s1 u).1=tQ l
 |[],s0,s1,u=>by rw[oq]
 |e::l,s0,s1,u=>by
  rw[kk,tQ,tQ,Rj e,Q8 l]
theorem QW:∀(l:List aH) (sc:List aa) (u:List ag),va (um fe fr l sc u).1=va l
 |[],sc,u=>by rw[nf]
 |x::l,sc,u=>by
  rw[jJ,va,va,Uz x,QW l]
end
def DC(sc:List aa):Prop:=∀p∈sc,p.new=p.old
theorem J7{sc:List aa}(h:DC sc)(n:ag):DC (sc++[⟨n,n⟩]):=fun q hq=>by
 rcases vaw.1 hq with hq|hq
 ·exact h q hq
 ·rw[vbb.1 hq]
theorem Nk(hf:∀s u,s∉u->fr s u=(s,u++[s])):∀(l:List ag) (sc:List aa) (u:List ag),(u++l).Nodup->DC sc->(ir fr l sc u).1=l/\DC (ir fr l sc u).2.1/\(ir fr l sc u).2.2=u++l
 |[],sc,u,_,h=>⟨rfl,h,by simp[ir]⟩
 | n :: l,sc,u,hn,h => by
  have hnu:n∉u:=fun hx=>by
   rw[va7]at hn
   exact hn.2.2 n hx n (by simp) rfl
  have e1:=hf n u hnu
  have hn':((u++[n])++l).Nodup:=by simpa using hn
  obtain⟨h1,h2,h3⟩:=Nk hf l (sc++[⟨n,n⟩]) (u++[n]) hn' (J7 h n)
  rw[ir,e1]
  exact⟨by simp only[h1],h2,by simp only[h3];simp⟩
theorem Us(hfe:∀s,fe s=s)(hf:∀s u,s∉u->fr s u=(s,u++[s]))(o:Int)(n:ag)(sc:List aa)(u:List ag)(h:DC sc)(hn:(u++(if(o==7)=true then[n]else[])).Nodup):(mz fe fr o n sc u).1=n/\DC (mz fe fr o n sc u).2.1/\(mz fe fr o n sc u).2.2=u++(if(o==7)=true then[n]else[]):=by
 unfold mz
 by_cases hv:(o==3||o==5)=true
 ·have h7:(o==7)=false:=by
   rw[vaY,vaW,vaW]at hv
   rw[beq_eq_false_iff_ne];omega
  rw[vaq hv,h7]
  refine⟨?_,h,by simp⟩
  cases hl:uC sc n with
  |none=>simp only[Option.getD_none];exact hfe n
  |some t=>
   obtain⟨p,hp,h1,h2⟩:=EU hl
   simp only[Option.getD_some]
   rw[<-h2,h p hp,h1]
 ·rw[vat hv]
  by_cases h7:(o==7)=true
  ·rw[vaq h7]at hn ⊢
   have hnu:n∉u:=fun hx=>by
    rw[va7]at hn
    exact hn.2.2 n hx n (by simp) rfl
   rw[vaq h7,hf n u hnu]
   exact⟨rfl,J7 h n,rfl⟩
  ·rw[vat h7,vat h7]
   exact⟨rfl,h,by simp⟩
theorem Uu(hf:∀s u,s∉u->fr s u=(s,u++[s]))(t:Bool)(ps:List av)(sc:List aa)(u:List ag)(h:DC sc)(hn:(u++(if t=true then ps.map (·.Name)else[])).Nodup):(pu fr t ps sc u).1=ps/\DC (pu fr t ps sc u).2.1/\(pu fr t ps sc u).2.2=u++(if t=true then ps.map (·.Name)else[]):=by
 unfold pu
 cases t with
 |true=>
  rw[vaq rfl]at hn
  obtain⟨h1,h2,h3⟩:=Nk hf (ps.map (·.Name)) sc u hn h
  rw[vaq rfl,vaq rfl]
  refine⟨?_,h2,h3⟩
  show Fk ps (ir fr (ps.map (·.Name)) sc u).1=ps
  rw[h1,Kv]
 |false=>exact⟨rfl,h,by simp⟩
mutual
theorem Nn(hfe:∀s,fe s=s)(hf:∀s u,s∉u->fr s u=(s,u++[s])):∀(e:af) (sc:List aa) (u:List ag),(u++kl e).Nodup->DC sc->uo fe fr e sc u=(e,u++kl e)
 | ⟨o,n,k,ks,ps,as1,ts⟩,sc,u,hn,h => by
  rw[kl]at hn ⊢
  rw[<-vaN,<-vaN,<-vaN]at hn
  have hn3:=(va7.1 hn).1
  have hn2:=(va7.1 hn3).1
  have hn1:=(va7.1 hn2).1
  obtain⟨a1,a2,a3⟩:=Us (fe:=fe) hfe hf o n sc u h hn1
  rw[<-a3]at hn2
  obtain⟨b1,b2,b3⟩:=Uu hf (o==6) ps _ _ a2 hn2
  have hS:DC (G7 fe fr o n ps sc u):=by
   unfold G7
   split
   ·exact h
   ·exact b2
  have e1:(qB fe fr o n ps sc u).2.2=u++(if(o==7)=true then[n]else[])++(if(o==6)=true then ps.map (·.Name)else[]):=by
   show(pu fr (o==6) ps (mz fe fr o n sc u).2.1 (mz fe fr o n sc u).2.2).2.2=_
   rw[b3,a3]
  rw[<-e1]at hn3 hn
  have c1:=Q7 hfe hf ks (G7 fe fr o n ps sc u) (qB fe fr o n ps sc u).2.1 (qB fe fr o n ps sc u).2.2 hn3 hS b2
  have c2:Eu fe fr o n ps ks sc u=(ks,(qB fe fr o n ps sc u).2.2++fk ks):=c1
  have d1:=QV hfe hf as1 sc ((qB fe fr o n ps sc u).2.2++fk ks) hn h
  rw[ww,c2]
  simp only[]
  rw[d1,a1]
  have e2:(qB fe fr o n ps sc u).1=ps:=b1
  rw[e2,e1]
  simp only[vaN]
theorem Uy(hfe:∀s,fe s=s)(hf:∀s u,s∉u->fr s u=(s,u++[s])):∀(a:aH) (sc:List aa) (u:List ag),(u++ur a).Nodup->DC sc->Df fe fr a sc u=(a,u++ur a)
 |⟨c,ns,b⟩,sc,u,hn,h=>by
  rw[ur]at hn ⊢
  rw[<-vaN]at hn
  obtain⟨a1,a2,a3⟩:=Nk hf ns sc u (va7.1 hn).1 h
  rw[<-a3]at hn
  have:=Nn hfe hf b _ _ hn a2
  rw[wx,this,a1,a3,vaN]
theorem Q7(hfe:∀s,fe s=s)(hf:∀s u,s∉u->fr s u=(s,u++[s])):∀(l:List af) (s0 s1:List aa) (u:List ag),(u++fk l).Nodup->DC s0->DC s1->yu fe fr l s0 s1 u=(l,u++fk l)
 |[],s0,s1,u,_,_,_=>by rw[oq,fk];simp
 |e::l,s0,s1,u,hn,h0,h1=>by
  rw[fk]at hn ⊢
  rw[<-vaN]at hn
  have a1:=Nn hfe hf e s0 u (va7.1 hn).1 h0
  have a2:=Q7 hfe hf l s1 s1 _ hn h1 h1
  rw[kk,a1]
  simp only[]
  rw[a2,vaN]
theorem QV(hfe:∀s,fe s=s)(hf:∀s u,s∉u->fr s u=(s,u++[s])):∀(l:List aH) (sc:List aa) (u:List ag),(u++iC l).Nodup->DC sc->um fe fr l sc u=(l,u++iC l)
 |[],sc,u,_,_=>by rw[nf,iC];simp
 |x::l,sc,u,hn,h=>by
  rw[iC]at hn ⊢
  rw[<-vaN]at hn
  have a1:=Uy hfe hf x sc u (va7.1 hn).1 h
  have a2:=QV hfe hf l sc _ hn h
  rw[jJ,a1]
  simp only[]
  rw[a2,vaN]
end
end
end Go.Proofs.YtkdahfeiedaahaaGreatDoor
