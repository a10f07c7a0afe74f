/- PROVED: a part of the proof. Conditions: none. -/
import Derived.Test.YtkdahfeiedaahaaGreatDoorPkF19
import Derived.Lib.SlicesCompact
import Derived.Test.YtkdahfeiedaahaaGreatDoorPkF10
noncomputable section
namespace Go.Proofs.YtkdahfeiedaahaaGreatDoor
open Go
set_option linter.unusedSimpArgs false
set_option linter.unusedVariables false
abbrev ZE(a:List af):Prop:=a.length<9223372036854775808
def JH(l:List af)(s:af):Int:=match l.findIdx? (fun x=>x==s)with|some j=>(j:Int)|none=>-1
theorem wI(l:List af)(s:af)(hl:l.length<9223372036854775808):I3 l s=some (JH l s):=by
 unfold I3 Hr
 have:=L0 l hl (fun zz=>sK l s l.length zz) (fun x=>x==s) (fun j=>Sum.inl (j:Int)) (Sum.inr ()) (fun i h=>by
  simp only[sK]
  rw[vaw (by simp;omega),dg _ i h]
  simp only[vaa]
  split<;>simp_all) (by simp only[sK];rw[vax (by simp)])
 rw[this]
 unfold JH
 cases l.findIdx? (fun x=>x==s)<;>rfl
theorem Lb(l:List af)(s:af)(hl:l.length<9223372036854775808):pA l s=some (JH l s):=by
 unfold pA slices_Index tO
 have:=L0 l hl (fun zz=>km l s l.length zz) (fun x=>x==s) (fun j=>Sum.inl (j:Int)) (Sum.inr ()) (fun i h=>by
  simp only[km]
  rw[vaw (by simp;omega),dg _ i h]
  simp only[vaa,BEq.comm (a:=s)]
  split<;>simp_all) (by simp only[km];rw[vax (by simp)])
 rw[this]
 unfold JH
 cases l.findIdx? (fun x=>x==s)<;>rfl
theorem qe(l:List af)(s:af):decide (JH l s>=0)=l.any fun k=>k==s:=by
 unfold JH
 cases h:l.findIdx? (fun x=>x==s)with
 |none=>
  rw[List.findIdx?_eq_none_iff]at h
  symm
  simp only[vbd]
  rw[show decide ((-1:Int)>=0)=false from rfl]
  simp only[vbd,vcu]
  exact h
 | some j =>
  have h2:l.any (fun x=>x==s)=true:=by
   have:=List.findIdx?_isSome (xs:=l) (p:=fun x=>x==s)
   rw[h]at this
   exact this.symm
  rw[h2]
  simp
theorem RQ(l:List af)(s:af):decide (JH l s<0)= !l.any fun k=>k==s:=by
 rw[<-qe]
 rw[<-decide_not]
 simp
theorem L4{α:Type}(k:af)(v:α)(j:af):∀(m:List (af×α)),wx (ri m k v) j=if(j==k)=true then some v else wx m j
 |[]=>by
  simp only[ri,wx,List.find?_cons,List.find?_nil]
  cases(j==k)<;>rfl
 | e :: r => by
  have ih:=L4 k v j r
  unfold ri
  by_cases h:(k==e.1)=true
  ·have h':k=e.1:=by simpa using h
   rw[vaw h]
   unfold wx
   simp only[List.find?_cons]
   rw[<-h']
   cases hj:(j==k)<;>simp
  ·rw [vax h]
   unfold wx at ih ⊢
   simp only[List.find?_cons]
   cases hj:(j==e.1)
   ·simpa using ih
   ·have:¬(j==k)=true:=fun hk=>h (by
      have h1:j=e.1:=by simpa using hj
      have h2:j=k:=by simpa using hk
      simp[<-h1,<-h2])
    simp[this]
abbrev iu(m:List (af×Bool))(k:af):Bool:=(wx m k).getD false
theorem OF(m:List (af×Bool))(k j:af):iu (ri m k true) j=(j==k||iu m j):=by
 unfold iu
 rw[L4]
 cases(j==k)<;>rfl
def PL(l:af):Nat:=l.foldl (fun a c=>10 * a+(c.toNat - 48)) 0
theorem Jy(u:Nat):PL (Lib.decDigits u)=u:=by
 induction u using Nat.strongRecOn with
 | _ u ih =>
  rw[Lib.decDigits]
  by_cases h:u<10
  ·rw[dif_pos h]
   unfold PL
   simp
   omega
  ·rw[dif_neg h]
   have:=ih (u / 10) (by omega)
   unfold PL at this ⊢
   rw[vcl,this]
   simp
   omega
theorem VB{u v:Nat}(h:Lib.decDigits u=Lib.decDigits v):u=v:=by rw[<-Jy u,<-Jy v,h]
theorem MN(u:Nat):(Lib.decDigits u).length<=u+1:=by
 induction u using Nat.strongRecOn with
 | _ u ih =>
  rw[Lib.decDigits]
  by_cases h:u<10
  ·rw[dif_pos h];simp
  ·rw[dif_neg h]
   have:=ih (u / 10) (by omega)
   simp
   omega
theorem Mm:∀(k n:Nat) (acc:af),n<=k->n<=1000000000->acc.length<=1000000000 - n->tf acc n=some (if n=0 then acc else Lib.decDigits n++acc)
 |k,0,acc,_,_,_=>by
  unfold tf
  exact rS rfl
 |0,n+1,_,h,_,_=>absurd h (by omega)
 | k + 1,n + 1,acc,hk,hn,ha => by
  have hb:sJ acc ((n+1:Nat):Int)=some (.inl (UInt8.ofNat (48+(n+1) % 10)::acc,(((n+1) / 10:Nat):Int))):=by
   simp only[sJ]
   have h1:(((n+1:Nat):Int)!=0)=true:=by simp;omega
   have h2:re ((n+1:Nat):Int) 10=some (((n+1) % 10:Nat):Int):=by
    simp only[re]
    have e:((n+1:Nat):Int) % 10=(((n+1) % 10:Nat):Int):=by omega
    rw[vax (by omega),Int.tmod_eq_emod_of_nonneg (by omega),e]
   have h3:AI (((n+1) % 10:Nat):Int)=some (((n+1) % 10:Nat):Int):=by
    simp only[AI]
    rw[vax (by simp;omega)]
   have h4:IntKind.u8.wrap (bV (48+(((n+1) % 10:Nat):Int)))=((48+(n+1) % 10:Nat):Int):=by
    rw[co (by omega) (by omega)]
    have h5:(48:Int)+(((n+1) % 10:Nat):Int)=((48+(n+1) % 10:Nat):Int):=by omega
    rw[h5]
    generalize hq:48+(n+1) % 10=q
    have:q<58:=by omega
    show((q:Int) % 256)=q
    omega
   have h6:EV [((48+(n+1) % 10:Nat):Int)]=some [UInt8.ofNat (48+(n+1) % 10)]:=by
    simp only[EV]
    rw[vaw (by omega)]
    rfl
   have h7:qu .i64 ((n+1:Nat):Int) 10=some (((n+1) / 10:Nat):Int):=by
    simp only[qu]
    rw[vax (by omega),vcb (by omega)]
    have e:((n+1:Nat):Int) / 10=(((n+1) / 10:Nat):Int):=by omega
    rw[e]
    exact va9 some (co (by omega) (by omega))
   rw[h1]
   simp only[if_true,h2,vaa,h3,h4,h6]
   rw[Jw (by simp;omega),h7]
   rfl
  unfold tf
  refine(yu (body:=fun zz:af×Int=>sJ zz.1 zz.2) (s:=(acc,((n+1:Nat):Int))) (s':=(UInt8.ofNat (48+(n+1) % 10)::acc,(((n+1) / 10:Nat):Int))) hb).trans ?_
  have ih:=Mm k ((n+1) / 10) (UInt8.ofNat (48+(n+1) % 10)::acc) (by omega) (by omega) (by simp;omega)
  unfold tf at ih
  rw[ih,vax (by omega:¬n+1=0)]
  conv=>rhs;rw[Lib.decDigits]
  by_cases h:n+1<10
  ·rw[dif_pos h,vaw (by omega),vb6 h]
   rfl
  ·rw[dif_neg h,vax (by omega)]
   simp
theorem Hq(n:Nat)(h0:1<=n)(h:n<=1000000000):I2 n=some (Lib.decDigits n):=by
 unfold I2
 have h1:((n:Int)==0)=false:=by simp;omega
 rw[h1,Mm n n [] (van _) h (by simp)]
 have h2:decide ((n:Int)<0)=false:=by simp
 simp only[vaY,if_false,vaa,h2]
 rw[vax (by omega)]
 simp
theorem Ov(n:Nat)(h:n<=1000000000):QV n=some (Lib.decDigits n):=by
 unfold QV Lib.itoa
 rw[vaw (by simp;omega),vax (by omega)]
 rfl
theorem Qb:∀(used L:List af),L.Nodup->used.length<L.length->∃x∈L,x∉used
 |[],L,_,h=>by
  cases L with
  |nil=>simp at h
  |cons x L=>exact⟨x,by simp,by simp⟩
 | u :: us,L,hn,h => by
  obtain⟨x,hx,hu⟩:=Qb us (L.erase u) (hn.erase u) (by
   have:=List.length_erase (a:=u) (l:=L)
   rw[this]
   simp at h
   split<;>omega)
  rw[hn.mem_erase_iff]at hx
  exact⟨x,hx.2,by simp[hx.1,hu]⟩
theorem JK(used:List af)(base:af):∃n,1<=n/\n<=used.length+1/\base++Lib.decDigits n∉used:=by
 obtain⟨x,hx,hu⟩:=Qb used ((List.range (used.length+1)).map fun i=>base++Lib.decDigits (i+1)) (by
  unfold List.Nodup
  rw[List.pairwise_map]
  refine vcK ?_ (List.nodup_range (n:=used.length+1))
  intro a b hab e
  have:=VB (List.append_cancel_left e)
  omega) (by simp)
 simp only[vag,vbo]at hx
 obtain⟨i,hi,rfl⟩:=hx
 exact⟨i+1,by omega,by omega,hu⟩
def tI(used:List af)(base:af):Nat->Nat->af
 |0,_=>[]
 |k+1,n=>if used.contains (base++Lib.decDigits n)=true then tI used base k (n+1)else base++Lib.decDigits n
def Gw(used:List af)(base:af):af:=if used.contains base=true then tI used base 100000001 1 else base
theorem Fi(used:List af)(hl:ZE used):∃m,qk used used.length 0 []=some m/\∀k,iu m k=used.contains k:=by
 unfold qk
 have:=Fa used hl (fun i (m:List (af×Bool))=>(i,m)) (fun zz=>kX used used.length zz.1 zz.2) (fun _ _=>True) (fun _ x m=>.inl (ri m x true)) (fun m=>m) (fun i hi t _=>⟨by
   simp only[kX]
   rw[vaw (by simp;omega),dg _ i hi]
   rfl,fun _ _=>trivial⟩) (fun _ _=>by simp only[kX];rw[vax (by simp)]) 0 [] (va5 _) trivial
 simp only[Int.ofNat_zero,vbZ]at this
 rw[this]
 refine⟨_,rfl,?_⟩
 have key:∀(l:List af) (i:Nat) (m:List (af×Bool)) k,iu (Eh (fun _ x (m:List (af×Bool))=>(Sum.inl (ri m x true):List (af×Bool)⊕List (af×Bool))) (fun m=>m) l i m) k=(l.contains k||iu m k):=by
  intro l
  induction l with
  |nil=>intro i m k;simp[Eh]
  |cons x l ih=>
   intro i m k
   unfold Eh
   simp only[ih,OF,vcH]
   cases(k==x)<;>cases l.contains k<;>simp
 intro k
 rw[key]
 simp[iu,wx]
theorem HN(used:List af)(base:af)(m:List (af×Bool))(hm:∀k,iu m k=used.contains k)(hl:used.length<=100000000)(hb:base.length<=4000000000000000000)(N:Nat)(hN:base++Lib.decDigits N∉used)(hN2:N<=100000001):∀(k n:Nat),1<=n->n<=N->N<n+k->nk base m n=some (tI used base k n)/\ny used base (base++Lib.decDigits n) ((n+1:Nat):Int)=some (tI used base k n)/\tI used base k n∉used
 |0,n,_,h1,h2=>absurd h2 (by omega)
 | k + 1,n,h0,h1,h2 => by
  have hd:=MN n
  have hd2:=MN (n+1)
  have e1:bV ((n:Int)+1)=((n+1:Nat):Int):=by rw[co (by omega) (by omega)];omega
  have e2:bV (((n+1:Nat):Int)+1)=((n+2:Nat):Int):=by rw[co (by omega) (by omega)];omega
  unfold tI
  by_cases hc:used.contains (base++Lib.decDigits n)=true
  ·rw[vaw hc]
   have hne:n≠N:=by
    rintro rfl
    exact hN (by simpa using hc)
   obtain⟨i1,i2,i3⟩:=HN used base m hm hl hb N hN hN2 k (n+1) (by omega) (by omega) (by omega)
   have hm':=hm (base++Lib.decDigits n)
   unfold iu at hm'
   have b1:jr base m (n:Int)=some (.inl (((n+1:Nat):Int))):=by
    simp only[jr]
    rw[Ov n (by omega)]
    simp only[vaa]
    rw[Jw (by omega)]
    simp only[vaa,hm',hc,e1]
    rfl
   have b2:dE used base (base++Lib.decDigits n) ((n+1:Nat):Int)=some (.inl (base++Lib.decDigits (n+1),((n+2:Nat):Int))):=by
    simp only[dE]
    rw[wI _ _ (by omega)]
    simp only[vaa,qe]
    have:(used.any fun k=>k==base++Lib.decDigits n)=true:=by simpa[vbt]using hc
    rw[this,vaw rfl,Hq (n+1) (by omega) (by omega)]
    simp only[vaa]
    rw[Jw (by omega)]
    simp only[vaa,e2]
   refine⟨?_,?_,i3⟩
   ·unfold nk at i1 ⊢
    exact(yu b1).trans i1
   ·unfold ny at i2 ⊢
    exact(yu (body:=fun zz:af×Int=>dE used base zz.1 zz.2) (s:=(base++Lib.decDigits n,((n+1:Nat):Int))) (s':=(base++Lib.decDigits (n+1),((n+2:Nat):Int))) b2).trans i2
  ·rw[vax hc]
   have hc':used.contains (base++Lib.decDigits n)=false:=by simpa using hc
   have hm':=hm (base++Lib.decDigits n)
   unfold iu at hm'
   have b1:jr base m (n:Int)=some (.inr (base++Lib.decDigits n)):=by
    simp only[jr]
    rw[Ov n (by omega)]
    simp only[vaa]
    rw[Jw (by omega)]
    simp only[vaa,hm',hc']
    rfl
   have b2:dE used base (base++Lib.decDigits n) ((n+1:Nat):Int)=some (.inr (base++Lib.decDigits n)):=by
    simp only[dE]
    rw[wI _ _ (by omega)]
    simp only[vaa,qe]
    have:(used.any fun k=>k==base++Lib.decDigits n)=false:=by
     rw[vcn]
     intro h
     apply hc
     simpa[vbt]using h
    rw[this]
    rfl
   refine⟨?_,?_,by simpa using hc⟩
   ·unfold nk
    exact rS b1
   ·unfold ny
    exact rS (body:=fun zz:af×Int=>dE used base zz.1 zz.2) (s:=(base++Lib.decDigits n,((n+1:Nat):Int))) b2
theorem S4(used:List af)(base:af)(hl:used.length<=100000000)(hb:base.length<=4000000000000000000):tt used base=some (Gw used base)/\Ls used base=some (Gw used base)/\Gw used base∉used:=by
 obtain⟨m,hm1,hm⟩:=Fi used (show _<_ by omega)
 have hm':=hm base
 unfold iu at hm'
 obtain⟨N,h1,h2,h3⟩:=JK used base
 obtain⟨i1,i2,i3⟩:=HN used base m hm hl hb N h3 (by omega) 100000001 1 (van _) h1 (by omega)
 unfold tt Ls Gw
 rw[hm1]
 simp only[vaa,hm']
 have hd:=MN 1
 by_cases hc:used.contains base=true
 ·simp only[hc,Bool.not_true,vaY,if_false,if_true]
  simp only[Int.ofNat_one]at i1
  rw[i1]
  have b2:dE used base base 1=some (.inl (base++Lib.decDigits 1,((2:Nat):Int))):=by
   simp only[dE]
   rw[wI _ _ (by omega)]
   simp only[vaa,qe]
   have:(used.any fun k=>k==base)=true:=by simpa[vbt]using hc
   have ht:=Hq 1 (by omega) (by omega)
   simp only[Int.ofNat_one]at ht
   rw[this,vaw rfl,ht]
   simp only[vaa]
   rw[Jw (by omega)]
   rfl
  unfold ny at i2 ⊢
  have:=(yu (body:=fun zz:af×Int=>dE used base zz.1 zz.2) (s:=(base,1)) (s':=(base++Lib.decDigits 1,((2:Nat):Int))) b2).trans i2
  rw[this]
  exact⟨rfl,rfl,i3⟩
 ·have hc':used.contains base=false:=by simpa using hc
  simp only[hc',Bool.not_false,if_true,vaY,if_false]
  have b2:dE used base base 1=some (.inr base):=by
   simp only[dE]
   rw[wI _ _ (by omega)]
   simp only[vaa,qe]
   have:(used.any fun k=>k==base)=false:=by
    rw[vcn]
    intro h
    apply hc
    simpa[vbt]using h
   rw[this]
   rfl
  unfold ny
  have:=rS (body:=fun zz:af×Int=>dE used base zz.1 zz.2) (s:=(base,1)) b2
  rw[this]
  exact⟨trivial,rfl,by simpa using hc⟩
theorem Qq{A:Type}(n:Nat)(hn:n<9223372036854775808){body:Int->Option (Int⊕(A⊕Unit))}(P:Nat->Prop)(B:A->Prop)
  (hin:∀i:Nat,i<n->wF (body (i:Int)) (fun r=>r.elim (fun t=>t=bV ((i:Int)+1)/\P i) (fun y=>y.elim B (fun _=>False)))) (hend:body (n:Int)=some (.inr (.inr ()))):wF (loop body 0) (fun r=>r.elim B (fun _=>∀i,i<n->P i)):=by
 have key:∀k i,k+i=n->(∀j,j<i->P j)->wF (loop body (i:Int)) (fun r=>r.elim B (fun _=>∀i,i<n->P i)):=by
  intro k
  induction k with
  |zero=>
   intro i hi hP
   have:i=n:=by omega
   subst this
   rw[rS hend]
   exact dB hP
  | succ k ih =>
   intro i hi hP
   obtain⟨r,e,hr⟩:=hin i (by omega)
   rw[mI,e]
   cases r with
   | inl t =>
    obtain⟨rfl,hp⟩:=hr
    simp only
    rw[co (by omega) (by omega),show((i:Int)+1)=((i+1:Nat):Int) by omega]
    exact ih (i+1) (by omega) fun j hj=>by
     by_cases he:j=i
     ·subst he;exact hp
     ·exact hP j (by omega)
   |inr y=>
    cases y with
    |inl a=>exact⟨_,rfl,hr⟩
    |inr u=>exact hr.elim
 exact key n 0 (by omega) fun j hj=>absurd hj (vaK _)
theorem N1(l:List ax)(hl:l.length<=1073741824):lM l=some (l.map (·.Name)):=by
 unfold lM
 have h:=fT l.length (fun zz:(List af)×Int=>fU l (l.length:Int) zz.1 zz.2) (fun i=>((l.take i).map (·.Name),(i:Int))) (l.map (·.Name)) (fun i hi=>?_) ?_
 ·have h':pq l (l.length:Int) ([]:List af) 0=some (l.map (·.Name)):=by unfold pq;simpa using h
  rw[h'];rfl
 ·show fU l (l.length:Int) _ (i:Int)=_
  unfold fU
  rw[vaw (by simpa using hi),dg _ _ hi,vaa,lF (by simp;omega),vaa,co (by omega) (by omega),vaz hi,vaW]
  rfl
 ·show fU l (l.length:Int) _ (l.length:Int)=_
  unfold fU
  rw[vax (by simp),vaR]
theorem Ui(l:List aG)(i:Nat):Bq (l.take i)<=Bq l:=by
 have:∀(l:List aG) (i:Nat),Bq (l.take i)<=Bq l:=by
  intro l
  induction l with
  |nil=>intro i;simp
  |cons x l ih=>
   intro i
   cases i with
   |zero=>simp[Bq]
   |succ i=>have:=ih i;simp only[List.take_succ_cons,Bq];omega
 exact this l i
abbrev qaH(l:List af):Prop:=l.Pairwise TA
def iO(m:List (af×Bool))(l:List af):List (af×Bool):=l.foldl (fun m x=>ri m x true) m
theorem jh(m:List (af×Bool))(a b:List af):iO m (a++b)=iO (iO m a) b:=by unfold iO;rw[vcl]
theorem sn(l:List af)(m:List (af×Bool))(hl:l.length<9223372036854775808):fY l m=some (iO m l):=by
 unfold fY
 have h:=fT l.length (fun zz:Int×(List (af×Bool))=>fa l (l.length:Int) zz.1 zz.2) (fun i=>((i:Int),iO m (l.take i))) (iO m l) (fun i hi=>?_) ?_
 ·have h':mS l (l.length:Int) 0 m=some (iO m l):=by unfold mS;simpa[iO]using h
  rw[h'];rfl
 ·show fa l (l.length:Int) (i:Int) _=_
  unfold fa
  rw[vaw (by simpa using hi),dg _ _ hi,vaa,co (by omega) (by omega),vaz hi,jh]
  rfl
 ·show fa l (l.length:Int) (l.length:Int) _=_
  unfold fa
  rw[vax (by simp),vaR]
theorem GR:ms ([]:List af)=some []:=by
 unfold ms
 rw[sn _ _ (by simp)];rfl
def qh(m:List (af×Bool)):List af:=m.map (·.1)
theorem Ox(k:af):∀(m:List (af×Bool)),qh (ri m k true)=if k∈qh m then qh m else qh m++[k]
 |[]=>by simp[ri,qh]
 | e :: r => by
  have ih:=Ox k r
  unfold qh at *
  rw[ri]
  by_cases h:(k==e.1)=true
  ·have h':k=e.1:=by simpa using h
   rw[vaw h,vaC,vaC,vaw (by rw[h'];simp),h']
  ·have h':¬k=e.1:=by simpa using h
   rw[vax h,vaC,vaC,ih]
   by_cases h2:k∈r.map (·.1)
   ·rw[vaw h2,vaw (vaI _ h2)]
   ·rw[vax h2,vax (by rw[vaB];rintro(h3|h3);exact h' h3;exact h2 h3)]
    rfl
theorem Cd:∀(l:List af) (m:List (af×Bool)),(qh m).Nodup->(qh (iO m l)).Nodup/\(∀x,x∈qh (iO m l)↔x∈qh m\/x∈l)/\(iO m l).length<=m.length+l.length
 |[],m,h=>⟨h,fun x=>by simp[iO],by simp[iO]⟩
 | k :: l,m,h => by
  have hp:=Ox k m
  have hn:(qh (ri m k true)).Nodup:=by
   rw[hp]
   split
   ·exact h
   ·rename_i hk
    rw[vbU]
    exact⟨h,by simp,fun a ha b hb hab=>by simp at hb;subst hb;subst hab;exact hk ha⟩
  have hlen:(ri m k true).length<=m.length+1:=by
   have:=va9 List.length hp
   unfold qh at this
   rw[vbb]at this
   rw[this]
   split<;>simp
  obtain⟨h1,h2,h3⟩:=Cd l (ri m k true) hn
  refine⟨h1,fun x=>?_,?_⟩
  ·show x∈qh (iO (ri m k true) l)↔_
   rw[h2,hp]
   split
   ·rename_i hk
    constructor
    ·rintro(h|h)
     ·exact .inl h
     ·exact .inr (vaI _ h)
    ·rintro(h|h)
     ·exact .inl h
     ·rcases vaB.1 h with rfl|h
      ·exact .inl hk
      ·exact .inr h
   ·rw[vam,va4,vaB,or_assoc]
  ·show(iO (ri m k true) l).length<=_
   simp only[vaF]
   omega
def vX(l:List af):List af:=yp (qh (iO [] l))
theorem R0{l:List af}(h:l.Nodup):qaH (yp l):=by
 have hn:(yp l).Nodup:=(pz l).nodup_iff.2 h
 refine((qg l).and hn).imp ?_
 rintro a b ⟨h1,h2⟩
 show Op.bytesLess a b=true
 cases hb:Op.bytesLess a b with
 |true=>rfl
 |false=>exact absurd (A5 hb h1) h2
theorem vY(l:List af):qaH (vX l)/\∀x,x∈vX l↔x∈l:=by
 obtain⟨h1,h2,_⟩:=Cd l [] (by simp[qh])
 refine⟨R0 h1,fun x=>?_⟩
 unfold vX
 rw[(pz _).mem_iff,h2]
 simp[qh]
theorem FL(l:List af):(vX l).length<=l.length:=by
 obtain⟨_,_,h⟩:=Cd l [] (by simp[qh])
 unfold vX
 rw[(pz _).length_eq]
 unfold qh
 rw[vbb]
 simpa using h
theorem G9(l:List af)(hl:l.length<=1073741824):sq (iO [] l)=some (vX l):=by
 obtain⟨_,_,h⟩:=Cd l [] (by simp[qh])
 unfold sq
 rw[vaw (by simp only[vaj];unfold dF;simp at h;omega)]
 rfl
def mG(e:ag):Bool:=e.Op==3||e.Op==5
theorem B8(e:ag):fD e=some (mG e):=by
 unfold fD mG
 rw[qau]
def kV(o:Int)(n:af)(ps:List ax)(later:Bool):List af:=if(o==7&&later)=true then[n]else if(o==6)=true then ps.map (·.Name)else[]
theorem LT(e:ag)(i:Nat)(hl:e.Params.length<=1073741824):oM e (i:Int)=some (kV e.Op e.Name e.Params (decide (0<i))):=by
 unfold oM sw kV
 rw[X2]
 simp only[vaa]
 have h0:decide ((i:Int)>0)=decide (0<i):=by by_cases h:0<i<;>simp[h]
 rw[h0]
 by_cases h1:(e.Op==7&&decide (0<i))=true
 ·rw[vaw h1,vaw h1]
 ·rw[vax h1,vax h1]
  by_cases h2:(e.Op==6)=true
  ·rw[vaw h2,vaw h2,N1 _ hl];rfl
  ·rw[vax h2,vax h2]
theorem Ou(o:Int)(n:af)(ps:List ax)(b:Bool):(kV o n ps b).length<=1+ps.length:=by
 unfold kV
 split
 ·simp
 ·split<;>simp
mutual
def qo(h:List af):ag->List ag
 |⟨o,n,k,ks,ps,as1,ts⟩=>(if(mG ⟨o,n,k,ks,ps,as1,ts⟩&&!h.any fun x=>x==n)=true then[⟨o,n,k,ks,ps,as1,ts⟩]else[])++(ol (h++kV o n ps false) (h++kV o n ps true) ks++oH h as1)
def GV(h:List af):aG->List ag
 |⟨_,ns,b⟩=>qo (h++ns) b
def ol(h0 h1:List af):List ag->List ag
 |[]=>[]
 |e::l=>qo h0 e++ol h1 h1 l
def oH(h:List af):List aG->List ag
 |[]=>[]
 |a::l=>GV h a++oH h l
end
abbrev vW(h:List af)(e:ag):List ag:=if(mG e&&!h.any fun x=>x==e.Name)=true then[e]else[]
theorem Q3(h:List af)(e:ag):qo h e=vW h e++(ol (h++kV e.Op e.Name e.Params false) (h++kV e.Op e.Name e.Params true) e.Kids++oH h e.Alts):=by
 obtain⟨o,n,k,ks,ps,as1,ts⟩:=e
 rw[qo];rfl
theorem VV(h:List af)(a:aG):GV h a=qo (h++a.Names) a.Body:=by obtain⟨c,ns,b⟩:=a;rw[GV];rfl
theorem GU(h0 h1:List af):∀(l:List ag) (i:Nat) (hi:i<l.length),ol h0 h1 (l.take (i+1))=ol h0 h1 (l.take i)++qo (if 0<i then h1 else h0) l[i]
 |x::l,0,hi=>by simp[ol]
 |x::l,i+1,hi=>by
  have hi':i<l.length:=by simpa using hi
  have ih:=GU h1 h1 l i hi'
  rw[List.take_succ_cons,List.take_succ_cons,ol,ol,ih,ite_self]
  simp
theorem GT(h:List af):∀(l:List aG) (i:Nat) (hi:i<l.length),oH h (l.take (i+1))=oH h (l.take i)++qo (h++l[i].Names) l[i].Body
 |x::l,0,hi=>by simp[oH,VV]
 |x::l,i+1,hi=>by
  have ih:=GT h l i (by simpa using hi)
  rw[List.take_succ_cons,List.take_succ_cons,oH,oH,ih]
  simp
mutual
theorem Ft(h:List af):∀(e:ag),(qo h e).length<=nE e
 |⟨o,n,k,ks,ps,as1,ts⟩=>by
  have h1:=Fu (h++kV o n ps false) (h++kV o n ps true) ks
  have h2:=J8 h as1
  rw[qo,nE,vau,vau]
  have h3:(if(mG ⟨o,n,k,ks,ps,as1,ts⟩&&!h.any fun x=>x==n)=true then[(⟨o,n,k,ks,ps,as1,ts⟩:ag)]else[]).length<=1:=by split<;>simp
  omega
theorem Up(h:List af):∀(a:aG),(GV h a).length<=nA a
 |⟨c,ns,b⟩=>by
  have h1:=Ft (h++ns) b
  rw[GV,nA];omega
theorem Fu(h0 h1:List af):∀(l:List ag),(ol h0 h1 l).length<=Br l
 |[]=>by simp[ol]
 |e::l=>by
  have h2:=Ft h0 e
  have h3:=Fu h1 h1 l
  rw[ol,Br,vau];omega
theorem J8(h:List af):∀(l:List aG),(oH h l).length<=Bq l
 |[]=>by simp[oH]
 |a::l=>by
  have h2:=Up h a
  have h3:=J8 h l
  rw[oH,Bq,vau];omega
end
theorem Uk(l:List ag)(i:Nat)(hi:i<l.length):Br (l.take (i+1))=Br (l.take i)+nE l[i]:=by
 have key:∀(a b:List ag),Br (a++b)=Br a+Br b:=by
  intro a b
  induction a with
  |nil=>simp[Br]
  |cons x a ih=>rw[vaM,Br,Br,ih];omega
 rw[vaz hi,key]
 simp[Br]
theorem OG(l:List ag)(i:Nat):Br (l.take i)<=Br l:=by
 have:∀(l:List ag) (i:Nat),Br (l.take i)<=Br l:=by
  intro l
  induction l with
  |nil=>intro i;simp
  |cons x l ih=>
   intro i
   cases i with
   |zero=>simp[Br]
   |succ i=>have:=ih i;simp only[List.take_succ_cons,Br];omega
 exact this l i
theorem Sc(l:List aG)(i:Nat)(hi:i<l.length):Bq (l.take (i+1))=Bq (l.take i)+nA l[i]:=by
 have key:∀(a b:List aG),Bq (a++b)=Bq a+Bq b:=by
  intro a b
  induction a with
  |nil=>simp[Bq]
  |cons x a ih=>rw[vaM,Bq,Bq,ih];omega
 rw[vaz hi,key]
 simp[Bq]
theorem OL(h:List af)(e:ag)(hh:h.length<9223372036854775808):(fD e).bind (fun r1=>if r1=true then(pA h e.Name).bind fun r4=>some (decide (r4<0))else some false)=some (mG e&&!h.any fun x=>x==e.Name):=by
 rw[B8,Lb _ _ hh]
 simp only[vaa,X2,RQ]
theorem Sr(e:ag)(h:List af)(m:List (af×Bool))(hq:h.length+nE e<=1073741824):j1 e h m=some (iO m ((qo h e).map (·.Name))):=by
 refine E8 (F:=je) (fun x=>nE x.1) (fun x=>x.2.1.length+nE x.1<=1073741824) (fun x=>iO x.2.2 ((qo x.2.1 x.1).map (·.Name))) (fun R x hx ih=>?_) (e,h,m) hq (xP (by unfold nh;show nE e<=_;omega))
 obtain⟨e,h,m⟩:=x
 have hq:h.length+nE e<=1073741824:=hx
 have hn:=Dj e
 have hpos:=M9 e
 have lk:=Fe e.Kids
 have la:=Fd e.Alts
 show fM (fun e hidden k2=>R (e,hidden,k2)) e h m=some (iO m ((qo h e).map (·.Name)))
 unfold fM iR iS
 rw[OL h e (by omega)]
 simp only[vaa]
 have hs:(if(mG e&&!h.any fun x=>x==e.Name)=true then(tb e m).bind fun r8=>some r8 else some m)=some (iO m ((vW h e).map (·.Name))):=by
  unfold vW
  by_cases hc:(mG e&&!h.any fun x=>x==e.Name)=true
  ·rw[vaw hc,vaw hc]
   unfold tb
   rw[sn _ _ (by simp)];rfl
  ·rw[vax hc,vax hc];rfl
 rw[hs]
 simp only[vaa]
 have g1:∀m0,fB (fun e hidden k2=>R (e,hidden,k2)) h e e.Kids (e.Kids.length:Int) 0 m0=some (iO m0 ((ol (h++kV e.Op e.Name e.Params false) (h++kV e.Op e.Name e.Params true) e.Kids).map (·.Name))):=fun m0=>by
  have g:=fT e.Kids.length (fun zz:Int×(List (af×Bool))=>cf (fun e hidden k2=>R (e,hidden,k2)) h e e.Kids (e.Kids.length:Int) zz.1 zz.2) (fun i=>((i:Int),iO m0 ((ol (h++kV e.Op e.Name e.Params false) (h++kV e.Op e.Name e.Params true) (e.Kids.take i)).map (·.Name)))) (iO m0 ((ol (h++kV e.Op e.Name e.Params false) (h++kV e.Op e.Name e.Params true) e.Kids).map (·.Name))) (fun i hi=>?_) ?_
  ·unfold fB;simpa[iO,ol]using g
  ·have hil:=Ou e.Op e.Name e.Params (decide (0<i))
   have hm:=Ff (vaG hi)
   show cf _ h e e.Kids (e.Kids.length:Int) (i:Int) _=_
   unfold cf
   rw[vaw (by simpa using hi),dg _ _ hi,vaa,rR _ (by omega),vaa,LT e i (by omega),vaa,lF (by omega),vaa]
   show(R _).bind _=_
   rw[ih (e.Kids[i],h++kV e.Op e.Name e.Params (decide (0<i)),_) (IT (vaG hi)) (by show(h++kV e.Op e.Name e.Params (decide (0<i))).length+nE e.Kids[i]<=1073741824;rw[vau];omega),vaa,GU _ _ _ _ hi,vaW,jh,co (by omega) (by omega)]
   by_cases h0:0<i<;>simp[h0]
  ·show cf _ h e e.Kids (e.Kids.length:Int) (e.Kids.length:Int) _=_
   unfold cf
   rw[vax (by simp),vaR]
 have g2:∀m0,fC (fun e hidden k2=>R (e,hidden,k2)) h e.Alts (e.Alts.length:Int) 0 m0=some (iO m0 ((oH h e.Alts).map (·.Name))):=fun m0=>by
  have g:=fT e.Alts.length (fun zz:Int×(List (af×Bool))=>ch (fun e hidden k2=>R (e,hidden,k2)) h e.Alts (e.Alts.length:Int) zz.1 zz.2) (fun i=>((i:Int),iO m0 ((oH h (e.Alts.take i)).map (·.Name)))) (iO m0 ((oH h e.Alts).map (·.Name))) (fun i hi=>?_) ?_
  ·unfold fC;simpa[iO,oH]using g
  ·have hm:=Cr (vaG hi)
   have hma:=L5 e.Alts[i]
   show ch _ h e.Alts (e.Alts.length:Int) (i:Int) _=_
   unfold ch
   rw[vaw (by simpa using hi),dg _ _ hi,vaa,rR _ (by omega),vaa,lF (by omega),vaa]
   show(R _).bind _=_
   rw[ih (e.Alts[i].Body,h++e.Alts[i].Names,_) (IM (vaG hi)) (by show(h++e.Alts[i].Names).length+nE e.Alts[i].Body<=1073741824;rw[vau];omega),vaa,GT _ _ _ hi,vaW,jh,co (by omega) (by omega)]
   rfl
  ·show ch _ h e.Alts (e.Alts.length:Int) (e.Alts.length:Int) _=_
   unfold ch
   rw[vax (by simp),vaR]
 rw[g1]
 simp only[vaa]
 rw[g2]
 simp only[vaa]
 rw[Q3,vaW,vaW,jh,jh]
def uf(e:ag):List af:=(qo [] e).map (·.Name)
theorem LO(e:ag):(uf e).length<=nE e:=by unfold uf;rw[vbb];exact Ft [] e
theorem OP(e:ag)(he:nE e<=nh):np e=some (vX (uf e)):=by
 have hB:nE e<=1073741824:=he
 have hl:=LO e
 unfold np
 rw[GR]
 simp only[vaa]
 rw[Sr e [] [] (by simpa using hB)]
 simp only[vaa]
 rw[show(qo [] e).map (·.Name)=uf e from rfl,G9 _ (by omega)]
 rfl
def tv(b:Bool)(l:List ag):List af:=(l.filter fun x=>!b||x.Op==5).map (·.Name)
theorem xh(b:Bool)(l m:List ag):tv b (l++m)=tv b l++tv b m:=by unfold tv;rw[List.filter_append,vaW]
theorem By(b:Bool)(l:List ag):(tv b l).length<=l.length:=by unfold tv;rw[vbb];exact vby _ _
theorem P8(e:ag)(h:List af)(m:List af)(hq:h.length+nE e<=1073741824)(hm:m.length+nE e<=1073741824):jG e h m=some (m++tv true (qo h e)):=by
 refine E8 (F:=iQ) (fun x=>nE x.1) (fun x=>x.2.1.length+nE x.1<=1073741824/\x.2.2.length+nE x.1<=1073741824) (fun x=>x.2.2++tv true (qo x.2.1 x.1)) (fun R x hx ih=>?_) (e,h,m) ⟨hq,hm⟩ (xP (by unfold nh;show nE e<=_;omega))
 obtain⟨e,h,m⟩:=x
 have hq:h.length+nE e<=1073741824:=hx.1
 have hm:m.length+nE e<=1073741824:=hx.2
 have hn:=Dj e
 have hpos:=M9 e
 have lk:=Fe e.Kids
 have la:=Fd e.Alts
 show fA (fun e hidden k0=>R (e,hidden,k0)) e h m=some (m++tv true (qo h e))
 unfold fA ip iq
 rw[OL h e (by omega)]
 simp only[vaa]
 have hs:(if(mG e&&!h.any fun x=>x==e.Name)=true then(qC e m).bind fun r8=>some r8 else some m)=some (m++tv true (vW h e)):=by
  unfold vW
  by_cases hc:(mG e&&!h.any fun x=>x==e.Name)=true
  ·rw[vaw hc,vaw hc]
   unfold qC
   by_cases h5:(e.Op==5)=true
   ·rw[vaw h5,lF (by simp;omega)];simp[tv,h5]
   ·rw[vax h5];simp[tv,h5]
  ·rw[vax hc,vax hc];simp[tv]
 rw[hs]
 simp only[vaa]
 have g1:∀m0:List af,m0.length+Br e.Kids<=1073741824->ff (fun e hidden k0=>R (e,hidden,k0)) h e e.Kids (e.Kids.length:Int) 0 m0=some (m0++tv true (ol (h++kV e.Op e.Name e.Params false) (h++kV e.Op e.Name e.Params true) e.Kids)):=fun m0 hm0=>by
  have g:=fT e.Kids.length (fun zz:Int×(List af)=>bZ (fun e hidden k0=>R (e,hidden,k0)) h e e.Kids (e.Kids.length:Int) zz.1 zz.2) (fun i=>((i:Int),m0++tv true (ol (h++kV e.Op e.Name e.Params false) (h++kV e.Op e.Name e.Params true) (e.Kids.take i)))) (m0++tv true (ol (h++kV e.Op e.Name e.Params false) (h++kV e.Op e.Name e.Params true) e.Kids)) (fun i hi=>?_) ?_
  ·unfold ff;simpa[tv,ol]using g
  ·have hil:=Ou e.Op e.Name e.Params (decide (0<i))
   have hm:=Ff (vaG hi)
   have ht:=Uk e.Kids i hi
   have ht2:=OG e.Kids (i+1)
   have hol:=Fu (h++kV e.Op e.Name e.Params false) (h++kV e.Op e.Name e.Params true) (e.Kids.take i)
   have hnl:=By true (ol (h++kV e.Op e.Name e.Params false) (h++kV e.Op e.Name e.Params true) (e.Kids.take i))
   show bZ _ h e e.Kids (e.Kids.length:Int) (i:Int) _=_
   unfold bZ
   rw[vaw (by simpa using hi),dg _ _ hi,vaa,rR _ (by omega),vaa,LT e i (by omega),vaa,lF (by omega),vaa]
   show(R _).bind _=_
   rw[ih (e.Kids[i],h++kV e.Op e.Name e.Params (decide (0<i)),_) (IT (vaG hi)) ⟨by show(h++kV e.Op e.Name e.Params (decide (0<i))).length+nE e.Kids[i]<=1073741824;rw[vau];omega,by show(m0++tv true (ol _ _ (e.Kids.take i))).length+nE e.Kids[i]<=1073741824;rw[vau];omega⟩,vaa,GU _ _ _ _ hi,xh,co (by omega) (by omega)]
   by_cases h0:0<i<;>simp[h0]
  ·show bZ _ h e e.Kids (e.Kids.length:Int) (e.Kids.length:Int) _=_
   unfold bZ
   rw[vax (by simp),vaR]
 have g2:∀m0:List af,m0.length+Bq e.Alts<=1073741824->fg (fun e hidden k0=>R (e,hidden,k0)) h e.Alts (e.Alts.length:Int) 0 m0=some (m0++tv true (oH h e.Alts)):=fun m0 hm0=>by
  have g:=fT e.Alts.length (fun zz:Int×(List af)=>b7 (fun e hidden k0=>R (e,hidden,k0)) h e.Alts (e.Alts.length:Int) zz.1 zz.2) (fun i=>((i:Int),m0++tv true (oH h (e.Alts.take i)))) (m0++tv true (oH h e.Alts)) (fun i hi=>?_) ?_
  ·unfold fg;simpa[tv,oH]using g
  ·have hm:=Cr (vaG hi)
   have hma:=L5 e.Alts[i]
   have ht:=Sc e.Alts i hi
   have ht2:=Ui e.Alts (i+1)
   have hol:=J8 h (e.Alts.take i)
   have hnl:=By true (oH h (e.Alts.take i))
   show b7 _ h e.Alts (e.Alts.length:Int) (i:Int) _=_
   unfold b7
   rw[vaw (by simpa using hi),dg _ _ hi,vaa,rR _ (by omega),vaa,lF (by omega),vaa]
   show(R _).bind _=_
   rw[ih (e.Alts[i].Body,h++e.Alts[i].Names,_) (IM (vaG hi)) ⟨by show(h++e.Alts[i].Names).length+nE e.Alts[i].Body<=1073741824;rw[vau];omega,by show(m0++tv true (oH h (e.Alts.take i))).length+nE e.Alts[i].Body<=1073741824;rw[vau];omega⟩,vaa,GT _ _ _ hi,xh,co (by omega) (by omega)]
   simp
  ·show b7 _ h e.Alts (e.Alts.length:Int) (e.Alts.length:Int) _=_
   unfold b7
   rw[vax (by simp),vaR]
 have hsl:=By true (vW h e)
 have hsl2:(vW h e).length<=1:=by unfold vW;split<;>simp
 have hol:=Fu (h++kV e.Op e.Name e.Params false) (h++kV e.Op e.Name e.Params true) e.Kids
 have hnl:=By true (ol (h++kV e.Op e.Name e.Params false) (h++kV e.Op e.Name e.Params true) e.Kids)
 rw[g1 _ (by rw[vau];omega)]
 simp only[vaa]
 rw[g2 _ (by rw[vau,vau];omega)]
 simp only[vaa]
 rw[Q3,xh,xh,vch,vch]
theorem Sq(e:ag)(he:nE e<=nh):uT e=some (tv true (qo [] e)):=by
 have hB:nE e<=1073741824:=he
 unfold uT
 rw[P8 e [] [] (by simpa using hB) (by simpa using hB)]
 rfl
abbrev NK:=af->List af->af×List af
def pT(fr:NK):List af->List ac->List af->List af×List ac×List af
 |[],sc,u=>([],sc,u)
 |n::l,sc,u=>((fr n u).1::(pT fr l (sc++[⟨n,(fr n u).1⟩]) (fr n u).2).1,(pT fr l (sc++[⟨n,(fr n u).1⟩]) (fr n u).2).2)
def yt(sc:List ac)(s:af):Option af:=(sc.reverse.find? fun p=>p.old==s).map (·.new)
def CD(fe:af->af)(fr:NK)(o:Int)(n:af)(sc:List ac)(u:List af):af×List ac×List af:=
 if(o==3||o==5)=true then((yt sc n).getD (fe n),sc,u)else if(o==7)=true then((fr n u).1,sc++[⟨n,(fr n u).1⟩],(fr n u).2)else(n,sc,u)
def SG(ps:List ax)(ns:List af):List ax:=ps.zipWith (fun p n=>⟨n,p.Type_⟩) ns
def ya(fr:NK)(t:Bool)(ps:List ax)(sc:List ac)(u:List af):List ax×List ac×List af:=
 if t=true then(SG ps (pT fr (ps.map (·.Name)) sc u).1,(pT fr (ps.map (·.Name)) sc u).2)else(ps,sc,u)
mutual
def Ik(fe:af->af)(fr:NK):ag->List ac->List af->ag×List af
 |⟨o,n,k,ks,ps,as1,ts⟩,sc,u=>
  let a:=CD fe fr o n sc u
  let b:=ya fr (o==6) ps a.2.1 a.2.2
  let c:=HD fe fr ks (if(o==7)=true then sc else b.2.1) b.2.1 b.2.2
  let d:=Gh fe fr as1 sc c.2
  (⟨o,a.1,k,c.1,b.1,d.1,ts⟩,d.2)
def Pu(fe:af->af)(fr:NK):aG->List ac->List af->aG×List af
 |⟨c,ns,b⟩,sc,u=>
  let a:=pT fr ns sc u
  let r:=Ik fe fr b a.2.1 a.2.2
  (⟨c,a.1,r.1⟩,r.2)
def HD(fe:af->af)(fr:NK):List ag->List ac->List ac->List af->List ag×List af
 |[],s0,s1,u=>([],u)
 |e::l,s0,s1,u=>
  let a:=Ik fe fr e s0 u
  let b:=HD fe fr l s1 s1 a.2
  (a.1::b.1,b.2)
def Gh(fe:af->af)(fr:NK):List aG->List ac->List af->List aG×List af
 |[],sc,u=>([],u)
 |x::l,sc,u=>
  let a:=Pu fe fr x sc u
  let b:=Gh fe fr l sc a.2
  (a.1::b.1,b.2)
end
section
variable(fe:af->af)(fr:NK)
abbrev HC(o:Int)(n:af)(ps:List ax)(sc:List ac)(u:List af):=ya fr (o==6) ps (CD fe fr o n sc u).2.1 (CD fe fr o n sc u).2.2
abbrev UX(o:Int)(n:af)(ps:List ax)(sc:List ac)(u:List af):=if(o==7)=true then sc else(HC fe fr o n ps sc u).2.1
abbrev Ti(o:Int)(n:af)(ps:List ax)(ks:List ag)(sc:List ac)(u:List af):=HD fe fr ks (UX fe fr o n ps sc u) (HC fe fr o n ps sc u).2.1 (HC fe fr o n ps sc u).2.2
theorem MB(o:Int)(n:af)(k:Int)(ks:List ag)(ps:List ax)(as1:List aG)(ts:List aj)(sc:List ac)(u:List af):Ik fe fr ⟨o,n,k,ks,ps,as1,ts⟩ sc u=(⟨o,(CD fe fr o n sc u).1,k,(Ti fe fr o n ps ks sc u).1,(HC fe fr o n ps sc u).1,(Gh fe fr as1 sc (Ti fe fr o n ps ks sc u).2).1,ts⟩,(Gh fe fr as1 sc (Ti fe fr o n ps ks sc u).2).2):=by
 rw[Ik]
theorem WR(e:ag)(sc:List ac)(u:List af):Ik fe fr e sc u=(⟨e.Op,(CD fe fr e.Op e.Name sc u).1,e.N,(Ti fe fr e.Op e.Name e.Params e.Kids sc u).1,(HC fe fr e.Op e.Name e.Params sc u).1,(Gh fe fr e.Alts sc (Ti fe fr e.Op e.Name e.Params e.Kids sc u).2).1,e.Types⟩,(Gh fe fr e.Alts sc (Ti fe fr e.Op e.Name e.Params e.Kids sc u).2).2):=by
 obtain⟨o,n,k,ks,ps,as1,ts⟩:=e
 rw[MB];rfl
theorem MC(c:af)(ns:List af)(b:ag)(sc:List ac)(u:List af):Pu fe fr ⟨c,ns,b⟩ sc u=(⟨c,(pT fr ns sc u).1,(Ik fe fr b (pT fr ns sc u).2.1 (pT fr ns sc u).2.2).1⟩,(Ik fe fr b (pT fr ns sc u).2.1 (pT fr ns sc u).2.2).2):=by
 rw[Pu]
theorem WU(a:aG)(sc:List ac)(u:List af):Pu fe fr a sc u=(⟨a.Con,(pT fr a.Names sc u).1,(Ik fe fr a.Body (pT fr a.Names sc u).2.1 (pT fr a.Names sc u).2.2).1⟩,(Ik fe fr a.Body (pT fr a.Names sc u).2.1 (pT fr a.Names sc u).2.2).2):=by
 obtain⟨c,ns,b⟩:=a
 rw[MC];rfl
theorem Cg(s0 s1:List ac)(u:List af):HD fe fr [] s0 s1 u=([],u):=by rw[HD]
theorem vH(e:ag)(l:List ag)(s0 s1:List ac)(u:List af):HD fe fr (e::l) s0 s1 u=((Ik fe fr e s0 u).1::(HD fe fr l s1 s1 (Ik fe fr e s0 u).2).1,(HD fe fr l s1 s1 (Ik fe fr e s0 u).2).2):=by rw[HD]
theorem Ce(sc:List ac)(u:List af):Gh fe fr [] sc u=([],u):=by rw[Gh]
theorem vG(x:aG)(l:List aG)(sc:List ac)(u:List af):Gh fe fr (x::l) sc u=((Pu fe fr x sc u).1::(Gh fe fr l sc (Pu fe fr x sc u).2).1,(Gh fe fr l sc (Pu fe fr x sc u).2).2):=by rw[Gh]
theorem DT:∀(l m:List af) (sc:List ac) (u:List af),pT fr (l++m) sc u=((pT fr l sc u).1++(pT fr m (pT fr l sc u).2.1 (pT fr l sc u).2.2).1,(pT fr m (pT fr l sc u).2.1 (pT fr l sc u).2.2).2)
 |[],m,sc,u=>rfl
 |n::l,m,sc,u=>by
  rw[vaM,pT,DT l m]
  rfl
theorem Th(l:List af)(i:Nat)(h:i<l.length)(sc:List ac)(u:List af):pT fr (l.take (i+1)) sc u=((pT fr (l.take i) sc u).1++[(fr l[i] (pT fr (l.take i) sc u).2.2).1],(pT fr (l.take i) sc u).2.1++[⟨l[i],(fr l[i] (pT fr (l.take i) sc u).2.2).1⟩],(fr l[i] (pT fr (l.take i) sc u).2.2).2):=by
 rw[vaz h,DT]
 rfl
theorem NV:∀(l:List ag) (i:Nat) (h:i<l.length) (s0 s1:List ac) (u:List af),HD fe fr (l.take (i+1)) s0 s1 u=((HD fe fr (l.take i) s0 s1 u).1++[(Ik fe fr l[i] (if 0<i then s1 else s0) (HD fe fr (l.take i) s0 s1 u).2).1],(Ik fe fr l[i] (if 0<i then s1 else s0) (HD fe fr (l.take i) s0 s1 u).2).2)
 |x::l,0,h,s0,s1,u=>by
  simp only[List.take_succ_cons,List.take_zero,vH,Cg]
  rfl
 |x::l,i+1,h,s0,s1,u=>by
  have ih:=NV l i (by simpa using h) s1 s1 (Ik fe fr x s0 u).2
  rw[List.take_succ_cons,List.take_succ_cons,vH,vH,ih,ite_self]
  simp
theorem NU:∀(l:List aG) (i:Nat) (h:i<l.length) (sc:List ac) (u:List af),Gh fe fr (l.take (i+1)) sc u=((Gh fe fr (l.take i) sc u).1++[(Pu fe fr l[i] sc (Gh fe fr (l.take i) sc u).2).1],(Pu fe fr l[i] sc (Gh fe fr (l.take i) sc u).2).2)
 |x::l,0,h,sc,u=>by
  simp only[List.take_succ_cons,List.take_zero,vG,Ce]
  rfl
 |x::l,i+1,h,sc,u=>by
  have ih:=NU l i (by simpa using h) sc (Pu fe fr x sc u).2
  rw[List.take_succ_cons,List.take_succ_cons,vG,vG,ih]
  simp
theorem Cf:∀(l:List af) (sc:List ac) (u:List af),(pT fr l sc u).1.length=l.length
 |[],sc,u=>rfl
 |n::l,sc,u=>by rw[pT];simp only[vaF];rw[Cf l]
theorem IN:∀(l:List af) (sc:List ac) (u:List af),(pT fr l sc u).2.1.map (·.old)=sc.map (·.old)++l
 |[],sc,u=>by simp[pT]
 |n::l,sc,u=>by rw[pT];simp only[];rw[IN l];simp
theorem MA:∀(l:List af) (sc:List ac) (u:List af),(pT fr l sc u).2.1.map (·.new)=sc.map (·.new)++(pT fr l sc u).1
 |[],sc,u=>by simp[pT]
 |n::l,sc,u=>by rw[pT];simp only[];rw[MA l];simp
theorem Ju(l:List af)(sc:List ac)(u:List af):(pT fr l sc u).2.1.length=sc.length+l.length:=by
 have:=va9 List.length (IN fr l sc u)
 simpa using this
theorem Kp:∀(ps:List ax) (ns:List af),ns.length=ps.length->(SG ps ns).map (·.Name)=ns
 |[],[],_=>rfl
 |p::ps,n::ns,h=>by
  have:=Kp ps ns (by simpa using h)
  unfold SG at *
  rw[List.zipWith_cons_cons,vaC,this]
 |[],n::ns,h=>by simp at h
 |p::ps,[],h=>by simp at h
theorem UP(ps:List ax)(ns:List af)(h:ns.length=ps.length):(SG ps ns).length=ps.length:=by unfold SG;rw[List.length_zipWith,h];simp
theorem Rw(ps:List ax)(sc:List ac)(u:List af):(ya fr true ps sc u).1.map (·.Name)=(pT fr (ps.map (·.Name)) sc u).1:=by
 unfold ya
 rw[vaw rfl]
 exact Kp ps _ (by rw[Cf];simp)
theorem QE(t:Bool)(ps:List ax)(sc:List ac)(u:List af):(ya fr t ps sc u).1.length=ps.length:=by
 unfold ya
 split
 ·exact UP ps _ (by rw[Cf];simp)
 ·rfl
theorem NX(t:Bool)(ps:List ax)(sc:List ac)(u:List af):(ya fr t ps sc u).2.1.length<=sc.length+ps.length:=by
 unfold ya
 split
 ·have:=Ju fr (ps.map (·.Name)) sc u;simp at this;simp only[];omega
 ·simp
theorem Tq(o:Int)(n:af)(sc:List ac)(u:List af):(CD fe fr o n sc u).2.1.length<=sc.length+1:=by
 unfold CD
 split
 ·simp
 ·split<;>simp
theorem TT(o:Int)(n:af)(ps:List ax)(sc:List ac)(u:List af):(UX fe fr o n ps sc u).map (·.old)=sc.map (·.old)++kV o n ps false/\(HC fe fr o n ps sc u).2.1.map (·.old)=sc.map (·.old)++kV o n ps true/\
  (UX fe fr o n ps sc u).map (·.new)=sc.map (·.new)++kV o (CD fe fr o n sc u).1 (HC fe fr o n ps sc u).1 false/\(HC fe fr o n ps sc u).2.1.map (·.new)=sc.map (·.new)++kV o (CD fe fr o n sc u).1 (HC fe fr o n ps sc u).1 true:=by
 by_cases h7:o=7
 ·subst h7
  simp[UX,HC,CD,ya,kV]
 ·have e7:(o==7)=false:=by simpa using h7
  by_cases h6:o=6
  ·subst h6
   have h1:=IN fr (ps.map (·.Name)) sc u
   have h2:=MA fr (ps.map (·.Name)) sc u
   have h3:=Rw fr ps sc u
   have e1:CD fe fr 6 n sc u=(n,sc,u):=by unfold CD;simp
   have e2:(ya fr true ps sc u).2=(pT fr (ps.map (·.Name)) sc u).2:=by unfold ya;simp
   have e4:(6==(6:Int))=true:=rfl
   unfold UX HC kV
   rw[e1,e4]
   simp only[e7,Bool.false_and,vaY,if_false,if_true,e2,h3]
   exact⟨h1,h1,h2,h2⟩
  ·have e6:(o==6)=false:=by simpa using h6
   unfold UX HC CD ya kV
   simp only[e7,e6,Bool.false_and,vaY,if_false,vbh]
   split<;>exact⟨rfl,rfl,rfl,rfl⟩
end
section
variable{fe:af->af}{fr:NK}
theorem QB{I:List af->Prop}(hI:∀s u,I u->I (fr s u).2):∀(l:List af) (sc:List ac) (u:List af),I u->I (pT fr l sc u).2.2
 |[],sc,u,h=>h
 |n::l,sc,u,h=>by rw[pT];exact QB hI l _ _ (hI n u h)
theorem To{I:List af->Prop}(hI:∀s u,I u->I (fr s u).2)(o:Int)(n:af)(sc:List ac)(u:List af)(h:I u):I (CD fe fr o n sc u).2.2:=by
 unfold CD
 split
 ·exact h
 ·split
  ·exact hI n u h
  ·exact h
theorem Tk{I:List af->Prop}(hI:∀s u,I u->I (fr s u).2)(o:Int)(n:af)(ps:List ax)(sc:List ac)(u:List af)(h:I u):I (HC fe fr o n ps sc u).2.2:=by
 unfold HC ya
 split
 ·exact QB hI _ _ _ (To hI _ _ _ _ h)
 ·exact To hI _ _ _ _ h
mutual
theorem Tj{I:List af->Prop}(hI:∀s u,I u->I (fr s u).2):∀(e:ag) (sc:List ac) (u:List af),I u->I (Ik fe fr e sc u).2
 |⟨o,n,k,ks,ps,as1,ts⟩,sc,u,h=>by
  rw[MB]
  exact Tf hI as1 _ _ (QC hI ks _ _ _ (Tk hI o n ps sc u h))
theorem Wp{I:List af->Prop}(hI:∀s u,I u->I (fr s u).2):∀(a:aG) (sc:List ac) (u:List af),I u->I (Pu fe fr a sc u).2
 |⟨c,ns,b⟩,sc,u,h=>by
  rw[MC]
  exact Tj hI b _ _ (QB hI ns sc u h)
theorem QC{I:List af->Prop}(hI:∀s u,I u->I (fr s u).2):∀(l:List ag) (s0 s1:List ac) (u:List af),I u->I (HD fe fr l s0 s1 u).2
 |[],s0,s1,u,h=>by rw[Cg];exact h
 |e::l,s0,s1,u,h=>by
  rw[vH]
  exact QC hI l _ _ _ (Tj hI e _ _ h)
theorem Tf{I:List af->Prop}(hI:∀s u,I u->I (fr s u).2):∀(l:List aG) (sc:List ac) (u:List af),I u->I (Gh fe fr l sc u).2
 |[],sc,u,h=>by rw[Ce];exact h
 |x::l,sc,u,h=>by
  rw[vG]
  exact Tf hI l _ _ (Wp hI x _ _ h)
end
def CM(G:af->Prop)(sc:List ac):Prop:=∀p∈sc,∀t,G t->p.new=t->p.old=t
theorem Mb{G:af->Prop}{sc:List ac}(h:CM G sc){p:ac}(hp:∀t,G t->p.new=t->p.old=t):CM G (sc++[p]):=fun q hq=>by
 rcases vam.1 hq with hq|hq
 ·exact h q hq
 ·rw[va4.1 hq];exact hp
theorem Ps{G:af->Prop}{I:List af->Prop}(hI:∀s u,I u->I (fr s u).2)(hG:∀s u,I u->∀t,G t->(fr s u).1=t->s=t):∀(l:List af) (sc:List ac) (u:List af),CM G sc->I u->CM G (pT fr l sc u).2.1
 |[],sc,u,h,_=>h
 |n::l,sc,u,h,hu=>by rw[pT];exact Ps hI hG l _ _ (Mb h (hG n u hu)) (hI n u hu)
theorem Tp{G:af->Prop}{I:List af->Prop}(hG:∀s u,I u->∀t,G t->(fr s u).1=t->s=t)(o:Int)(n:af)(sc:List ac)(u:List af)(h:CM G sc)(hu:I u):CM G (CD fe fr o n sc u).2.1:=by
 unfold CD
 split
 ·exact h
 ·split
  ·exact Mb h (hG n u hu)
  ·exact h
theorem Tl{G:af->Prop}{I:List af->Prop}(hI:∀s u,I u->I (fr s u).2)(hG:∀s u,I u->∀t,G t->(fr s u).1=t->s=t)(o:Int)(n:af)(ps:List ax)(sc:List ac)(u:List af)(h:CM G sc)(hu:I u):CM G (HC fe fr o n ps sc u).2.1:=by
 unfold HC ya
 split
 ·exact Ps hI hG _ _ _ (Tp hG _ _ _ _ h hu) (To hI _ _ _ _ hu)
 ·exact Tp hG _ _ _ _ h hu
theorem WT{G:af->Prop}{I:List af->Prop}(hI:∀s u,I u->I (fr s u).2)(hG:∀s u,I u->∀t,G t->(fr s u).1=t->s=t)(o:Int)(n:af)(ps:List ax)(sc:List ac)(u:List af)(h:CM G sc)(hu:I u):CM G (UX fe fr o n ps sc u):=by
 unfold UX
 split
 ·exact h
 ·exact Tl hI hG o n ps sc u h hu
theorem P1{sc:List ac}{s:af}(h:((sc.map (·.old)).any fun x=>x==s)=false):yt sc s=none:=by
 unfold yt
 rw[vcw,vbQ]
 intro p hp hc
 rw[vbd]at h
 exact h p.old (vag.2 ⟨p,vbx.1 hp,rfl⟩) hc
theorem Sa{sc:List ac}{s t:af}(h:yt sc s=some t):∃p∈sc,p.old=s/\p.new=t:=by
 unfold yt at h
 rw[vaN]at h
 obtain⟨p,hp,rfl⟩:=h
 have h1:=va8 hp
 have h2:=vbA hp
 exact⟨p,vbx.1 h1,by simpa using h2,rfl⟩
theorem P2{sc:List ac}{s:af}(h:((sc.map (·.old)).any fun x=>x==s)=true):∃t,yt sc s=some t:=by
 cases hl:yt sc s with
 |some t=>exact⟨t,rfl⟩
 |none=>
  unfold yt at hl
  rw[vcw,vbQ]at hl
  rw[vbt]at h
  obtain⟨x,hx,hc⟩:=h
  obtain⟨p,hp,rfl⟩:=vag.1 hx
  exact absurd hc (hl p (vbx.2 hp))
theorem Ri(h:List af)(e:ag):(vW h e).map (·.Name)=cond (mG e&&!h.any fun x=>x==e.Name) [e.Name] []:=by
 by_cases hc:(mG e&&!h.any fun x=>x==e.Name)=true
 ·rw[hc];unfold vW;rw[vaw hc];rfl
 ·have hc':(mG e&&!h.any fun x=>x==e.Name)=false:=by simpa using hc
  rw[hc'];unfold vW;rw[vax hc];rfl
theorem Wg{G:af->Prop}(hfe:∀s,G s->fe s=s)(o:Int)(n:af)(k k2:Int)(ks ks2:List ag)(ps ps2:List ax)(as1 as2:List aG)(ts ts2:List aj)(sc:List ac)(u:List af)(h:CM G sc)
  (hg:∀x∈vW (sc.map (·.old)) ⟨o,n,k,ks,ps,as1,ts⟩,G x.Name):(vW (sc.map (·.new)) ⟨o,(CD fe fr o n sc u).1,k2,ks2,ps2,as2,ts2⟩).map (·.Name)=(vW (sc.map (·.old)) ⟨o,n,k,ks,ps,as1,ts⟩).map (·.Name):=by
 have hg':(mG ⟨o,n,k,ks,ps,as1,ts⟩&&!(sc.map (·.old)).any fun x=>x==n)=true->G n:=fun hc=>hg ⟨o,n,k,ks,ps,as1,ts⟩ (by
  have hc2:(mG ⟨o,n,k,ks,ps,as1,ts⟩&&!(sc.map (·.old)).any fun x=>x==(⟨o,n,k,ks,ps,as1,ts⟩:ag).Name)=true:=hc
  unfold vW;rw[vaw hc2];exact va4.2 rfl)
 have hi:mG ⟨o,n,k,ks,ps,as1,ts⟩=(o==3||o==5):=rfl
 rw[Ri,Ri]
 show cond ((o==3||o==5)&&!(sc.map (·.new)).any fun x=>x==(CD fe fr o n sc u).1) [(CD fe fr o n sc u).1] []=cond ((o==3||o==5)&&!(sc.map (·.old)).any fun x=>x==n) [n] []
 rw[hi]at hg'
 by_cases hv:(o==3||o==5)=true
 ·have e1:(CD fe fr o n sc u).1=(yt sc n).getD (fe n):=by unfold CD;rw[vaw hv]
  rw[e1,hv]
  rw[hv]at hg'
  simp only[Bool.true_and]at hg' ⊢
  cases ha:(sc.map (·.old)).any fun x=>x==n with
  |true=>
   obtain⟨t,ht⟩:=P2 ha
   obtain⟨p,hp,_,rfl⟩:=Sa ht
   have hb:((sc.map (·.new)).any fun x=>x==p.new)=true:=vbt.2 ⟨p.new,vag.2 ⟨p,hp,rfl⟩,by simp⟩
   rw[ht,Option.getD_some,hb];rfl
  | false =>
   rw[ha]at hg'
   have hG:G n:=hg' rfl
   have hb:((sc.map (·.new)).any fun x=>x==n)=false:=by
    rw[vbd]
    intro x hx hc
    obtain⟨p,hp,rfl⟩:=vag.1 hx
    have h1:=h p hp n hG (by simpa using hc)
    rw[vbd]at ha
    exact ha p.old (vag.2 ⟨p,hp,rfl⟩) (by simpa using h1)
   rw[P1 ha,Option.getD_none,hfe n hG,hb]
 ·have hv':(o==3||o==5)=false:=by simpa using hv
  rw[hv'];rfl
mutual
theorem Nc{G:af->Prop}{I:List af->Prop}(hfe:∀s,G s->fe s=s)(hI:∀s u,I u->I (fr s u).2)(hG:∀s u,I u->∀t,G t->(fr s u).1=t->s=t):∀(e:ag) (sc:List ac) (u:List af),CM G sc->I u->(∀x∈qo (sc.map (·.old)) e,G x.Name)->(qo (sc.map (·.new)) (Ik fe fr e sc u).1).map (·.Name)=(qo (sc.map (·.old)) e).map (·.Name)
 |⟨o,n,k,ks,ps,as1,ts⟩,sc,u,h,hu,hg=>by
  obtain⟨h1,h2,h3,h4⟩:=TT fe fr o n ps sc u
  rw[qo,<-h1,<-h2]at hg
  rw[MB,qo,qo,<-h1,<-h2,<-h3,<-h4]
  have g1:=Wg (fr:=fr) hfe o n k k ks (Ti fe fr o n ps ks sc u).1 ps (HC fe fr o n ps sc u).1 as1 (Gh fe fr as1 sc (Ti fe fr o n ps ks sc u).2).1 ts ts sc u h (fun x hx=>hg x (vam.2 (.inl hx)))
  have g2:=Q5 hfe hI hG ks (UX fe fr o n ps sc u) (HC fe fr o n ps sc u).2.1 (HC fe fr o n ps sc u).2.2 (WT hI hG o n ps sc u h hu) (Tl hI hG o n ps sc u h hu) (Tk hI o n ps sc u hu) (fun x hx=>hg x (vam.2 (.inr (vam.2 (.inl hx)))))
  have g3:=Q4 hfe hI hG as1 sc (Ti fe fr o n ps ks sc u).2 h (QC hI ks _ _ _ (Tk hI o n ps sc u hu)) (fun x hx=>hg x (vam.2 (.inr (vam.2 (.inr hx)))))
  rw[vaW,vaW,vaW,vaW,g2,g3]
  congr 1
theorem VW{G:af->Prop}{I:List af->Prop}(hfe:∀s,G s->fe s=s)(hI:∀s u,I u->I (fr s u).2)(hG:∀s u,I u->∀t,G t->(fr s u).1=t->s=t):∀(a:aG) (sc:List ac) (u:List af),CM G sc->I u->(∀x∈GV (sc.map (·.old)) a,G x.Name)->(GV (sc.map (·.new)) (Pu fe fr a sc u).1).map (·.Name)=(GV (sc.map (·.old)) a).map (·.Name)
 |⟨c,ns,b⟩,sc,u,h,hu,hg=>by
  have h1:=IN fr ns sc u
  have h2:=MA fr ns sc u
  rw[GV,<-h1]at hg
  rw[MC,GV,GV,<-h1,<-h2]
  exact Nc hfe hI hG b _ _ (Ps hI hG ns sc u h hu) (QB hI ns sc u hu) hg
theorem Q5{G:af->Prop}{I:List af->Prop}(hfe:∀s,G s->fe s=s)(hI:∀s u,I u->I (fr s u).2)(hG:∀s u,I u->∀t,G t->(fr s u).1=t->s=t):∀(l:List ag) (s0 s1:List ac) (u:List af),CM G s0->CM G s1->I u->(∀x∈ol (s0.map (·.old)) (s1.map (·.old)) l,G x.Name)->(ol (s0.map (·.new)) (s1.map (·.new)) (HD fe fr l s0 s1 u).1).map (·.Name)=(ol (s0.map (·.old)) (s1.map (·.old)) l).map (·.Name)
 |[],s0,s1,u,_,_,_,_=>by rw[Cg,ol,ol]
 |e::l,s0,s1,u,h0,h1,hu,hg=>by
  rw[ol]at hg
  rw[vH,ol,ol,vaW,vaW,Nc hfe hI hG e s0 u h0 hu (fun x hx=>hg x (vam.2 (.inl hx))),Q5 hfe hI hG l s1 s1 _ h1 h1 (Tj hI e s0 u hu) (fun x hx=>hg x (vam.2 (.inr hx)))]
theorem Q4{G:af->Prop}{I:List af->Prop}(hfe:∀s,G s->fe s=s)(hI:∀s u,I u->I (fr s u).2)(hG:∀s u,I u->∀t,G t->(fr s u).1=t->s=t):∀(l:List aG) (sc:List ac) (u:List af),CM G sc->I u->(∀x∈oH (sc.map (·.old)) l,G x.Name)->(oH (sc.map (·.new)) (Gh fe fr l sc u).1).map (·.Name)=(oH (sc.map (·.old)) l).map (·.Name)
 |[],sc,u,_,_,_=>by rw[Ce,oH,oH]
 |x::l,sc,u,h,hu,hg=>by
  rw[oH]at hg
  rw[vG,oH,oH,vaW,vaW,VW hfe hI hG x sc u h hu (fun y hy=>hg y (vam.2 (.inl hy))),Q4 hfe hI hG l sc _ h (Wp hI x sc u hu) (fun y hy=>hg y (vam.2 (.inr hy)))]
end
end
end Go.Proofs.YtkdahfeiedaahaaGreatDoor
namespace Go.Proofs.YtkdahfeiedaahaaGreatDoor
open Go
set_option linter.unusedVariables false
set_option linter.unusedSimpArgs false
section
variable{fe:af->af}{fr:NK}
mutual
theorem Tu:∀(e:ag) (sc:List ac) (u:List af),nE (Ik fe fr e sc u).1=nE e
 |⟨o,n,k,ks,ps,as1,ts⟩,sc,u=>by
  have h1:=Tm ks (UX fe fr o n ps sc u) (HC fe fr o n ps sc u).2.1 (HC fe fr o n ps sc u).2.2
  have h2:=Tg as1 sc (Ti fe fr o n ps ks sc u).2
  have h3:=QE fr (o==6) ps (CD fe fr o n sc u).2.1 (CD fe fr o n sc u).2.2
  rw[MB,nE,nE,h2,h3]
  congr 4
theorem WV:∀(a:aG) (sc:List ac) (u:List af),nA (Pu fe fr a sc u).1=nA a
 |⟨c,ns,b⟩,sc,u=>by
  rw[MC,nA,nA,Cf,Tu b]
theorem Tm:∀(l:List ag) (s0 s1:List ac) (u:List af),Br (HD fe fr l s0 s1 u).1=Br l
 |[],s0,s1,u=>by rw[Cg]
 |e::l,s0,s1,u=>by
  rw[vH,Br,Br,Tu e,Tm l]
theorem Tg:∀(l:List aG) (sc:List ac) (u:List af),Bq (Gh fe fr l sc u).1=Bq l
 |[],sc,u=>by rw[Ce]
 |x::l,sc,u=>by
  rw[vG,Bq,Bq,WV x,Tg l]
end
end
def JJ(u:List af)(s:af):af:=if u.contains s=true then tI u s (u.length+1) 1 else s
theorem Bj(u:List af)(s:af)(j:Nat):∀(k n:Nat),(∃N,n<=N/\N<n+k/\s++Lib.decDigits N∉u)->tI u s (k+j) n=tI u s k n/\tI u s k n∉u
 |0,n,⟨N,h1,h2,_⟩=>by omega
 | k + 1,n,⟨N,h1,h2,h3⟩ => by
  rw[show k+1+j=(k+j)+1 by omega,tI,tI]
  by_cases hc:u.contains (s++Lib.decDigits n)=true
  ·rw[vaw hc,vaw hc]
   have hne:n≠N:=by
    rintro rfl
    exact h3 (by simpa using hc)
   exact Bj u s j k (n+1) ⟨N,by omega,by omega,h3⟩
  ·rw[vax hc,vax hc]
   exact⟨rfl,by simpa using hc⟩
theorem PQ(u:List af)(s:af):JJ u s∉u:=by
 unfold JJ
 split
 ·obtain⟨N,h1,h2,h3⟩:=JK u s
  exact(Bj u s 0 (u.length+1) 1 ⟨N,h1,by omega,h3⟩).2
 ·rename_i h
  simpa using h
theorem RR{u:List af}(h:u.length<=100000000)(s:af):Gw u s=JJ u s:=by
 obtain⟨N,h1,h2,h3⟩:=JK u s
 have:=(Bj u s (100000001 - (u.length+1)) (u.length+1) 1 ⟨N,h1,by omega,h3⟩).1
 rw[show u.length+1+(100000001 - (u.length+1))=100000001 by omega]at this
 unfold Gw JJ
 rw[this]
theorem Mo(nm:af):∀(l:List ac) (s:af×Bool),Qs (yn nm) l s=some (match l.find? (fun p=>p.old==nm)with|some p=>(false,(p.new,true))|none=>(true,s))
 |[],s=>rfl
 |p::l,s=>by
  rw[Qs,List.find?_cons]
  unfold yn
  cases h:(p.old==nm)with
  |true=>rfl
  |false=>exact Mo nm l s
theorem VJ(sc:List ac)(nm:af)(h:sc.length<4611686018427387904):pS sc nm=some ((yt sc nm).getD [],(yt sc nm).isSome):=by
 unfold pS yt
 rw[vaw (by simpa using h),Mo]
 cases sc.reverse.find? (fun p=>p.old==nm)<;>rfl
theorem yl{R:am->Option am}(l:List am)(hl:l.length<=1073741824)(h:∀x∈l,R x=some x):gA R l=some l:=by
 unfold gA ky
 rw[L3 l hl (fun i s=>(s,i)) (fun zz:(List am)×Int=>jC R l (l.length:Int) zz.1 zz.2) R id id (fun _ _=>rfl) h]
 simp
theorem EZ(p:am)(hp:nP p<=nh):lm p=some p:=by
 refine E8 (F:=pE) nP (fun x=>nP x<=nh) id (fun R x hx ih=>?_) p hp (xP hp)
 have hlen:=T8 x
 show lN (fun p=>R p) x=some x
 unfold lN
 rw[yl x.Kids (by unfold nh at hx;omega) (fun y hy=>ih y (T6 hy) (vay (vb4 (T6 hy)) hx)),vaa,LI]
theorem E1{R:List aj->Option (List aj)}(t:aj)(ht:Us t)(hR:R t.Args=some t.Args):eT R t=some t:=by
 have h1:=Cn t
 have h2:Gy t<=1073741824:=ht.1
 obtain⟨a1,a2,_⟩:=(NS _ t).1 ht.2
 unfold eT
 rw[hR,rR _ (by omega),EZ _ a1,yl _ (by omega) (fun x hx=>EZ x (a2 x hx))]
 simp only[vaa,LJ]
theorem Dc(l:List aj)(h:kD l<=nh/\∀t∈l,Us t):cG l=some l:=by
 refine E8 (F:=lp) kD (fun l=>kD l<=nh/\∀t∈l,Us t) id (fun R l hx ih=>?_) l h (xP h.1)
 have hB:kD l<=1073741824:=hx.1
 have hl:=LY l
 show iM (fun a=>R a) l=some l
 unfold iM kz
 have hone:∀t∈l,eT (fun a=>R a) t=some t:=fun t ht=>by
  have h1:=Gz ht
  have h2:=Cn t
  exact E1 t (hx.2 t ht) (ih t.Args (by omega) ⟨by unfold nh;omega,fun a ha=>Q6 (hx.2 t ht) ha⟩)
 rw[L3 l (by omega) (fun i s=>(s,i)) (fun zz:(List aj)×Int=>jE (fun a=>R a) l (l.length:Int) zz.1 zz.2) (eT fun a=>R a) id id (fun _ _=>rfl) hone]
 simp
theorem E0(t:aj)(ht:Us t):eT cG t=some t:=by
 have h1:=Cn t
 have h2:Gy t<=1073741824:=ht.1
 exact E1 t ht (Dc t.Args ⟨by unfold nh;omega,fun a ha=>Q6 ht ha⟩)
theorem SP{e:ag}(h:OM e):cG e.Types=some e.Types:=by
 refine Dc _ ⟨?_,fun t ht=>Ur h ht⟩
 have h1:=JU e.Types
 have h2:=tw e
 have h3:ir (ae e)<=nh:=h
 omega
def wU(e:ag):List af:=(if(mG e||e.Op==7)=true then[e.Name]else[])++((if(e.Op==6)=true then e.Params.map (·.Name)else[])++e.Alts.flatMap (·.Names))
def Jt(e:ag):List af:=(jS e).flatMap wU
theorem Ru(e:ag):(wU e).length<=1+e.Params.length+(e.Alts.flatMap (·.Names)).length:=by
 unfold wU
 have h1:(if(mG e||e.Op==7)=true then[e.Name]else[]).length<=1:=by split<;>simp
 have h2:(if(e.Op==6)=true then e.Params.map (·.Name)else[]).length<=e.Params.length:=by split<;>simp
 rw[vau,vau]
 omega
mutual
theorem EL:∀(e:ag),((jS e).flatMap wU).length<=nE e
 |⟨o,n,k,ks,ps,as1,ts⟩=>by
  have h1:=NQ ks
  have h2:=NP as1
  have h3:=Ru ⟨o,n,k,ks,ps,as1,ts⟩
  simp only[ag.Params,ag.Alts]at h3
  rw[jS,nE,vbX,vbF,vau,vau]
  omega
theorem Tb:∀(a:aG),((D9 a).flatMap wU).length+a.Names.length+1<=nA a
 |⟨c,ns,b⟩=>by
  have h1:=EL b
  rw[D9,nA]
  show _+ns.length+1<=_
  omega
theorem NQ:∀(l:List ag),((xV l).flatMap wU).length<=Br l
 |[]=>by simp[xV]
 |e::l=>by
  have h1:=EL e
  have h2:=NQ l
  rw[xV,Br,vbF,vau]
  omega
theorem NP:∀(l:List aG),((xU l).flatMap wU).length+(l.flatMap (·.Names)).length<=Bq l
 |[]=>by simp[xU]
 |a::l=>by
  have h1:=Tb a
  have h2:=NP l
  rw[xU,Bq,vbF,vbX,vau,vau]
  omega
end
mutual
theorem J9(h:List af):∀(e:ag),∀x∈qo h e,x∈jS e/\mG x=true
 | ⟨o,n,k,ks,ps,as1,ts⟩ => by
  intro x hx
  rw[qo]at hx
  rw[jS]
  rcases vam.1 hx with hx|hx
  ·split at hx
   ·rename_i hc
    rw[va4.1 hx]
    rw[vad]at hc
    exact⟨vbR ..,hc.1⟩
   ·cases hx
  ·rcases vam.1 hx with hx|hx
   ·obtain⟨h1,h2⟩:=Ma _ _ ks x hx
    exact⟨vaI _ (vam.2 (.inl h1)),h2⟩
   ·obtain⟨h1,h2⟩:=L9 _ as1 x hx
    exact⟨vaI _ (vam.2 (.inr h1)),h2⟩
theorem Si(h:List af):∀(a:aG),∀x∈GV h a,x∈D9 a/\mG x=true
 |⟨c,ns,b⟩=>by
  intro x hx
  rw[GV]at hx
  rw[D9]
  exact J9 _ b x hx
theorem Ma(h0 h1:List af):∀(l:List ag),∀x∈ol h0 h1 l,x∈xV l/\mG x=true
 |[]=>by intro x hx;rw[ol]at hx;cases hx
 | e :: l => by
  intro x hx
  rw[ol]at hx
  rw[xV]
  rcases vam.1 hx with hx|hx
  ·obtain⟨a,b⟩:=J9 _ e x hx
   exact⟨vam.2 (.inl a),b⟩
  ·obtain⟨a,b⟩:=Ma _ _ l x hx
   exact⟨vam.2 (.inr a),b⟩
theorem L9(h:List af):∀(l:List aG),∀x∈oH h l,x∈xU l/\mG x=true
 |[]=>by intro x hx;rw[oH]at hx;cases hx
 | a :: l => by
  intro x hx
  rw[oH]at hx
  rw[xU]
  rcases vam.1 hx with hx|hx
  ·obtain⟨p,q⟩:=Si _ a x hx
   exact⟨vam.2 (.inl p),q⟩
  ·obtain⟨p,q⟩:=L9 _ l x hx
   exact⟨vam.2 (.inr p),q⟩
end
theorem TM{e:ag}{s:af}(h:s∈uf e):s∈Jt e:=by
 unfold uf at h
 obtain⟨x,hx,rfl⟩:=vag.1 h
 obtain⟨h1,h2⟩:=J9 [] e x hx
 refine vcN.2 ⟨x,h1,?_⟩
 unfold wU
 rw[h2]
 simp
theorem Vg(x:ag)(m:List (af×Bool))(hx:nE x<=1073741824):fI x m=some (true,iO m (wU x)):=by
 have l2:=Lx x
 have l3:=OR x
 have h1:∀m,iJ x m=some (iO m (if(mG x||x.Op==7)=true then[x.Name]else[])):=fun m=>by
  unfold iJ ll
  rw[B8,vaa,qau,vaa]
  split
  ·rw[sn _ _ (by simp)];rfl
  ·rfl
 have h3:∀m,iK x m=some (iO m (if(x.Op==6)=true then x.Params.map (·.Name)else[])):=fun m=>by
  unfold iK
  split
  ·rw[N1 _ (by omega),vaa,sn _ _ (by simp;omega)];rfl
  ·rfl
 have h4:∀m,iL x.Alts (x.Alts.length:Int) 0 m=some (iO m (x.Alts.flatMap (·.Names))):=fun m=>by
  unfold iL
  have g:=fT x.Alts.length (fun zz:Int×(List (af×Bool))=>dh x.Alts (x.Alts.length:Int) zz.1 zz.2) (fun i=>((i:Int),iO m ((x.Alts.take i).flatMap (·.Names)))) (iO m (x.Alts.flatMap (·.Names))) (fun i hi=>?_) ?_
  ·simpa[iO]using g
  ·have hm:=Rv (vaG hi)
   show dh x.Alts (x.Alts.length:Int) (i:Int) _=_
   unfold dh
   rw[vaw (by simpa using hi),dg _ _ hi,vaa,sn _ _ (by omega),vaa,co (by omega) (by omega),vaz hi,vbF,jh]
   simp
  ·show dh x.Alts (x.Alts.length:Int) (x.Alts.length:Int) _=_
   unfold dh
   rw[vax (by simp),vaR]
 unfold fI
 rw[h1]
 simp only[vaa]
 rw[h3]
 simp only[vaa]
 rw[h4]
 simp only[vaa]
 unfold wU
 rw[jh,jh]
theorem WP(e:ag)(he:OM e):zL e=some (vX (Jt e)):=by
 have hB:nE e<=1073741824:=ON he
 have hl:=EL e
 unfold zL
 rw[GR]
 simp only[vaa]
 rw[AE e [] (ON he),LR (fun m x=>iO m (wU x)) (jS e) [] (fun x hx m=>Vg x m (ON (Uq he hx)))]
 simp only[vaa]
 have:∀(l:List ag) (m:List (af×Bool)),l.foldl (fun m x=>iO m (wU x)) m=iO m (l.flatMap wU):=by
  intro l
  induction l with
  |nil=>intro m;rfl
  |cons x l ih=>intro m;rw[List.foldl_cons,ih,vbX,jh]
 rw[this,show(jS e).flatMap wU=Jt e from rfl,G9 _ (by unfold Jt;omega)]
 rfl
theorem QD{fe:af->af}{fr:NK}:∀(l:List ag) (s0 s1:List ac) (u:List af),(HD fe fr l s0 s1 u).1.length=l.length
 |[],s0,s1,u=>by rw[Cg]
 |e::l,s0,s1,u=>by rw[vH];simp[QD l]
theorem QA{fe:af->af}{fr:NK}:∀(l:List aG) (sc:List ac) (u:List af),(Gh fe fr l sc u).1.length=l.length
 |[],sc,u=>by rw[Ce]
 |e::l,sc,u=>by rw[vG];simp[QA l]
def NW(fr:NK)(t:Bool)(p:ax)(sc:List ac)(u:List af):ax×List ac×List af:=
 if t=true then(⟨(fr p.Name u).1,p.Type_⟩,sc++[⟨p.Name,(fr p.Name u).1⟩],(fr p.Name u).2)else(p,sc,u)
theorem Tr(fr:NK)(t:Bool)(l:List ax)(p:ax)(sc:List ac)(u:List af):ya fr t (l++[p]) sc u=((ya fr t l sc u).1++[(NW fr t p (ya fr t l sc u).2.1 (ya fr t l sc u).2.2).1],(NW fr t p (ya fr t l sc u).2.1 (ya fr t l sc u).2.2).2):=by
 unfold ya NW
 cases t with
 |false=>rfl
 |true=>
  simp only[if_true]
  rw[vaW,DT]
  simp only[vaC,vbC,pT]
  have hl:l.length=(pT fr (l.map (·.Name)) sc u).1.length:=by rw[Cf,vbb]
  unfold SG
  rw[List.zipWith_append hl]
  rfl
theorem Ts(fr:NK)(t:Bool)(l:List ax)(i:Nat)(h:i<l.length)(sc:List ac)(u:List af):ya fr t (l.take (i+1)) sc u=((ya fr t (l.take i) sc u).1++[(NW fr t l[i] (ya fr t (l.take i) sc u).2.1 (ya fr t (l.take i) sc u).2.2).1],(NW fr t l[i] (ya fr t (l.take i) sc u).2.1 (ya fr t (l.take i) sc u).2.2).2):=by
 rw[vaz h,Tr]
theorem Vi(fr:NK)(t:Bool)(sc:List ac)(u:List af):ya fr t [] sc u=([],sc,u):=by
 unfold ya
 cases t<;>rfl
def RB(y n o s:af):af:=if((s==y)&&!(n==y))=true then o else s
def jR(n y s:af):af:=if(s==n)=true then y else s
def mU(y n o:af):NK:=fun s u=>(RB y n o s,u)
theorem Rt(s n y:af):qI s n y=some (jR n y s):=by
 unfold qI jR
 split<;>rfl
theorem Lt(s:af)(a:List ac)(y n o:af):nq s a y n o=some (RB y n o s):=by
 unfold nq qJ RB
 cases h:(s==y)with
 |false=>simp
 |true=>
  simp only[if_true,vaa,Bool.true_and]
  split<;>rfl
section
variable{y n o:af}
theorem Pt:∀(l:List af) (sc:List ac) (u:List af),(pT (mU y n o) l sc u).2.2=u
 |[],sc,u=>rfl
 |s::l,sc,u=>by rw[pT];exact Pt l _ _
theorem WS{fe:af->af}(k:Int)(m:af)(sc:List ac)(u:List af):(CD fe (mU y n o) k m sc u).2.2=u:=by
 unfold CD
 split
 ·rfl
 ·split<;>rfl
theorem Tt(t:Bool)(ps:List ax)(sc:List ac)(u:List af):(ya (mU y n o) t ps sc u).2.2=u:=by
 unfold ya
 split
 ·exact Pt ..
 ·rfl
theorem Tn{fe:af->af}(l:List ag)(s0 s1:List ac)(u:List af):(HD fe (mU y n o) l s0 s1 u).2=u:=
 QC (I:=fun v=>v=u) (fun s v h=>h) l s0 s1 u rfl
theorem WQ{fe:af->af}(l:List aG)(sc:List ac)(u:List af):(Gh fe (mU y n o) l sc u).2=u:=
 Tf (I:=fun v=>v=u) (fun s v h=>h) l sc u rfl
theorem Jv(s:af)(a sc:List ac)(c4 c5:af)(hc:sc.length<=100000000):cE s a y n o c4 c5 sc=some (RB y n o s,sc++[⟨s,RB y n o s⟩]):=by
 unfold cE
 rw[Lt,vaa,lF (by simp;omega),vaa]
theorem Pv(p:ax)(t:Bool)(c sc:List ac)(c4 c5:af)(hc:sc.length<=100000000)(ht:Us p.Type_):bN p t c y n o c4 c5 sc=some ((NW (mU y n o) t p sc []).1,(NW (mU y n o) t p sc []).2.1):=by
 unfold bN cz NW
 cases t with
 |false=>
  simp only[vaY,if_false,vaa]
  rw[E0 _ ht,vaa]
 |true=>
  simp only[if_true]
  rw[Jv _ _ _ _ _ hc]
  simp only[vaa]
  rw[E0 _ ht,vaa]
  rfl
theorem RL(l:List ax)(t:Bool)(c sc:List ac)(c4 c5:af)(hl:l.length<=100000000)(hc:sc.length+l.length<=100000000)(hs:∀p∈l,Us p.Type_):bB l t c y n o c4 c5 sc=some ((ya (mU y n o) t l sc []).1,(ya (mU y n o) t l sc []).2.1):=by
 unfold bB bY
 have g:=fT l.length (fun(zz:(List ax)×Int×(List ac))=>aH t l (l.length:Int) c y n o c4 c5 zz.1 zz.2.1 zz.2.2) (fun i=>((ya (mU y n o) t (l.take i) sc []).1,(i:Int),(ya (mU y n o) t (l.take i) sc []).2.1)) ((ya (mU y n o) t l sc []).1,(ya (mU y n o) t l sc []).2.1) (fun i hi=>?_) ?_
 ·simp only[List.take_zero,Vi]at g
  rw[show((0:Nat):Int)=0 from rfl]at g
  rw[g,vaa]
 ·have hm:=vaG hi
  have hsl:=NX (fr:=mU y n o) t (l.take i) sc []
  have hpl:=QE (fr:=mU y n o) t (l.take i) sc []
  have hu:=Tt (y:=y) (n:=n) (o:=o) t (l.take i) sc []
  rw[vba]at hsl hpl
  show aH t l (l.length:Int) c y n o c4 c5 (ya (mU y n o) t (l.take i) sc []).1 (i:Int) (ya (mU y n o) t (l.take i) sc []).2.1=_
  unfold aH
  rw[vaw (by simpa using hi),dg _ _ hi,vaa,Pv _ _ _ _ _ _ (by omega) (hs _ hm)]
  simp only[vaa]
  rw[lF (by simp only[vaF,List.length_nil];omega),vaa,co (by omega) (by omega),Ts _ _ _ _ hi,hu]
  rfl
 ·show aH t l (l.length:Int) c y n o c4 c5 _ (l.length:Int) _=_
  unfold aH
  rw[vax (by simp),vaR]
theorem Un(e:ag)(ts:List aj)(sc:List ac)(c4 c5:af)(hc:sc.length<=100000000):dm sc y n o c4 c5 e.Op e.Name e.N e.Kids e.Params e.Alts ts sc=some ((CD (jR c4 c5) (mU y n o) e.Op e.Name sc []).1,(CD (jR c4 c5) (mU y n o) e.Op e.Name sc []).2.1):=by
 unfold dm CD
 rw[B8,vaa,show mG ⟨e.Op,e.Name,e.N,e.Kids,e.Params,e.Alts,ts⟩=(e.Op==3||e.Op==5)from rfl]
 by_cases h3:(e.Op==3||e.Op==5)=true
 ·rw[vaw h3,vaw h3,VJ _ _ (by omega),vaa]
  cases yt sc e.Name with
  |none=>
   simp only[Option.isSome_none,vaY,if_false]
   rw[Rt]
   rfl
  |some s=>simp only[Option.isSome_some,if_true];rfl
 ·rw[vax h3,vax h3]
  by_cases h7:(e.Op==7)=true
  ·rw[vaw h7,vaw h7,Jv _ _ _ _ _ hc]
   rfl
  ·rw[vax h7,vax h7]
theorem Tc(ns:List af)(sc:List ac)(hl:ns.length<=100000000)(hc:sc.length+ns.length<=100000000):da sc ns (ns.length:Int) y n o sc [] 0=some ((pT (mU y n o) ns sc []).2.1,(pT (mU y n o) ns sc []).1):=by
 unfold da
 have g:=fT ns.length (fun(zz:(List ac)×(List af)×Int)=>a8 sc ns (ns.length:Int) y n o zz.1 zz.2.1 zz.2.2) (fun i=>((pT (mU y n o) (ns.take i) sc []).2.1,(pT (mU y n o) (ns.take i) sc []).1,(i:Int))) ((pT (mU y n o) ns sc []).2.1,(pT (mU y n o) ns sc []).1) (fun i hi=>?_) ?_
 ·simpa[pT]using g
 ·have hsl:=Ju (fr:=mU y n o) (ns.take i) sc []
  have hpl:=Cf (fr:=mU y n o) (ns.take i) sc []
  rw[vba]at hsl hpl
  show a8 sc ns (ns.length:Int) y n o (pT (mU y n o) (ns.take i) sc []).2.1 (pT (mU y n o) (ns.take i) sc []).1 (i:Int)=_
  unfold a8
  rw[vaw (by simpa using hi),dg _ _ hi,vaa,Lt]
  simp only[vaa]
  rw[lF (by simp only[vaF,List.length_nil];omega),vaa,lF (by simp only[vaF,List.length_nil];omega),vaa,co (by omega) (by omega),Th _ _ _ hi]
  rfl
 ·show a8 sc ns (ns.length:Int) y n o _ _ (ns.length:Int)=_
  unfold a8
  rw[vax (by simp),vaR]
theorem Td{c4 c5:af}{R:af->af->af->af->af->ag->List ac->Option ag}(a:aG)(sc:List ac)(hl:a.Names.length<=100000000)(hc:sc.length+a.Names.length<=100000000)
  (hR:R y n o c4 c5 a.Body (pT (mU y n o) a.Names sc []).2.1=some (Ik (jR c4 c5) (mU y n o) a.Body (pT (mU y n o) a.Names sc []).2.1 []).1):
  cF R a sc y n o c4 c5=some (Pu (jR c4 c5) (mU y n o) a sc []).1:=by
 unfold cF
 rw[rR _ (by omega),vaa,Tc _ _ hl hc]
 simp only[vaa]
 rw[hR]
 simp only[vaa]
 rw[WU,Pt]
theorem T7{c4 c5:af}{R:af->af->af->af->af->ag->List ac->Option ag}(ks:List ag)(k:Int)(sc S1:List ac)(hk:ks.length<=100000000)
  (hR:∀x∈ks,∀(s:List ac),s=sc\/s=S1->R y n o c4 c5 x s=some (Ik (jR c4 c5) (mU y n o) x s []).1):
  dn R sc ks (ks.length:Int) y n o c4 c5 k S1 [] 0=some (HD (jR c4 c5) (mU y n o) ks (if(k==7)=true then sc else S1) S1 []).1:=by
 generalize hS0:(if(k==7)=true then sc else S1)=S0
 have h7:(k==7)=true->S0=sc:=fun h=>by rw[<-hS0,vaw h]
 have h6:¬(k==7)=true->S0=S1:=fun h=>by rw[<-hS0,vax h]
 unfold dn
 have g:=fT ks.length (fun(zz:(List ag)×Int)=>bk R sc ks (ks.length:Int) y n o c4 c5 k S1 zz.1 zz.2) (fun i=>((HD (jR c4 c5) (mU y n o) (ks.take i) S0 S1 []).1,(i:Int))) (HD (jR c4 c5) (mU y n o) ks S0 S1 []).1 (fun i hi=>?_) ?_
 ·simp only[List.take_zero,Cg]at g
  rw[show((0:Nat):Int)=0 from rfl]at g
  exact g
 ·have t3:=Tn (fe:=jR c4 c5) (y:=y) (n:=n) (o:=o) (ks.take i) S0 S1 []
  have t4:=QD (fe:=jR c4 c5) (fr:=mU y n o) (ks.take i) S0 S1 []
  have t5:=NV (jR c4 c5) (mU y n o) ks i hi S0 S1 []
  have hm:=vaG hi
  rw[vba]at t4
  show bk R sc ks (ks.length:Int) y n o c4 c5 k S1 (HD (jR c4 c5) (mU y n o) (ks.take i) S0 S1 []).1 (i:Int)=some (.inl ((HD (jR c4 c5) (mU y n o) (ks.take (i+1)) S0 S1 []).1,((i+1:Nat):Int)))
  rw[t5,t3]
  generalize HD (jR c4 c5) (mU y n o) (ks.take i) S0 S1 []=K at t4
  unfold bk eI
  rw[vaw (by simpa using hi),dg _ _ hi,vaa]
  by_cases ho:(k==7)=true
  ·rw[vaw ho,vaa]
   cases i with
   |zero=>
    rw[vaw (by decide),vax (by decide),h7 ho,hR _ hm sc (.inl rfl)]
    simp only[vaa]
    rw[lF (by simp only[vaF,List.length_nil];omega),vaa,co (by omega) (by omega)]
    rfl
   |succ j=>
    rw[vax (by simp;omega),vaw (Nat.succ_pos j),hR _ hm S1 (.inr rfl)]
    simp only[vaa]
    rw[lF (by simp only[vaF,List.length_nil];omega),vaa,co (by omega) (by omega)]
    rfl
  ·rw[vax ho,vaa,vax (by decide),h6 ho,ite_self,hR _ hm S1 (.inr rfl)]
   simp only[vaa]
   rw[lF (by simp only[vaF,List.length_nil];omega),vaa,co (by omega) (by omega)]
   rfl
 ·show bk R sc ks (ks.length:Int) y n o c4 c5 k S1 _ (ks.length:Int)=_
  unfold bk
  rw[vax (by simp),vaR]
theorem Te{c4 c5:af}{R:af->af->af->af->af->ag->List ac->Option ag}(as1:List aG)(sc:List ac)(hk:as1.length<=100000000)
  (hR:∀x∈as1,cF R x sc y n o c4 c5=some (Pu (jR c4 c5) (mU y n o) x sc []).1):
  cM R as1 sc y n o c4 c5=some (Gh (jR c4 c5) (mU y n o) as1 sc []).1:=by
 unfold cM dD
 have g:=fT as1.length (fun(zz:(List aG)×Int)=>aS R sc as1 (as1.length:Int) y n o c4 c5 zz.1 zz.2) (fun i=>((Gh (jR c4 c5) (mU y n o) (as1.take i) sc []).1,(i:Int))) (Gh (jR c4 c5) (mU y n o) as1 sc []).1 (fun i hi=>?_) ?_
 ·simp only[List.take_zero,Ce]at g
  rw[show((0:Nat):Int)=0 from rfl]at g
  rw[g,vaa]
 ·have t3:=WQ (fe:=jR c4 c5) (y:=y) (n:=n) (o:=o) (as1.take i) sc []
  have t4:=QA (fe:=jR c4 c5) (fr:=mU y n o) (as1.take i) sc []
  have t5:=NU (jR c4 c5) (mU y n o) as1 i hi sc []
  rw[vba]at t4
  show aS R sc as1 (as1.length:Int) y n o c4 c5 (Gh (jR c4 c5) (mU y n o) (as1.take i) sc []).1 (i:Int)=some (.inl ((Gh (jR c4 c5) (mU y n o) (as1.take (i+1)) sc []).1,((i+1:Nat):Int)))
  rw[t5,t3]
  generalize Gh (jR c4 c5) (mU y n o) (as1.take i) sc []=K at t4
  unfold aS
  rw[vaw (by simpa using hi),dg _ _ hi,vaa,hR _ (vaG hi)]
  simp only[vaa]
  rw[lF (by simp only[vaF,List.length_nil];omega),vaa,co (by omega) (by omega)]
  rfl
 ·show aS R sc as1 (as1.length:Int) y n o c4 c5 _ (as1.length:Int)=_
  unfold aS
  rw[vax (by simp),vaR]
end
theorem Wj(y n o c4 c5:af)(e:ag)(sc:List ac)(he:OM e)(hn:nE e<=100000000)(hc:sc.length+nE e<=100000000):fo y n o c4 c5 e sc=some (Ik (jR c4 c5) (mU y n o) e sc []).1:=by
 refine E8 (F:=eU) (fun x=>nE x.2.2.2.2.2.1) (fun x=>x.1=y/\x.2.1=n/\x.2.2.1=o/\x.2.2.2.1=c4/\x.2.2.2.2.1=c5/\OM x.2.2.2.2.2.1/\nE x.2.2.2.2.2.1<=100000000/\x.2.2.2.2.2.2.length+nE x.2.2.2.2.2.1<=100000000) (fun x=>(Ik (jR c4 c5) (mU y n o) x.2.2.2.2.2.1 x.2.2.2.2.2.2 []).1) (fun R x hx ih=>?_) (y,n,o,c4,c5,e,sc) ⟨rfl,rfl,rfl,rfl,rfl,he,hn,hc⟩ (xP (ON he))
 obtain⟨y',n',o',c4',c5',e,sc⟩:=x
 obtain⟨h1,h2,h3,h4,h5,he,hne,hc⟩:=hx
 simp only[]at h1 h2 h3 h4 h5 he hne hc ih ⊢
 subst h1 h2 h3 h4 h5
 have hn:=Dj e
 have lk:=Fe e.Kids
 have la:=Fd e.Alts
 have hR:∀(x:ag) (s:List ac),nE x<nE e->OM x->s.length+nE x<=100000000->R (y',n',o',c4',c5',x,s)=some (Ik (jR c4' c5') (mU y' n' o') x s []).1:=fun x s h1 h2 h3=>ih (y',n',o',c4',c5',x,s) h1 ⟨rfl,rfl,rfl,rfl,rfl,h2,by show nE x<=_;omega,h3⟩
 show dw (fun c c2 c3 c4 c5 e scope=>R (c,c2,c3,c4,c5,e,scope)) y' n' o' c4' c5' e sc=some (Ik (jR c4' c5') (mU y' n' o') e sc []).1
 have hNs:=Tq (fe:=jR c4' c5') (fr:=mU y' n' o') e.Op e.Name sc []
 have hPs:=NX (fr:=mU y' n' o') (e.Op==6) e.Params (CD (jR c4' c5') (mU y' n' o') e.Op e.Name sc []).2.1 []
 unfold dw
 rw[SP he,vaa,rR _ (by omega),vaa,Un _ _ _ _ _ (by omega)]
 simp only[vaa]
 rw[RL _ _ _ _ _ _ (by omega) (by omega) (fun p hp=>Sk he hp)]
 simp only[vaa]
 rw[T7 (R:=fun c c2 c3 c4 c5 e scope=>R (c,c2,c3,c4,c5,e,scope)) e.Kids e.Op sc (ya (mU y' n' o') (e.Op==6) e.Params (CD (jR c4' c5') (mU y' n' o') e.Op e.Name sc []).2.1 []).2.1 (by omega) (fun x hm s hs=>by
  have t1:=Ff hm
  refine hR _ _ (IT hm) (VX he hm) ?_
  rcases hs with rfl|rfl<;>omega)]
 simp only[vaa]
 rw[Te (R:=fun c c2 c3 c4 c5 e scope=>R (c,c2,c3,c4,c5,e,scope)) e.Alts sc (by omega) (fun x hm=>by
  have t1:=Cr hm
  have t5:=L5 x
  have t7:=Ju (fr:=mU y' n' o') x.Names sc []
  exact Td _ _ (by omega) (by omega) (hR _ _ (IM hm) (Sj he hm) (by omega)))]
 simp only[vaa]
 have hN0:=WS (fe:=jR c4' c5') (y:=y') (n:=n') (o:=o') e.Op e.Name sc []
 have hH:HC (jR c4' c5') (mU y' n' o') e.Op e.Name e.Params sc []=ya (mU y' n' o') (e.Op==6) e.Params (CD (jR c4' c5') (mU y' n' o') e.Op e.Name sc []).2.1 []:=by
  show ya _ _ _ _ (CD (jR c4' c5') (mU y' n' o') e.Op e.Name sc []).2.2=_
  rw[hN0]
 have hu0:(HC (jR c4' c5') (mU y' n' o') e.Op e.Name e.Params sc []).2.2=[]:=by rw[hH,Tt]
 have hC:Ti (jR c4' c5') (mU y' n' o') e.Op e.Name e.Params e.Kids sc []=HD (jR c4' c5') (mU y' n' o') e.Kids (if(e.Op==7)=true then sc else(HC (jR c4' c5') (mU y' n' o') e.Op e.Name e.Params sc []).2.1) (HC (jR c4' c5') (mU y' n' o') e.Op e.Name e.Params sc []).2.1 []:=by
  show HD _ _ _ _ _ (HC (jR c4' c5') (mU y' n' o') e.Op e.Name e.Params sc []).2.2=_
  rw[hu0]
 rw[WR,hC,hH,Tn]
def V1(e:ag)(y:af):af:=JJ (vX (Jt e)++[y]) y
def Wk(e:ag)(n y:af):ag:=(Ik (jR n y) (mU y n (V1 e y)) e [] []).1
theorem S9(e:ag)(n y:af)(he:OM e)(hn:nE e<=50000000)(hy:y.length<=1073741824):qH e n y=some (Wk e n y):=by
 have h1:=FL (Jt e)
 have h2:(Jt e).length<=nE e:=EL e
 have h3:(vX (Jt e)++[y]).length<=100000000:=by simp;omega
 unfold qH
 rw[WP e he,vaa,lF (by simp;omega),vaa,(S4 _ y h3 (by omega)).1,vaa,RR h3,Wj _ _ _ _ _ e [] he (by omega) (by simp;omega)]
 rfl
theorem Uy(e:ag)(y:af):V1 e y∉Jt e/\V1 e y≠y:=by
 have h:=PQ (vX (Jt e)++[y]) y
 unfold V1
 constructor
 ·intro hc
  exact h (vam.2 (.inl (((vY (Jt e)).2 _).2 hc)))
 ·intro hc
  exact h (vam.2 (.inr (by rw[hc];simp)))
theorem SL(e:ag)(n y:af)(h:n∉uf e):uf (Wk e n y)=uf e:=by
 unfold uf Wk
 refine Nc (G:=fun t=>t∈uf e) (I:=fun _=>True) (fun s hs=>?_) (fun _ _ _=>trivial) (fun s u _ t ht hst=>?_) e [] [] (fun p hp=>by cases hp) trivial (fun x hx=>vag.2 ⟨x,hx,rfl⟩)
 ·unfold jR
  rw[vax]
  intro hc
  rw[va1]at hc
  exact h (hc▸hs)
 ·simp only[mU,RB]at hst
  split at hst
  ·exact absurd (TM ht) (hst▸(Uy e y).1)
  ·exact hst
theorem LN{α β:Type}(p:α->Bool)(f:α->β):∀(l:List α),l.findSome? (fun x=>if p x=true then some (f x)else none)=(l.find? p).map f
 |[]=>rfl
 |x::l=>by
  rw[List.findSome?_cons,List.find?_cons]
  cases h:p x with
  |true=>rfl
  |false=>simpa using LN p f l
abbrev WM:Type:=af×(List af)×Int×af×Int×(List ag)×(List ax)×(List aG)×(List aj)×Int×Bool×(List af)×(List gE)×(List na)×(List eu)×Int×af×(List aj)×(List af)×Int×af×Int×(List am)×(List am)×(List am)
def TH(d:eA):WM:=(d.Name,d.Params,d.Body.Op,d.Body.Name,d.Body.N,d.Body.Kids,d.Body.Params,d.Body.Alts,d.Body.Types,d.Mode,d.Typed,d.Sig.Vars,d.Sig.Needs,d.Sig.Abs,d.Sig.Bounds,d.Sig.Type_.Op,d.Sig.Type_.Name,d.Sig.Type_.Args,d.Sig.Type_.Names,d.Sig.Type_.Pred.Op,d.Sig.Type_.Pred.Name,d.Sig.Type_.Pred.N,d.Sig.Type_.Pred.Kids,d.Sig.Type_.Preds,d.Sig.Metric)
def lR(m:aP)(name:af):eA×Bool:=(m.Defs.find? (fun d=>d.Name==name)).elim (⟨[],[],⟨0,[],0,[],[],[],[]⟩,0,false,⟨[],[],[],[],⟨0,[],[],[],⟨0,[],0,[]⟩,[]⟩,[]⟩⟩,false) (fun d=>(d,true))
theorem Rb(m:aP)(name:af)(h1:m.Defs.length<9223372036854775808):wb m name=some (lR m name):=by
 unfold wb xZ lR
 have:=P3 m.Defs h1 (fun i=>(i,[],[],0,[],0,[],[],[],[],0,false,[],[],[],[],0,[],[],[],0,[],0,[],[],[])) (fun(zz:Int×af×(List af)×Int×af×Int×(List ag)×(List ax)×(List aG)×(List aj)×Int×Bool×(List af)×(List gE)×(List na)×(List eu)×Int×af×(List aj)×(List af)×Int×af×Int×(List am)×(List am)×(List am))=>iP name m.Defs (m.Defs.length:Int) zz.1 zz.2.1 zz.2.2.1 zz.2.2.2.1 zz.2.2.2.2.1 zz.2.2.2.2.2.1 zz.2.2.2.2.2.2.1 zz.2.2.2.2.2.2.2.1 zz.2.2.2.2.2.2.2.2.1 zz.2.2.2.2.2.2.2.2.2.1 zz.2.2.2.2.2.2.2.2.2.2.1 zz.2.2.2.2.2.2.2.2.2.2.2.1 zz.2.2.2.2.2.2.2.2.2.2.2.2.1 zz.2.2.2.2.2.2.2.2.2.2.2.2.2.1 zz.2.2.2.2.2.2.2.2.2.2.2.2.2.2.1 zz.2.2.2.2.2.2.2.2.2.2.2.2.2.2.2.1 zz.2.2.2.2.2.2.2.2.2.2.2.2.2.2.2.2.1 zz.2.2.2.2.2.2.2.2.2.2.2.2.2.2.2.2.2.1 zz.2.2.2.2.2.2.2.2.2.2.2.2.2.2.2.2.2.2.1 zz.2.2.2.2.2.2.2.2.2.2.2.2.2.2.2.2.2.2.2.1 zz.2.2.2.2.2.2.2.2.2.2.2.2.2.2.2.2.2.2.2.2.1 zz.2.2.2.2.2.2.2.2.2.2.2.2.2.2.2.2.2.2.2.2.2.1 zz.2.2.2.2.2.2.2.2.2.2.2.2.2.2.2.2.2.2.2.2.2.2.1 zz.2.2.2.2.2.2.2.2.2.2.2.2.2.2.2.2.2.2.2.2.2.2.2.1 zz.2.2.2.2.2.2.2.2.2.2.2.2.2.2.2.2.2.2.2.2.2.2.2.2.1 zz.2.2.2.2.2.2.2.2.2.2.2.2.2.2.2.2.2.2.2.2.2.2.2.2.2)
  (fun d=>if(d.Name==name)=true then some (Sum.inl (TH d):WM⊕WM)else none) (.inr ([],[],0,[],0,[],[],[],[],0,false,[],[],[],[],0,[],[],[],0,[],0,[],[],[])) (fun i hi=>?_) ?_
 ·rw[this]
  simp only[vaa]
  rw[show m.Defs.findSome? (fun d=>if(d.Name==name)=true then some (Sum.inl (TH d):WM⊕WM)else none)=_ from LN (fun d:eA=>d.Name==name) (fun d=>(Sum.inl (TH d):WM⊕WM)) m.Defs]
  cases m.Defs.find? (fun d=>d.Name==name)with
  |none=>rfl
  |some d=>
   simp only[vah,Option.elim,id,TH,LI,LJ,RM]
 ·show iP name m.Defs (m.Defs.length:Int) (i:Int) [] [] 0 [] 0 [] [] [] [] 0 false [] [] [] [] 0 [] [] [] 0 [] 0 [] [] []=_
  unfold iP
  rw[vaw (by simp;omega),dg _ i hi]
  simp only[vaa]
  by_cases hn:(m.Defs[i].Name==name)=true<;>simp[hn,TH]
 ·show iP name m.Defs (m.Defs.length:Int) (m.Defs.length:Int) [] [] 0 [] 0 [] [] [] [] 0 false [] [] [] [] 0 [] [] [] 0 [] 0 [] [] []=_
  unfold iP
  rw[vax (by simp)]
end Go.Proofs.YtkdahfeiedaahaaGreatDoor
