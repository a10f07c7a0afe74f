/- PROVED: a part of the proof. Conditions: none. -/
import Derived.Test.YtbaamopmfmpfaaaGreatDoorPkB18
import Derived.Test.YtbaamopmfmpfaaaGreatDoorPkB7
import Derived.Test.YtbaamopmfmpfaaaGreatDoorPkB8
noncomputable section
namespace Go.Proofs.YtbaamopmfmpfaaaGreatDoor
open Go
set_option linter.unusedSimpArgs false
set_option linter.unusedVariables false
abbrev qj8(a:List af):Prop:=a.length<9223372036854775808
def Z5(l:List af)(s:af):Int:=match l.findIdx? (fun x=>x==s)with|some j=>(j:Int)|none=>-1
theorem qn(l:List af)(s:af)(hl:l.length<9223372036854775808):gM l s=some (Z5 l s):=by
 unfold gM yD
 have:=Mb l hl (fun zz=>eT l s l.length zz) (fun x=>x==s) (fun j=>Sum.inl (j:Int)) (Sum.inr ()) (fun i h=>by
  simp only[eT]
  rw[vad (by simp;omega),bp _ i h]
  simp only[vaa]
  split<;>simp_all) (by simp only[eT];rw[vae (by simp)])
 rw[this]
 unfold Z5
 cases l.findIdx? (fun x=>x==s)<;>rfl
theorem wq(l:List af)(s:af):decide (Z5 l s>=0)=l.any fun k=>k==s:=by
 unfold Z5
 cases h:l.findIdx? (fun x=>x==s)with
 |none=>
  rw[vch]at h
  symm
  simp only[vbu]
  rw[show decide ((-1:Int)>=0)=false from rfl]
  simp only[vbu,Bool.not_eq_true]
  exact h
 | some j =>
  have h2:l.any (fun x=>x==s)=true:=by
   have:=List.findIdx?_isSome (xs:=l) (p:=fun x=>x==s)
   rw[h]at this
   exact this.symm
  rw[h2]
  simp
theorem TM{α:Type}(k:af)(v:α)(j:af):∀(m:List (af×α)),DG (Ku m k v) j=if(j==k)=true then some v else DG m j
 |[]=>by
  simp only[Ku,DG,List.find?_cons,List.find?_nil]
  cases(j==k)<;>rfl
 | e :: r => by
  have ih:=TM k v j r
  unfold Ku
  by_cases h:(k==e.1)=true
  ·have h':k=e.1:=by simpa using h
   rw[vad h]
   unfold DG
   simp only[List.find?_cons]
   rw[<-h']
   cases hj:(j==k)<;>simp
  ·rw [vae h]
   unfold DG at ih ⊢
   simp only[List.find?_cons]
   cases hj:(j==e.1)
   ·simpa using ih
   ·have:¬(j==k)=true:=fun hk=>h (by
      have h1:j=e.1:=by simpa using hj
      have h2:j=k:=by simpa using hk
      simp[<-h1,<-h2])
    simp[this]
abbrev QS(m:List (af×Bool))(k:af):Bool:=(DG m k).getD false
theorem qdz(m:List (af×Bool))(k j:af):QS (Ku m k true) j=(j==k||QS m j):=by
 unfold QS
 rw[TM]
 cases(j==k)<;>rfl
def YZ(l:af):Nat:=l.foldl (fun a c=>10 * a+(c.toNat - 48)) 0
theorem Qf(u:Nat):YZ (Lib.decDigits u)=u:=by
 induction u using Nat.strongRecOn with
 | _ u ih =>
  rw[Lib.decDigits]
  by_cases h:u<10
  ·rw[dif_pos h]
   unfold YZ
   simp
   omega
  ·rw[dif_neg h]
   have:=ih (u / 10) (by omega)
   unfold YZ at this ⊢
   rw[vcm,this]
   simp
   omega
theorem qfd{u v:Nat}(h:Lib.decDigits u=Lib.decDigits v):u=v:=by rw[<-Qf u,<-Qf v,h]
theorem Vj(u:Nat):(Lib.decDigits u).length<=u+1:=by
 induction u using Nat.strongRecOn with
 | _ u ih =>
  rw[Lib.decDigits]
  by_cases h:u<10
  ·rw[dif_pos h];simp
  ·rw[dif_neg h]
   have:=ih (u / 10) (by omega)
   simp
   omega
theorem Ug:∀(k n:Nat) (acc:af),n<=k->n<=1000000000->acc.length<=1000000000 - n->qm acc n=some (if n=0 then acc else Lib.decDigits n++acc)
 |k,0,acc,_,_,_=>by
  unfold qm
  exact jZ rfl
 |0,n+1,_,h,_,_=>absurd h (by omega)
 | k + 1,n + 1,acc,hk,hn,ha => by
  have hb:ou acc ((n+1:Nat):Int)=some (.inl (UInt8.ofNat (48+(n+1) % 10)::acc,(((n+1) / 10:Nat):Int))):=by
   simp only[ou]
   have h1:(((n+1:Nat):Int)!=0)=true:=by simp;omega
   have h2:re ((n+1:Nat):Int) 10=some (((n+1) % 10:Nat):Int):=by
    simp only[re]
    have e:((n+1:Nat):Int) % 10=(((n+1) % 10:Nat):Int):=by omega
    rw[vae (by omega),Int.tmod_eq_emod_of_nonneg (by omega),e]
   have h3:yA (((n+1) % 10:Nat):Int)=some (((n+1) % 10:Nat):Int):=by
    simp only[yA]
    rw[vae (by simp;omega)]
   have h4:IntKind.u8.wrap (aS (48+(((n+1) % 10:Nat):Int)))=((48+(n+1) % 10:Nat):Int):=by
    rw[dE (by omega) (by omega)]
    have h5:(48:Int)+(((n+1) % 10:Nat):Int)=((48+(n+1) % 10:Nat):Int):=by omega
    rw[h5]
    generalize hq:48+(n+1) % 10=q
    have:q<58:=by omega
    show((q:Int) % 256)=q
    omega
   have h6:xO [((48+(n+1) % 10:Nat):Int)]=some [UInt8.ofNat (48+(n+1) % 10)]:=by
    simp only[xO]
    rw[vad (by omega)]
    rfl
   have h7:qu .i64 ((n+1:Nat):Int) 10=some (((n+1) / 10:Nat):Int):=by
    simp only[qu]
    rw[vae (by omega),vca (by omega)]
    have e:((n+1:Nat):Int) / 10=(((n+1) / 10:Nat):Int):=by omega
    rw[e]
    exact va3 some (dE (by omega) (by omega))
   rw[h1]
   simp only[if_true,h2,vaa,h3,h4,h6]
   rw[P7 (by simp;omega),h7]
   rfl
  unfold qm
  refine(qw (body:=fun zz:af×Int=>ou zz.1 zz.2) (s:=(acc,((n+1:Nat):Int))) (s':=(UInt8.ofNat (48+(n+1) % 10)::acc,(((n+1) / 10:Nat):Int))) hb).trans ?_
  have ih:=Ug k ((n+1) / 10) (UInt8.ofNat (48+(n+1) % 10)::acc) (by omega) (by omega) (by simp;omega)
  unfold qm at ih
  rw[ih,vae (by omega:¬n+1=0)]
  conv=>rhs;rw[Lib.decDigits]
  by_cases h:n+1<10
  ·rw[dif_pos h,vad (by omega),vb1 h]
   rfl
  ·rw[dif_neg h,vae (by omega)]
   simp
theorem MC(n:Nat)(h0:1<=n)(h:n<=1000000000):Jc n=some (Lib.decDigits n):=by
 unfold Jc
 have h1:((n:Int)==0)=false:=by simp;omega
 rw[h1,Ug n n [] (vah _) h (by simp)]
 have h2:decide ((n:Int)<0)=false:=by simp
 simp only[va5,if_false,vaa,h2]
 rw[vae (by omega)]
 simp
theorem Xr(n:Nat)(h:n<=1000000000):qad n=some (Lib.decDigits n):=by
 unfold qad Lib.itoa
 rw[vad (by simp;omega),vae (by omega)]
 rfl
theorem qdY:∀(used L:List af),L.Nodup->used.length<L.length->∃x∈L,x∉used
 |[],L,_,h=>by
  cases L with
  |nil=>simp at h
  |cons x L=>exact⟨x,by simp,by simp⟩
 | u :: us,L,hn,h => by
  obtain⟨x,hx,hu⟩:=qdY us (L.erase u) (hn.erase u) (by
   have:=List.length_erase (a:=u) (l:=L)
   rw[this]
   simp at h
   split<;>omega)
  rw[hn.mem_erase_iff]at hx
  exact⟨x,hx.2,by simp[hx.1,hu]⟩
theorem Xk(used:List af)(base:af):∃n,1<=n/\n<=used.length+1/\base++Lib.decDigits n∉used:=by
 obtain⟨x,hx,hu⟩:=qdY used ((List.range (used.length+1)).map fun i=>base++Lib.decDigits (i+1)) (by
  unfold List.Nodup
  rw[List.pairwise_map]
  refine vcS ?_ (List.nodup_range (n:=used.length+1))
  intro a b hab e
  have:=qfd (List.append_cancel_left e)
  omega) (by simp)
 simp only[vaq,vbt]at hx
 obtain⟨i,hi,rfl⟩:=hx
 exact⟨i+1,by omega,by omega,hu⟩
def mT(used:List af)(base:af):Nat->Nat->af
 |0,_=>[]
 |k+1,n=>if used.contains (base++Lib.decDigits n)=true then mT used base k (n+1)else base++Lib.decDigits n
def eQ(used:List af)(base:af):af:=if used.contains base=true then mT used base 100000001 1 else base
theorem Kw(used:List af)(hl:qj8 used):∃m,rM used used.length 0 []=some m/\∀k,QS m k=used.contains k:=by
 unfold rM
 have:=kQ used hl (fun i (m:List (af×Bool))=>(i,m)) (fun zz=>j1 used used.length zz.1 zz.2) (fun _ _=>True) (fun _ x m=>.inl (Ku m x true)) (fun m=>m) (fun i hi t _=>⟨by
   simp only[j1]
   rw[vad (by simp;omega),bp _ i hi]
   rfl,fun _ _=>trivial⟩) (fun _ _=>by simp only[j1];rw[vae (by simp)]) 0 [] (vaN _) trivial
 simp only[Int.ofNat_zero,vaV]at this
 rw[this]
 refine⟨_,rfl,?_⟩
 have key:∀(l:List af) (i:Nat) (m:List (af×Bool)) k,QS (nc (fun _ x (m:List (af×Bool))=>(Sum.inl (Ku m x true):List (af×Bool)⊕List (af×Bool))) (fun m=>m) l i m) k=(l.contains k||QS m k):=by
  intro l
  induction l with
  |nil=>intro i m k;simp[nc]
  |cons x l ih=>
   intro i m k
   unfold nc
   simp only[ih,qdz,List.contains_cons]
   cases(k==x)<;>cases l.contains k<;>simp
 intro k
 rw[key]
 simp[QS,DG]
theorem MP(used:List af)(base:af)(m:List (af×Bool))(hm:∀k,QS m k=used.contains k)(hl:used.length<=100000000)(hb:base.length<=4000000000000000000)(N:Nat)(hN:base++Lib.decDigits N∉used)(hN2:N<=100000001):∀(k n:Nat),1<=n->n<=N->N<n+k->mX base m n=some (mT used base k n)/\kh used base (base++Lib.decDigits n) ((n+1:Nat):Int)=some (mT used base k n)/\mT used base k n∉used
 |0,n,_,h1,h2=>absurd h2 (by omega)
 | k + 1,n,h0,h1,h2 => by
  have hd:=Vj n
  have hd2:=Vj (n+1)
  have e1:aS ((n:Int)+1)=((n+1:Nat):Int):=by rw[dE (by omega) (by omega)];omega
  have e2:aS (((n+1:Nat):Int)+1)=((n+2:Nat):Int):=by rw[dE (by omega) (by omega)];omega
  unfold mT
  by_cases hc:used.contains (base++Lib.decDigits n)=true
  ·rw[vad hc]
   have hne:n≠N:=by
    rintro rfl
    exact hN (by simpa using hc)
   obtain⟨i1,i2,i3⟩:=MP used base m hm hl hb N hN hN2 k (n+1) (by omega) (by omega) (by omega)
   have hm':=hm (base++Lib.decDigits n)
   unfold QS at hm'
   have b1:hZ base m (n:Int)=some (.inl (((n+1:Nat):Int))):=by
    simp only[hZ]
    rw[Xr n (by omega)]
    simp only[vaa]
    rw[P7 (by omega)]
    simp only[vaa,hm',hc,e1]
    rfl
   have b2:dq used base (base++Lib.decDigits n) ((n+1:Nat):Int)=some (.inl (base++Lib.decDigits (n+1),((n+2:Nat):Int))):=by
    simp only[dq]
    rw[qn _ _ (by omega)]
    simp only[vaa,wq]
    have:(used.any fun k=>k==base++Lib.decDigits n)=true:=by simpa[vbx]using hc
    rw[this,vad rfl,MC (n+1) (by omega) (by omega)]
    simp only[vaa]
    rw[P7 (by omega)]
    simp only[vaa,e2]
   refine⟨?_,?_,i3⟩
   ·unfold mX at i1 ⊢
    exact(qw b1).trans i1
   ·unfold kh at i2 ⊢
    exact(qw (body:=fun zz:af×Int=>dq used base zz.1 zz.2) (s:=(base++Lib.decDigits n,((n+1:Nat):Int))) (s':=(base++Lib.decDigits (n+1),((n+2:Nat):Int))) b2).trans i2
  ·rw[vae hc]
   have hc':used.contains (base++Lib.decDigits n)=false:=by simpa using hc
   have hm':=hm (base++Lib.decDigits n)
   unfold QS at hm'
   have b1:hZ base m (n:Int)=some (.inr (base++Lib.decDigits n)):=by
    simp only[hZ]
    rw[Xr n (by omega)]
    simp only[vaa]
    rw[P7 (by omega)]
    simp only[vaa,hm',hc']
    rfl
   have b2:dq used base (base++Lib.decDigits n) ((n+1:Nat):Int)=some (.inr (base++Lib.decDigits n)):=by
    simp only[dq]
    rw[qn _ _ (by omega)]
    simp only[vaa,wq]
    have:(used.any fun k=>k==base++Lib.decDigits n)=false:=by
     rw[vco]
     intro h
     apply hc
     simpa[vbx]using h
    rw[this]
    rfl
   refine⟨?_,?_,by simpa using hc⟩
   ·unfold mX
    exact jZ b1
   ·unfold kh
    exact jZ (body:=fun zz:af×Int=>dq used base zz.1 zz.2) (s:=(base++Lib.decDigits n,((n+1:Nat):Int))) b2
theorem Aw(used:List af)(base:af)(hl:used.length<=100000000)(hb:base.length<=4000000000000000000):mW used base=some (eQ used base)/\sL used base=some (eQ used base)/\eQ used base∉used:=by
 obtain⟨m,hm1,hm⟩:=Kw used (show _<_ by omega)
 have hm':=hm base
 unfold QS at hm'
 obtain⟨N,h1,h2,h3⟩:=Xk used base
 obtain⟨i1,i2,i3⟩:=MP used base m hm hl hb N h3 (by omega) 100000001 1 (vah _) h1 (by omega)
 unfold mW sL eQ
 rw[hm1]
 simp only[vaa,hm']
 have hd:=Vj 1
 by_cases hc:used.contains base=true
 ·simp only[hc,vbP,va5,if_false,if_true]
  simp only[Int.ofNat_one]at i1
  rw[i1]
  have b2:dq used base base 1=some (.inl (base++Lib.decDigits 1,((2:Nat):Int))):=by
   simp only[dq]
   rw[qn _ _ (by omega)]
   simp only[vaa,wq]
   have:(used.any fun k=>k==base)=true:=by simpa[vbx]using hc
   have ht:=MC 1 (by omega) (by omega)
   simp only[Int.ofNat_one]at ht
   rw[this,vad rfl,ht]
   simp only[vaa]
   rw[P7 (by omega)]
   rfl
  unfold kh at i2 ⊢
  have:=(qw (body:=fun zz:af×Int=>dq used base zz.1 zz.2) (s:=(base,1)) (s':=(base++Lib.decDigits 1,((2:Nat):Int))) b2).trans i2
  rw[this]
  exact⟨rfl,rfl,i3⟩
 ·have hc':used.contains base=false:=by simpa using hc
  simp only[hc',vbV,if_true,va5,if_false]
  have b2:dq used base base 1=some (.inr base):=by
   simp only[dq]
   rw[qn _ _ (by omega)]
   simp only[vaa,wq]
   have:(used.any fun k=>k==base)=false:=by
    rw[vco]
    intro h
    apply hc
    simpa[vbx]using h
   rw[this]
   rfl
  unfold kh
  have:=jZ (body:=fun zz:af×Int=>dq used base zz.1 zz.2) (s:=(base,1)) b2
  rw[this]
  exact⟨trivial,rfl,by simpa using hc⟩
theorem Ke{u v:List af}(h:∀x,x∈u↔x∈v)(base:af):∀(k n:Nat),mT u base k n=mT v base k n
 |0,n=>by rw[mT,mT]
 | k + 1,n => by
  have e:u.contains (base++Lib.decDigits n)=v.contains (base++Lib.decDigits n):=by
   rw[vbQ,vbz,vbz]
   exact h _
  rw[mT,mT,e,Ke h base k (n+1)]
theorem Kg{u v:List af}(h:∀x,x∈u↔x∈v)(base:af):eQ u base=eQ v base:=by
 have e:u.contains base=v.contains base:=by
  rw[vbQ,vbz,vbz]
  exact h _
 unfold eQ
 rw[e,Ke h]
abbrev qa4(x y:af):Prop:=Op.bytesLess x y=true
theorem AN:∀(x:af),Op.bytesLess x x=false
 |[]=>rfl
 |a::x=>by
  unfold Op.bytesLess
  rw[AN x]
  simp[UInt8.lt_irrefl]
theorem AO:∀{x y z:af},qa4 x y->qa4 y z->qa4 x z
 |_,_,[],h1,h2=>by simp[qa4,Op.bytesLess]at h2
 |_,[],_::_,h1,h2=>by simp[qa4,Op.bytesLess]at h1
 |[],_::_,_::_,_,_=>rfl
 | a :: x,b :: y,c :: z,h1,h2 => by
  unfold qa4 Op.bytesLess at h1 h2 ⊢
  simp only[vbb,van,vaj,va6]at h1 h2 ⊢
  rcases h1 with h1|⟨rfl,h1⟩
  ·rcases h2 with h2|⟨rfl,h2⟩
   ·exact .inl (UInt8.lt_trans h1 h2)
   ·exact .inl h1
  ·rcases h2 with h2|⟨rfl,h2⟩
   ·exact .inl h2
   ·exact .inr ⟨rfl,AO h1 h2⟩
theorem E2:∀{x y:af},Op.bytesLess x y=false->Op.bytesLess y x=false->x=y
 |[],[],_,_=>rfl
 |[],_::_,h,_=>by simp[Op.bytesLess]at h
 |_::_,[],_,h=>by simp[Op.bytesLess]at h
 | a :: x,b :: y,h1,h2 => by
  unfold Op.bytesLess at h1 h2
  simp only[Bool.or_eq_false_iff,vbp,Bool.and_eq_false_imp,va6]at h1 h2
  have hab:a=b:=by
   have k1:=UInt8.not_lt.1 h1.1
   have k2:=UInt8.not_lt.1 h2.1
   exact UInt8.le_antisymm k2 k1
  subst hab
  rw[E2 (h1.2 rfl) (h2.2 rfl)]
theorem qf0:∀(x y:af),Op.bytesLess x y=decide (x<y)
 |[],[]=>by simp[Op.bytesLess]
 |_::_,[]=>by simp[Op.bytesLess]
 |[],_::_=>by simp[Op.bytesLess]
 |a::x,b::y=>by
  unfold Op.bytesLess
  rw[qf0 x y,vbQ]
  simp[List.cons_lt_cons_iff]
theorem qae(x y:af):decide (x<=y)= !Op.bytesLess y x:=by
 rw[qf0]
 rw[<-decide_not]
 rfl
abbrev M3(l:List af):Prop:=l.Pairwise qa4
theorem CH:∀{a b:List af},M3 a->M3 b->(∀x,x∈a↔x∈b)->a=b
 |[],[],_,_,_=>rfl
 |[],y::b,_,_,h=>by have:=(h y).2 (by simp);simp at this
 |x::a,[],_,_,h=>by have:=(h x).1 (by simp);simp at this
 | x :: a,y :: b,ha,hb,h => by
  unfold M3 at ha hb
  rw[vbA]at ha hb
  have hxy:x=y:=by
   have h1:=(h x).1 (by simp)
   have h2:=(h y).2 (by simp)
   rw[vaw]at h1 h2
   rcases h1 with h1|h1
   ·exact h1
   ·rcases h2 with h2|h2
    ·exact h2.symm
    ·have:=AO (hb.1 x h1) (ha.1 y h2)
     unfold qa4 at this
     rw[AN]at this
     cases this
  subst hxy
  congr 1
  refine CH ha.2 hb.2 fun z=>?_
  constructor
  ·intro hz
   have:=(h z).1 (by simp[hz])
   rw[vaw]at this
   rcases this with rfl|this
   ·have:=ha.1 _ hz;unfold qa4 at this;rw[AN]at this;cases this
   ·exact this
  ·intro hz
   have:=(h z).2 (by simp[hz])
   rw[vaw]at this
   rcases this with rfl|this
   ·have:=hb.1 _ hz;unfold qa4 at this;rw[AN]at this;cases this
   ·exact this
theorem Wd(l:List af):(nh l).Pairwise fun x y=>Op.bytesLess y x=false:=by
 have:=List.pairwise_mergeSort (le:=fun x y:af=>decide (x<=y)) (fun a b c h1 h2=>by
  rw[qae]at h1 h2 ⊢
  simp only[va7]at h1 h2 ⊢
  cases h:Op.bytesLess c a with
  |false=>rfl
  | true =>
   exfalso
   by_cases hb:Op.bytesLess a b=true
   ·have:=AO h hb
    unfold qa4 at this
    rw[h2]at this
    cases this
   ·have:a=b:=E2 (by simpa using hb) h1
    subst this
    rw[h2]at h
    cases h) (fun a b=>by
  rw[qae,qae]
  cases h:Op.bytesLess b a with
  |false=>rfl
  | true =>
   cases h':Op.bytesLess a b with
   |false=>rfl
   |true=>
    have:=AO h h'
    unfold qa4 at this
    rw[AN]at this
    cases this) l
 refine vcS ?_ this
 intro a b h
 rw[qae]at h
 simpa using h
theorem qce(l:List af)(x:af):x∈nh l↔x∈l:=List.mem_mergeSort
theorem Ho(d:List af)(hs:d.Pairwise fun x y=>Op.bytesLess y x=false):∀m,m<=d.length->M3 (Lib.compactUpTo d.toArray m)/\∀x,x∈Lib.compactUpTo d.toArray m↔∃(j:Nat) (h:j<d.length),j<m/\d[j]=x
 |0,_=>by
  refine⟨by simp[Lib.compactUpTo,M3],fun x=>?_⟩
  simp[Lib.compactUpTo]
 | m + 1,hm => by
  obtain⟨h1,h2⟩:=Ho d hs m (by omega)
  have hg:∀j (h:j<d.length),d.toArray[j]! =d[j]:=fun j h=>by simp[h]
  rw[Lib.compactUpTo_succ]
  by_cases hk:Lib.keeps d.toArray m=true
  ·rw [vad hk,hg m (by omega)]
   refine⟨?_,fun x=>?_⟩
   ·unfold M3
    rw[List.pairwise_append]
    refine⟨h1,by simp,fun x hx y hy=>?_⟩
    simp at hy
    subst hy
    obtain⟨j,hj,hjm,rfl⟩:=(h2 x).1 hx
    have hne:d[m - 1]≠d[m]:=by
     unfold Lib.keeps at hk
     simp only[van]at hk
     rcases hk with hk|hk
     ·omega
     ·rw[hg m (by omega),hg (m - 1) (by omega)]at hk
      exact fun e=>hk e.symm
    have hlt:Op.bytesLess d[m - 1] d[m]=true:=by
     have k1:=(vci.1 hs) (m - 1) m (by omega) (by omega) (by omega)
     cases h:Op.bytesLess d[m - 1] d[m]with
     |true=>rfl
     |false=>exact absurd (E2 h k1) hne
    by_cases hj2:j=m - 1
    ·subst hj2;exact hlt
    ·have k2:=(vci.1 hs) j (m - 1) (by omega) (by omega) (by omega)
     cases h:Op.bytesLess d[j] d[m - 1]with
     |true=>exact AO h hlt
     |false=>
      have:=E2 h k2
      rw[this];exact hlt
   ·rw[vaE,h2]
    constructor
    ·rintro(⟨j,hj,hjm,rfl⟩|hx)
     ·exact⟨j,hj,by omega,rfl⟩
     ·simp at hx;exact⟨m,by omega,by omega,hx.symm⟩
    ·rintro⟨j,hj,hjm,rfl⟩
     by_cases e:j=m
     ·subst e;exact .inr (by simp)
     ·exact .inl ⟨j,hj,by omega,rfl⟩
  ·rw [vae hk,va1]
   refine⟨h1,fun x=>?_⟩
   rw[h2]
   constructor
   ·rintro⟨j,hj,hjm,rfl⟩;exact⟨j,hj,by omega,rfl⟩
   ·rintro⟨j,hj,hjm,rfl⟩
    by_cases e:j=m
    ·subst e
     have:j≠0/\d.toArray[j]! =d.toArray[j - 1]! :=by
      unfold Lib.keeps at hk
      simp only[van,not_or,ne_eq,Decidable.not_not]at hk
      exact hk
     rw[hg j hj,hg (j - 1) (by omega)]at this
     exact⟨j - 1,by omega,by omega,this.2.symm⟩
    ·exact⟨j,hj,by omega,rfl⟩
def kv(a b:List af):List af:=Lib.compact (nh (a++b))
theorem I4(a b:List af):M3 (kv a b)/\∀x,x∈kv a b↔x∈a\/x∈b:=by
 obtain⟨h1,h2⟩:=Ho (nh (a++b)) (Wd _) _ (vah _)
 refine⟨h1,fun x=>?_⟩
 rw[show kv a b=Lib.compactUpTo (nh (a++b)).toArray (nh (a++b)).length from rfl,h2,<-vaE,<-qce,List.mem_iff_getElem]
 constructor
 ·rintro⟨j,h,_,e⟩;exact⟨j,h,e⟩
 ·rintro⟨j,h,e⟩;exact⟨j,h,h,e⟩
theorem Fp(a b:List af)(h:a.length+b.length<=1073741824):qx a b=some (kv a b):=by
 unfold qx
 rw[cQ (by simp;omega)]
 simp only[vaa]
 rw[cQ (by simp;omega)]
 rfl
def Qy(s:af):List af->List af
 |[]=>[s]
 |x::r=>if Op.bytesLess x s=true then x::Qy s r else if(x==s)=true then s::r else s::x::r
def kk(s:af):List af->Nat
 |[]=>0
 |x::r=>if Op.bytesLess x s=true then kk s r+1 else 0
theorem qgg(s:af):∀l,kk s l<=l.length
 |[]=>vah _
 |x::r=>by have:=qgg s r;unfold kk;split<;>simp<;>omega
theorem qdl(s:af):∀l,Qy s l=l.take (kk s l)++s::l.drop (kk s l+if(l[kk s l]? ==some s)=true then 1 else 0)
 |[]=>by simp[Qy,kk]
 | x :: r => by
  have ih:=qdl s r
  unfold Qy kk
  by_cases h:Op.bytesLess x s=true
  ·rw[vad h,vad h,ih]
   simp only[List.take_succ_cons,List.getElem?_cons_succ,vaG]
   rw[show kk s r+1+(if(r[kk s r]? ==some s)=true then 1 else 0)=(kk s r+if(r[kk s r]? ==some s)=true then 1 else 0)+1 by omega,vb7]
  ·rw[vae h,vae h]
   by_cases hx:(x==s)=true
   ·have:x=s:=by simpa using hx
    simp[this]
   ·have:¬x=s:=by simpa using hx
    simp[this]
theorem OF(s:af):∀l,(Qy s l).length<=l.length+1
 |[]=>by simp[Qy]
 | x :: r => by
  have:=OF s r
  unfold Qy
  split
  ·simp;omega
  ·split<;>simp
theorem VE(s:af):∀l x,x∈Qy s l↔x=s\/x∈l
 |[],x=>by simp[Qy]
 | y :: r,x => by
  have:=VE s r x
  unfold Qy
  by_cases h:Op.bytesLess y s=true
  ·rw[vad h,vaw,this,vaw]
   constructor
   ·rintro(h|h|h)<;>simp[h]
   ·rintro(h|h|h)<;>simp[h]
  ·rw[vae h]
   by_cases hy:(y==s)=true
   ·have e:y=s:=by simpa using hy
    rw[vad hy,e]
    simp
   ·rw[vae hy]
    simp
theorem qac(s:af):∀{l},M3 l->M3 (Qy s l)
 |[],_=>by simp[Qy,M3]
 | x :: r,h => by
  unfold M3 at h ⊢
  rw[vbA]at h
  unfold Qy
  by_cases hx:Op.bytesLess x s=true
  ·rw[vad hx,vbA]
   refine⟨fun y hy=>?_,qac s h.2⟩
   rw[VE]at hy
   rcases hy with rfl|hy
   ·exact hx
   ·exact h.1 y hy
  ·rw [vae hx]
   by_cases he:(x==s)=true
   ·have e:x=s:=by simpa using he
    subst e
    rw[vad he,vbA]
    exact h
   ·have hsx:qa4 s x:=by
     cases hc:Op.bytesLess s x with
     |true=>exact hc
     |false=>
      have:=E2 (by simpa using hx) hc
      simp[this]at he
    rw[vae he,vbA,vbA]
    refine⟨fun y hy=>?_,h⟩
    rw[vaw]at hy
    rcases hy with rfl|hy
    ·exact hsx
    ·exact AO hsx (h.1 y hy)
theorem qaz(s:af):∀(l:List af) (i:Nat) (out:List af),nc (fun i x (out:List af)=>if Op.bytesLess x s=true then(Sum.inl (out++[x]):List af⊕(List af×Nat))else .inr (out,i)) (fun out=>(out,i+l.length)) l i out=(out++l.take (kk s l),i+kk s l)
 |[],i,out=>by simp[nc,kk]
 | x :: l,i,out => by
  have ih:=qaz s l (i+1) (out++[x])
  unfold nc kk
  by_cases h:Op.bytesLess x s=true
  ·simp only[h,if_true]
   rw[show i+(x::l).length=i+1+l.length by simp;omega,ih]
   simp
   omega
  ·simp[h]
theorem Ub{α σ X Y:Type}(g:X->Y)(f:Nat->α->σ->σ⊕X)(e:σ->X):∀(l:List α) (i:Nat) (s:σ),nc (fun i x s=>Sum.map id g (f i x s)) (fun s=>g (e s)) l i s=g (nc f e l i s)
 |[],i,s=>rfl
 |x::l,i,s=>by
  unfold nc
  cases f i x s with
  |inl s'=>exact Ub g f e l (i+1) s'
  |inr y=>rfl
def qdE{σ:Type}(y:σ×Nat):σ×Int:=(y.1,(y.2:Int))
theorem O3(a:List af)(s:af)(ha:a.length<=1000000000):yH a s=some (Qy s a):=by
 unfold yH HS
 have:=kQ a (by omega) (fun i (out:List af)=>(out,i)) (fun zz=>qR a s zz.1 zz.2) (fun i out=>out.length=i)
  (fun i x out=>Sum.map id qdE (if Op.bytesLess x s=true then(Sum.inl (out++[x]):List af⊕(List af×Nat))else .inr (out,i))) (fun out=>qdE (out,0+a.length)) (fun i hi out hI=>by
   have hb:sP a s i=some (Op.bytesLess a[i] s):=by
    simp only[sP]
    rw[vad (by simp;omega),bp _ i hi]
    rfl
   refine⟨?_,fun s' hs'=>?_⟩
   ·simp only[qR]
    rw[hb]
    simp only[vaa]
    by_cases hl:Op.bytesLess a[i] s=true
    ·rw[vad hl,vad hl,bp _ i hi]
     simp only[vaa]
     rw[cQ (by simp;omega)]
     rfl
    ·rw[vae hl,vae hl]
     rfl
   ·by_cases hl:Op.bytesLess a[i] s=true
    ·rw[vad hl]at hs';cases hs';simp;omega
    ·rw[vae hl]at hs';cases hs') (fun out _=>by
   have hb:sP a s a.length=some false:=by
    simp only[sP]
    rw[vae (by simp)]
   simp only[qR]
   rw[hb]
   simp[qdE]) 0 [] (vaN _) rfl
 simp only[Int.ofNat_zero,vaV]at this
 have hm:=Ub qdE (fun i x (out:List af)=>if Op.bytesLess x s=true then(Sum.inl (out++[x]):List af⊕(List af×Nat))else .inr (out,i)) (fun out=>(out,0+a.length)) a 0 []
 rw[this.trans (va3 some hm),qaz s a 0 []]
 simp only[vaC,vaK,vaa,qdE]
 have hk:=qgg s a
 rw[cQ (by simp;omega)]
 simp only[vaa]
 have hj:BA a s (kk s a)=some ((kk s a+if(a[kk s a]? ==some s)=true then 1 else 0:Nat):Int):=by
  unfold BA HR
  by_cases hlt:kk s a<a.length
  ·rw[vad (by simp;omega),bp _ _ hlt]
   simp only[vaa,vab hlt]
   have e:(some a[kk s a]==some s)=(a[kk s a]==s):=rfl
   rw[e]
   by_cases h:(a[kk s a]==s)=true
   ·rw[vad h,vad h,dE (by omega) (by omega)]
    rfl
   ·rw[vae h,vae h]
    rfl
  ·have hn:a[kk s a]? =none:=by simp;omega
   rw[vae (by simp;omega),hn]
   rfl
 rw[hj]
 simp only[vaa]
 have hle:kk s a+(if(a[kk s a]? ==some s)=true then 1 else 0)<=a.length:=by
  by_cases hlt:kk s a<a.length
  ·split<;>omega
  ·have hn:a[kk s a]? =none:=by simp;omega
   rw[hn]
   simp
   omega
 rw[FP a _ hle]
 simp only[vaa]
 rw[cQ (by simp;omega),qdl]
 simp
theorem I2{α σ:Type}(g:σ->α->σ):∀(l:List α) (i:Nat) (s:σ),nc (fun _ x s=>(Sum.inl (g s x):σ⊕σ)) (fun s=>s) l i s=l.foldl g s
 |[],i,s=>rfl
 |x::l,i,s=>I2 g l (i+1) (g s x)
theorem IC:∀(l out:List af),M3 out->M3 (l.foldl (fun o x=>Qy x o) out)/\(∀x,x∈l.foldl (fun o x=>Qy x o) out↔x∈out\/x∈l)/\(l.foldl (fun o x=>Qy x o) out).length<=out.length+l.length
 |[],out,h=>⟨h,by simp,by simp⟩
 | y :: l,out,h => by
  obtain⟨h1,h2,h3⟩:=IC l (Qy y out) (qac y h)
  have:=OF y out
  refine⟨h1,fun x=>?_,by simp only[List.foldl_cons,vaP];omega⟩
  rw[List.foldl_cons,h2,VE,vaw]
  constructor
  ·rintro((h|h)|h)<;>simp[h]
  ·rintro(h|h|h)<;>simp[h]
theorem ki(a b:List af)(ha:a.length<=400000000)(hb:b.length<=400000000):gn a b=some (kv a b):=by
 unfold gn qO qP
 have t1:=kQ a (by omega) (fun i (out:List af)=>(out,i)) (fun zz=>mn a a.length zz.1 zz.2) (fun i out=>out.length<=i) (fun _ x out=>(Sum.inl (Qy x out):List af⊕List af)) (fun o=>o) (fun i hi out hI=>by
   refine⟨?_,fun s' hs'=>?_⟩
   ·simp only[mn]
    rw[vad (by simp;omega),bp _ i hi]
    simp only[vaa]
    rw[O3 _ _ (by omega)]
    rfl
   ·cases hs'
    have:=OF a[i] out
    omega) (fun out _=>by simp only[mn];rw[vae (by simp)]) 0 [] (vaN _) (vah _)
 simp only[Int.ofNat_zero,vaV]at t1
 rw[I2 (fun o x=>Qy x o)]at t1
 obtain⟨f1,f2,f3⟩:=IC a [] (by simp[M3])
 have t2:=kQ b (by omega) (fun i (out:List af)=>(out,i)) (fun zz=>dz b b.length zz.1 zz.2) (fun i out=>out.length<=400000000+i) (fun _ x out=>(Sum.inl (Qy x out):List af⊕List af)) (fun o=>o) (fun i hi out hI=>by
   refine⟨?_,fun s' hs'=>?_⟩
   ·simp only[dz]
    rw[vad (by simp;omega),bp _ i hi]
    simp only[vaa]
    rw[O3 _ _ (by omega)]
    rfl
   ·cases hs'
    have:=OF b[i] out
    omega) (fun out _=>by simp only[dz];rw[vae (by simp)]) 0 (a.foldl (fun o x=>Qy x o) []) (vaN _) (by simp at f3;omega)
 simp only[Int.ofNat_zero,vaV]at t2
 rw[I2 (fun o x=>Qy x o)]at t2
 rw[t1]
 simp only[vaa]
 rw[t2]
 simp only[vaa,vav]
 obtain⟨g1,g2,_⟩:=IC b _ f1
 obtain⟨u1,u2⟩:=I4 a b
 refine CH g1 u1 fun x=>?_
 rw[g2,f2,u2]
 simp
mutual
def nP:aa->Nat
 |⟨_,_,_,ks⟩=>nL ks+1
def nL:List aa->Nat
 |[]=>0
 |p::ps=>nP p+nL ps
end
theorem QV(p:aa):nP p=nL p.Kids+1:=by obtain⟨o,n,k,ks⟩:=p;rw[nP];rfl
theorem VP(p:aa):1<=nP p:=by rw[QV];omega
theorem CN:∀{l:List aa} {x:aa},x∈l->nP x<=nL l
 | y :: l,x,h => by
  rw[nL]
  rcases vaw.1 h with rfl|h
  ·omega
  ·have:=CN h;omega
theorem CM:∀(l:List aa),l.length<=nL l
 |[]=>by simp[nL]
 |p::l=>by rw[nL];have:=CM l;have:=VP p;simp only[vaP];omega
theorem qc{p x:aa}(h:x∈p.Kids):nP x<nP p:=by rw[QV p];have:=CN h;omega
theorem rK(p:aa):p.Kids.length<nP p:=by rw[QV];have:=CM p.Kids;omega
theorem A2:∀(a b:List aa),nL (a++b)=nL a+nL b
 |[],b=>by simp[nL]
 |p::a,b=>by rw[vaG,nL,A2 a b,nL];omega
mutual
theorem qgi:∀(p:aa),nP p<=gi (ac p)
 |⟨o,n,k,ks⟩=>by
  have:=qal ks
  rw[nP,aK]
  simp only[gi,pm,sl]
  show nL ks+1<=1+(n.length+1+(1+(ce (ks.map ac)+1+0)))
  omega
theorem qal:∀(l:List aa),nL l<=ce (l.map ac)
 |[]=>by simp[nL]
 |p::l=>by
  have:=qgi p
  have:=qal l
  rw[nL]
  simp only[vay,ce]
  omega
end
mutual
def qkA:aa->aa->Bool
 |⟨o,n,k,ks⟩,⟨o',n',k',ks'⟩=>(o==o')&&((n==n')&&((k==k')&&qg8 ks ks'))
def qg8:List aa->List aa->Bool
 |[],[]=>true
 |x::xs,y::ys=>qkA x y&&qg8 xs ys
 |_,_=>false
end
mutual
theorem Z1:∀(a b:aa),qkA a b=true↔a=b
 |⟨o,n,k,ks⟩,⟨o',n',k',ks'⟩=>by
  rw[qkA]
  have:=Z0 ks ks'
  simp only[vaj,va6,this,aa.mk.injEq]
theorem Z0:∀(a b:List aa),qg8 a b=true↔a=b
 |[],[]=>by simp[qg8]
 |x::xs,y::ys=>by
  rw[qg8]
  have h1:=Z1 x y
  have h2:=Z0 xs ys
  simp only[vaj,h1,h2,vbv]
 |[],y::ys=>by simp[qg8]
 |x::xs,[]=>by simp[qg8]
end
instance:DecidableEq aa:=fun a b=>decidable_of_iff _ (Z1 a b)
theorem wE(p:aa):(⟨p.Op,p.Name,p.N,p.Kids⟩:aa)=p:=by cases p;rfl
theorem Bj{a b:aa}:a=b↔a.Op=b.Op/\a.Name=b.Name/\a.N=b.N/\a.Kids=b.Kids:=by
 cases a;cases b
 simp only[aa.mk.injEq]
 rfl
theorem qaL{α:Type}[DecidableEq α]:∀{a b:List α},a.length=b.length->(a.zip b).any (fun x=>decide (x.1≠x.2))= !decide (a=b)
 |[],[],_=>by simp
 |x::a,y::b,h=>by
  have ih:=qaL (a:=a) (b:=b) (by simpa using h)
  rw[List.zip_cons_cons,List.any_cons,ih]
  by_cases h1:x=y<;>by_cases h2:a=b<;>simp[h1,h2]
theorem XG{α X:Type}[DecidableEq α]{a b:List α}(hl:a.length=b.length)(ha:a.length<9223372036854775808)(body:Int->Option (Int⊕X))(y e:X)
  (hin:∀(i:Nat) (h:i<a.length) (h':i<b.length),body i=some (if decide (a[i]=b[i])=true then .inl (aS ((i:Int)+1))else .inr y)) (hend:body a.length=some (.inr e)):loop body 0=some (if decide (a=b)=true then e else y):=by
 have hz:(a.zip b).length=a.length:=by simp[hl]
 have:=Kr (a.zip b) (by omega) body (fun x=>decide (x.1≠x.2)) y e (fun i h=>?_) (by rw[hz];exact hend) 0 (vaN _)
 ·rw[vaV,qaL hl]at this
  rw[show((0:Nat):Int)=0 from rfl]at this
  rw[this]
  by_cases h:a=b<;>simp[h]
 ·have h1:i<a.length:=by omega
  have h2:i<b.length:=by omega
  rw[hin i h1 h2]
  have hzi:(a.zip b)[i]=(a[i],b[i]):=by simp
  rw[hzi]
  by_cases h:a[i]=b[i]<;>simp[h]
abbrev bm:Nat:=1073741824
theorem eg{n:Nat}(h:n<=bm):n<qeD:=by have:=qg0;unfold bm at h;omega
theorem qc4{R:aa->aa->Option Bool}{a b:List aa}(ha:a.length<=bm)(h:∀x∈a,∀y∈b,R x y=some (decide (x=y))):CR R a b=some (decide (a=b)):=by
 unfold CR
 by_cases hl:a.length=b.length
 ·rw[vae (by simp[hl])]
  unfold Al
  rw[XG hl (by unfold bm at ha;omega) (fun zz=>kT R a b (a.length:Int) zz) (.inl ()) (.inr ()) (fun i h1 h2=>?_) ?_]
  ·by_cases he:a=b<;>simp[he]
  ·unfold kT
   rw[vae (by simp)]
  ·unfold kT
   rw[vad (by simp;omega),bp a i h1]
   simp only[vaa]
   rw[bp b i h2]
   simp only[vaa]
   rw[h _ (vak h1) _ (vak h2)]
   simp only[vaa]
   by_cases he:a[i]=b[i]<;>simp[he]
 ·rw[vad (by simp;omega)]
  rw[decide_eq_false (fun he=>hl (by rw[he]))]
theorem KZ(a b:aa)(ha:nP a<=bm):j3 a b=some (decide (a=b)):=by
 refine eP (F:=FD) (fun x=>nP x.1) (fun x=>nP x.1<=bm) (fun x=>decide (x.1=x.2)) (fun R x hx ih=>?_) (a,b) ha (eg ha)
 obtain⟨u,v⟩:=x
 have hx:nP u<=bm:=hx
 show zg (fun a a2=>R (a,a2)) u v=some (decide (u=v))
 unfold zg
 have hk:=rK u
 by_cases h1:u.Op=v.Op
 ·by_cases h2:u.Name=v.Name
  ·by_cases h3:u.N=v.N
   ·rw[vad (by simpa using h1),vad (by simpa using h2),vad (by simpa using h3)]
    rw[qc4 (a:=u.Kids) (b:=v.Kids) (by omega) (fun x hxa y hyb=>ih (x,y) (qc hxa) (vcB (vaJ (qc hxa) hx)))]
    simp[Bj (a:=u) (b:=v),h1,h2,h3]
   ·rw[vad (by simpa using h1),vad (by simpa using h2),vae (by simpa using h3)]
    simp[Bj (a:=u) (b:=v),h3]
  ·rw[vad (by simpa using h1),vae (by simpa using h2)]
   simp[Bj (a:=u) (b:=v),h2]
 ·rw[vae (by simpa using h1)]
  simp[Bj (a:=u) (b:=v),h1]
theorem Tv(p:aa)(hp:nP p<=bm):qA p=some p:=by
 refine eP (F:=tY) nP (fun x=>nP x<=bm) id (fun R x hx ih=>?_) p hp (eg hp)
 unfold tY Ak yi
 have hlen:=rK x
 rw[XF x.Kids (by unfold bm at hx;omega) (fun i s=>(i,s)) _ id id (fun i hi s hs=>?_) (fun s=>?_)]
 ·simp[wE]
 ·unfold nJ
  rw[vad (by simp;omega),bp x.Kids i hi]
  simp only[vaa]
  have hm:=vak hi
  rw[ih _ (qc hm) (vcB (vaJ (qc hm) hx))]
  simp only[vaa]
  rw[cQ (by unfold bm at hx;simp;omega)]
  rfl
 ·unfold nJ
  rw[vae (by simp)]
  rfl
theorem Rt(a b:aa)(hb:nP b<=bm):qT a b=some (decide (a=b)):=by
 refine eP (F:=HU) (fun x=>nP x.2) (fun x=>nP x.2<=bm) (fun x=>decide (x.1=x.2)) (fun R x hx ih=>?_) (a,b) hb (eg hb)
 obtain⟨u,v⟩:=x
 have hx:nP v<=bm:=hx
 show BI (fun a a2=>R (a,a2)) u v=some (decide (u=v))
 unfold BI D4
 have hk:=rK v
 by_cases h1:u.Op=v.Op
 ·by_cases h2:u.Name=v.Name
  ·by_cases h3:u.N=v.N
   ·by_cases h4:u.Kids.length=v.Kids.length
    ·rw[vae (by simpa using h1),vae (by simpa using h2),vae (by simpa using h3)]
     simp only[h4,bne_self_eq_false,vaa,if_false,va5]
     unfold D5
     rw[<-h4,XG h4 (by unfold bm at hx;omega) _ (.inl ()) (.inr ()) (fun i g1 g2=>?_) ?_]
     ·by_cases he:u.Kids=v.Kids<;>simp[he,Bj (a:=u) (b:=v),h1,h2,h3]
     ·unfold tF
      rw[vae (by simp)]
     ·unfold tF
      rw[vad (by simp;omega),bp u.Kids i g1]
      simp only[vaa]
      rw[bp v.Kids i g2]
      simp only[vaa]
      have hm:=vak g2
      rw[ih (u.Kids[i],v.Kids[i]) (qc hm) (vcB (vaJ (qc hm) hx))]
      by_cases he:u.Kids[i]=v.Kids[i]<;>simp[he]
    ·have hne:u≠v:=fun e=>h4 (by rw[e])
     rw[vae (by simpa using h1),vae (by simpa using h2),vae (by simpa using h3)]
     have hb:((u.Kids.length:Int)!=(v.Kids.length:Int))=true:=by simp;omega
     simp[hb,hne]
   ·have hne:u≠v:=fun e=>h3 (by rw[e])
    rw[vae (by simpa using h1),vae (by simpa using h2),vad (by simpa using h3)]
    simp[hne]
  ·have hne:u≠v:=fun e=>h2 (by rw[e])
   rw[vae (by simpa using h1),vad (by simpa using h2)]
   simp[hne]
 ·have hne:u≠v:=fun e=>h1 (by rw[e])
  rw[vad (by simpa using h1)]
  simp[hne]
def gU:aa:=⟨0,[],0,[]⟩
def qC:aa:=⟨2,[],1,[]⟩
def Fh:aa:=⟨2,[],0,[]⟩
def Un(p:aa):Bool:=decide (p=gU)||decide (p=qC)
theorem qfU(p:aa)(hp:nP p<=bm):Bd p=some (Un p):=by
 have h1:j3 p (⟨0,([]:af),0,([]:List aa)⟩:aa)=some (decide (p=gU)):=KZ p gU hp
 have h2:j3 p (⟨2,([]:af),1,([]:List aa)⟩:aa)=some (decide (p=qC)):=KZ p qC hp
 unfold Bd g9 Un
 rw[h1]
 simp only[vaa,if_true,h2]
 cases decide (p=gU)<;>rfl
theorem qam:nP gU<=bm:=by decide
theorem Ua{α σ X:Type}(g:α->σ->σ)(e:σ->X):∀(l:List α) (i:Nat) (s:σ),nc (fun _ x (s:σ)=>(Sum.inl (g x s):σ⊕X)) e l i s=e (l.foldl (fun s x=>g x s) s)
 |[],i,s=>by simp[nc]
 |x::l,i,s=>by
  unfold nc
  simp only
  rw[Ua g e l (i+1) (g x s)]
  rfl
theorem qby{α σ τ X:Type}(l:List α)(hl:l.length<9223372036854775808)(mk:Int->σ->τ)(body:τ->Option (τ⊕X))(I:Nat->σ->Prop)(g:α->σ->σ)(e:σ->X)(s0:σ)(h0:I 0 s0)
  (hin:∀(i:Nat) (h:i<l.length) s,I i s->body (mk i s)=some (.inl (mk (aS ((i:Int)+1)) (g l[i] s)))/\I (i+1) (g l[i] s)) (hend:∀s,I l.length s->body (mk l.length s)=some (.inr (e s))):
  loop body (mk 0 s0)=some (e (l.foldl (fun s x=>g x s) s0)):=by
 have:=kQ l hl mk body I (fun _ x s=>.inl (g x s)) e (fun i h s hs=>⟨(hin i h s hs).1,fun s' hs'=>by cases hs';exact(hin i h s hs).2⟩) (fun s hs=>hend s hs) 0 s0 (vaN _) h0
 rw[Ua]at this
 exact this
theorem ze(l:List aa)(i:Nat)(h:i<l.length):nL (l.take (i+1))=nL (l.take i)+nP l[i]:=by
 rw[vaM h,A2]
 simp[nL]
theorem qd(l:List aa)(i:Nat):nL (l.take i)<=nL l:=by
 have:=A2 (l.take i) (l.drop i)
 rw[vcy]at this
 omega
theorem Z9:∀(l:List aa) (a:Int),l.foldl (fun s x=>s+(nP x:Int)) a=a+(nL l:Int)
 |[],a=>by simp[nL]
 |x::l,a=>by rw[List.foldl_cons,Z9 l,nL];omega
theorem qdF(p:aa)(hp:nP p<=bm):Lh p=some (nP p:Int):=by
 refine eP (F:=D3) nP (fun x=>nP x<=bm) (fun x=>(nP x:Int)) (fun R x hx ih=>?_) p hp (eg hp)
 show yJ (fun p=>R p) x=_
 unfold yJ BH
 have hlen:=rK x
 have hn:=QV x
 rw[qby x.Kids (by unfold bm at hx;omega) (fun i s=>(s,i)) _ (fun i s=>s=1+(nL (x.Kids.take i):Int)) (fun x s=>s+(nP x:Int)) id 1 (by simp[nL]) (fun i hi s hs=>?_) (fun s _=>?_)]
 ·rw[Z9]
  simp only[id,vaa]
  rw[hn];congr 1;omega
 ·have hm:=vak hi
  have hk:=qc hm
  refine⟨?_,by rw[ze _ _ hi,hs];omega⟩
  unfold qS
  rw[vad (by simp;omega),bp x.Kids i hi]
  simp only[vaa]
  rw[ih _ hk (by omega)]
  simp only[vaa]
  have h1:=qd x.Kids i
  have h2:=qd x.Kids (i+1)
  have h3:=ze x.Kids i hi
  unfold bm at hx
  rw[dE (n:=s+_) (by omega) (by omega)]
 ·unfold qS
  rw[vae (by simp)]
  rfl
def qeW(s:Option aa)(x:aa):aa:=match s with
 |none=>x
 |some q=>⟨15,[],0,[q,x]⟩
def qaY:List aa->Option aa->aa
 |[],s=>s.getD qC
 |x::l,s=>if Un x=true then qaY l s else if x=Fh then Fh else qaY l (some (qeW s x))
abbrev T8:Type:=Int×af×Int×List aa×Int×af×Int×List aa
def t8(a b:aa):T8:=(a.Op,a.Name,a.N,a.Kids,b.Op,b.Name,b.N,b.Kids)
def ZQ:T8⊕T8->aa
 |.inl o=>⟨o.1,o.2.1,o.2.2.1,o.2.2.2.1⟩
 |.inr o=>⟨o.2.2.2.2.1,o.2.2.2.2.2.1,o.2.2.2.2.2.2.1,o.2.2.2.2.2.2.2⟩
def qcD(x:aa)(s:Option aa):Option aa⊕(T8⊕T8):=
 if Un x=true then .inl s else if x=Fh then .inr (.inl (t8 Fh (s.getD qC)))else .inl (some (qeW s x))
theorem PZ:∀(l:List aa) (i:Nat) (s:Option aa),ZQ (nc (fun _ x s=>qcD x s) (fun s=>.inr (t8 gU (s.getD qC))) l i s)=qaY l s
 |[],i,s=>by simp[nc,qaY,ZQ,t8,wE]
 | x :: l,i,s => by
  unfold nc qaY qcD
  by_cases h1:Un x=true
  ·simp only[h1,if_true]
   exact PZ l (i+1) s
  ·by_cases h2:x=Fh
   ·simp only[h1,h2,if_true]
    rfl
   ·simp only[h1,h2,if_false]
    exact PZ l (i+1) _
theorem qcE(l:List aa)(hl:∀x∈l,nP x<=bm)(hn:l.length<9223372036854775808):KJ l=some (qaY l none):=by
 unfold KJ FB
 have h:=kQ l hn (fun i (s:Option aa)=>(s.isSome,i,(0:Int),([]:af),(0:Int),([]:List aa),(s.getD qC).Op,(s.getD qC).Name,(s.getD qC).N,(s.getD qC).Kids))
  (fun zz=>g8 l (l.length:Int) zz.1 zz.2.1 zz.2.2.1 zz.2.2.2.1 zz.2.2.2.2.1 zz.2.2.2.2.2.1 zz.2.2.2.2.2.2.1 zz.2.2.2.2.2.2.2.1 zz.2.2.2.2.2.2.2.2.1 zz.2.2.2.2.2.2.2.2.2) (fun _ _=>True) (fun _ x s=>qcD x s) (fun s=>.inr (t8 gU (s.getD qC)))
  (fun i hi s _=>⟨?_,fun _ _=>trivial⟩) (fun s _=>?_) 0 none (vaN _) trivial
 ·have hr:=PZ l 0 none
  rw[vaV]at h
  have hc:g9 true=some qC:=rfl
  rw[hc]
  simp only[vaa]
  have h':loop (fun(zz:Bool×Int×Int×af×Int×(List aa)×Int×af×Int×(List aa))=>g8 l (l.length:Int) zz.1 zz.2.1 zz.2.2.1 zz.2.2.2.1 zz.2.2.2.2.1 zz.2.2.2.2.2.1 zz.2.2.2.2.2.2.1 zz.2.2.2.2.2.2.2.1 zz.2.2.2.2.2.2.2.2.1 zz.2.2.2.2.2.2.2.2.2) (false,0,0,([]:af),0,([]:List aa),qC.Op,qC.Name,qC.N,qC.Kids)=_:=h
  rw[h']
  simp only[vaa]
  rw[<-hr]
  cases nc (fun _ x s=>qcD x s) (fun s=>Sum.inr (t8 gU (s.getD qC))) l 0 none<;>rfl
 ·show g8 l (l.length:Int) s.isSome (i:Int) 0 [] 0 [] _ _ _ _=_
  unfold g8 qcD
  have hx:=hl _ (vak hi)
  rw[vad (by simp;omega),bp l i hi]
  simp only[vaa]
  generalize l[i]=x at hx
  rw[qfU x hx]
  simp only[vaa]
  by_cases h1:Un x=true
  ·simp only[h1,if_true]
  ·have hc:g9 false=some Fh:=rfl
   simp only[h1,if_false,hc,vaa,KZ x Fh hx]
   by_cases h2:x=Fh
   ·simp only[h2,decide_true,if_true]
    rfl
   ·simp only[h2,decide_false,if_false,va5,Tv x hx,vaa]
    cases s with
    |none=>simp[qeW]
    |some q=>
     simp[qeW,wE]
     exact⟨rfl,rfl,rfl,rfl⟩
 ·show g8 l (l.length:Int) s.isSome (l.length:Int) 0 [] 0 [] _ _ _ _=_
  unfold g8
  rw[vae (by simp)]
  rfl
theorem Xh{l:List af}{v:af}:(match l.findIdx? (fun x=>x==v)with|some j=>(j:Int)|none=>-1)>=0↔v∈l:=by
 cases h:l.findIdx? (fun x=>x==v)with
 | none =>
  rw[vch]at h
  simp only
  constructor
  ·intro h';omega
  ·intro hm;have:=h v hm;simp at this
 | some j =>
  obtain⟨hj,h1,_⟩:=List.findIdx?_eq_some_iff_getElem.1 h
  simp only
  constructor
  ·intro _
   have:l[j]=v:=by simpa using h1
   exact this▸vak hj
  ·intro _;omega
theorem Rq(l:List af)(v:af)(hl:l.length<9223372036854775808):gM l v=some (match l.findIdx? (fun x=>x==v)with|some j=>(j:Int)|none=>-1):=by
 unfold gM yD
 have h:=Mb l hl (fun zz=>eT l v (l.length:Int) zz) (fun x=>x==v) (fun j=>Sum.inl (j:Int)) (.inr ()) (fun i hi=>?_) ?_
 ·rw[h]
  simp only[vaa]
  cases l.findIdx? (fun x=>x==v)<;>rfl
 ·show eT l v (l.length:Int) (i:Int)=_
  unfold eT
  rw[vad (by simp;omega),bp l i hi]
  simp only[vaa]
  by_cases he:(l[i]==v)=true<;>simp[he]
 ·show eT l v (l.length:Int) (l.length:Int)=_
  unfold eT
  rw[vae (by simp)]
theorem Xq(l:List af)(v:af)(hl:l.length<9223372036854775808):sj l v=some (match l.findIdx? (fun x=>x==v)with|some j=>(j:Int)|none=>-1):=by
 unfold sj vH
 have h:=Mb l hl (fun zz=>fe l v (l.length:Int) zz) (fun x=>x==v) (fun j=>Sum.inl (j:Int)) (.inr ()) (fun i hi=>?_) ?_
 ·rw[h]
  simp only[vaa]
  cases l.findIdx? (fun x=>x==v)<;>rfl
 ·show fe l v (l.length:Int) (i:Int)=_
  unfold fe
  rw[vad (by simp;omega),bp l i hi]
  simp only[vaa]
  by_cases he:v=l[i]
  ·subst he;simp
  ·have he':¬l[i]=v:=fun h=>he h.symm
   simp[he,he']
 ·show fe l v (l.length:Int) (l.length:Int)=_
  unfold fe
  rw[vae (by simp)]
theorem y4(l:List af)(v:af)(hl:l.length<9223372036854775808):fq l v=some (decide (v∈l)):=by
 unfold fq
 rw[Xq l v hl]
 simp only[vaa]
 congr 1
 exact decide_eq_decide.2 Xh
def fC{α:Type}(o:Option α)(Q:α->Prop):Prop:=∃a,o=some a/\Q a
section
variable{α β σ τ X Y:Type}
theorem aq{a:α}{Q:α->Prop}(h:Q a):fC (some a) Q:=⟨a,rfl,h⟩
theorem Wi{o:Option α}{a:α}{Q:α->Prop}(e:o=some a)(h:Q a):fC o Q:=⟨a,e,h⟩
theorem ax{o:Option α}{f:α->Option β}{R:α->Prop}{Q:β->Prop}(h:fC o R)(h':∀a,R a->fC (f a) Q):fC (o.bind f) Q:=by
 obtain⟨a,rfl,h⟩:=h
 exact h' a h
theorem cW{o:Option α}{a:α}{f:α->Option β}{Q:β->Prop}(e:o=some a)(h:fC (f a) Q):fC (o.bind f) Q:=by
 rw[e];exact h
theorem fC.mono{o:Option α}{Q R:α->Prop}(h:fC o Q)(h':∀a,Q a->R a):fC o R:=by
 obtain⟨a,e,h⟩:=h
 exact⟨a,e,h' a h⟩
theorem aU{c:Prop}[Decidable c]{a b:Option α}{Q:α->Prop}(h1:c->fC a Q)(h2:¬c->fC b Q):fC (if c then a else b) Q:=by
 by_cases h:c
 ·rw[vad h];exact h1 h
 ·rw[vae h];exact h2 h
theorem pE{F:(X->Option Y)->X->Option Y}(μ:X->Nat)(P:X->Prop)(Q:X->Y->Prop)(h:∀(R:X->Option Y) x,P x->(∀y,μ y<μ x->P y->fC (R y) (Q y))->fC (F R x) (Q x))(x:X)(hx:P x)(hm:μ x<qeD):fC (kK F x) (Q x):=by
 have key:∀n x,μ x<n->P x->fC (qiW F n x) (Q x):=by
  intro n
  induction n with
  |zero=>intro x hx;omega
  |succ n ih=>intro x hx hq;exact h _ x hq fun y hy hqy=>ih y (by omega) hqy
 exact key _ x hm hx
theorem Bk(l:List α)(hl:l.length<9223372036854775808)(mk:Int->σ->τ){body:τ->Option (τ⊕X)}(I:Nat->σ->Prop){Q:X->Prop}
  (hin:∀(i:Nat) (h:i<l.length) s,I i s->fC (body (mk i s)) (fun r=>match r with|.inl t=>∃s',t=mk (aS ((i:Int)+1)) s'/\I (i+1) s'|.inr y=>Q y))
  (hend:∀s,I l.length s->fC (body (mk l.length s)) (fun r=>match r with|.inl _=>False|.inr y=>Q y)):∀s,I 0 s->fC (loop body (mk 0 s)) Q:=by
 have key:∀k i s,k+i=l.length->I i s->fC (loop body (mk (i:Int) s)) Q:=by
  intro k
  induction k with
  |zero=>
   intro i s hi hI
   have:i=l.length:=by omega
   subst this
   obtain⟨r,e,hr⟩:=hend s hI
   rw[kq,e]
   cases r with
   |inl _=>exact hr.elim
   |inr y=>exact⟨y,rfl,hr⟩
  | succ k ih =>
   intro i s hi hI
   obtain⟨r,e,hr⟩:=hin i (by omega) s hI
   rw[kq,e]
   cases r with
   |inl t=>
    obtain⟨s',rfl,hI'⟩:=hr
    simp only
    rw[dE (by omega) (by omega),show((i:Int)+1)=((i+1:Nat):Int) by omega]
    exact ih (i+1) s' (by omega) hI'
   |inr y=>exact⟨y,rfl,hr⟩
 exact fun s hs=>key l.length 0 s (by omega) hs
end
section
variable{α β σ τ X Y:Type}
theorem qv(l:List α)(hl:l.length<=1073741824)(mk:Int->List β->τ)(body:τ->Option (τ⊕X))(h:α->Option β)(g:α->β)(e:List β->X)
  (hb:∀(i:Int) (s:List β),body (mk i s)=if decide (i<(l.length:Int))=true then(cz l i).bind (fun x=>(h x).bind fun r=>(app s ([r]:List β)).bind fun q=>some (.inl (mk (aS (i+1)) q)))else some (.inr (e s)))
  (hg:∀x∈l,h x=some (g x)):loop body (mk 0 [])=some (e (l.map g)):=by
 refine XF l (by omega) mk body g e (fun i hi s hs=>?_) (fun s=>?_)
 ·rw[hb,vad (by simp;omega),bp l i hi]
  simp only[vaa]
  rw[hg _ (vak hi)]
  simp only[vaa]
  rw[cQ (by simp;omega)]
  rfl
 ·rw[hb,vae (by simp)]
theorem qbx(l:List α)(hl:l.length<9223372036854775808)(body:Int->Option (Int⊕X))(k:Int->α->Option (Int⊕X))(p:α->Bool)(y e:X)
  (hb:∀(i:Int),body i=if decide (i<(l.length:Int))=true then(cz l i).bind (k i)else some (.inr e))
  (hk:∀x∈l,∀i,k i x=some (if p x=true then .inr y else .inl (aS (i+1)))):loop body 0=some (if l.any p=true then y else e):=by
 have:=Kr l hl body p y e (fun i hi=>?_) (by rw[hb,vae (by simp)]) 0 (vaN _)
 ·rw[vaV]at this
  exact this
 ·rw[hb,vad (by simp;omega),bp l i hi]
  simp only[vaa]
  exact hk _ (vak hi) i
theorem io(l:List α)(hl:l.length<9223372036854775808)(mk:Int->σ->τ)(body:τ->Option (τ⊕X))(k:Int->σ->α->Option (τ⊕X))(I:Nat->σ->Prop)(g:α->σ->σ)(e:σ->X)(s0:σ)(h0:I 0 s0)
  (hb:∀(i:Int) (s:σ),body (mk i s)=if decide (i<(l.length:Int))=true then(cz l i).bind (k i s)else some (.inr (e s)))
  (hin:∀(i:Nat) (h:i<l.length) s,I i s->k i s l[i]=some (.inl (mk (aS ((i:Int)+1)) (g l[i] s)))/\I (i+1) (g l[i] s)):loop body (mk 0 s0)=some (e (l.foldl (fun s x=>g x s) s0)):=by
 have:=kQ l hl mk body I (fun _ x s=>.inl (g x s)) e (fun i h s hs=>⟨?_,fun s' hs'=>by cases hs';exact(hin i h s hs).2⟩) (fun s hs=>by rw[hb,vae (by simp)]) 0 s0 (vaN _) h0
 ·rw[vaV,show((0:Nat):Int)=0 from rfl]at this
  rw[this]
  have key:∀(l:List α) (i:Nat) (s:σ),nc (fun _ x (s:σ)=>(Sum.inl (g x s):σ⊕X)) e l i s=e (l.foldl (fun s x=>g x s) s):=by
   intro l
   induction l with
   |nil=>intro i s;rfl
   |cons x l ih=>intro i s;unfold nc;simp only;rw[ih];rfl
  rw[key]
 ·rw[hb,vad (by simp;omega),bp l i h]
  simp only[vaa]
  exact(hin i h s hs).1
theorem Uj(l:List α)(hl:l.length<9223372036854775808)(mk:Int->σ->τ){body:τ->Option (τ⊕X)}(k:Int->σ->α->Option (τ⊕X))(e:σ->X)(I:Nat->σ->Prop){Q:X->Prop}
  (hb:∀(i:Int) (s:σ),body (mk i s)=if decide (i<(l.length:Int))=true then(cz l i).bind (k i s)else some (.inr (e s)))
  (hin:∀(i:Nat) (h:i<l.length) s,I i s->fC (k i s l[i]) (fun r=>match r with|.inl t=>∃s',t=mk (aS ((i:Int)+1)) s'/\I (i+1) s'|.inr y=>Q y))
  (hend:∀s,I l.length s->Q (e s)):∀s,I 0 s->fC (loop body (mk 0 s)) Q:=
 Bk l hl mk I (fun i h s hs=>by
  rw[hb,vad (by simp;omega),bp l i h]
  exact hin i h s hs) (fun s hs=>by
  rw[hb,vae (by simp)]
  exact⟨_,rfl,hend s hs⟩)
theorem qcj(l:List α)(hl:l.length<9223372036854775808){body:Int->Option (Int⊕X)}(k:Int->α->Option (Int⊕X))(e:X)(I:Nat->Prop){Q:X->Prop}
  (hb:∀(i:Int),body i=if decide (i<(l.length:Int))=true then(cz l i).bind (k i)else some (.inr e))
  (hin:∀(i:Nat) (h:i<l.length),I i->fC (k i l[i]) (fun r=>match r with|.inl t=>t=aS ((i:Int)+1)/\I (i+1)|.inr y=>Q y))
  (hend:I l.length->Q e) (h0:I 0):fC (loop body 0) Q:=
 Uj l hl (fun i (_:Unit)=>i) (fun i _=>k i) (fun _=>e) (fun i _=>I i) (fun i _=>hb i) (fun i h s hs=>(hin i h hs).mono fun r hr=>by
  cases r with
  |inl t=>exact⟨(),hr.1,hr.2⟩
  |inr y=>exact hr) (fun _ h=>hend h) () h0
end
def Du{α:Type}(p:α->α->Bool):List α->List α->Bool
 |[],[]=>true
 |x::a,y::b=>p x y&&Du p a b
 |_,_=>false
theorem WX{α:Type}{p:α->α->Bool}:∀{a b:List α},Du p a b=true->a.length=b.length
 |[],[],_=>rfl
 |x::a,y::b,h=>by
  rw[Du,vaj]at h
  simp[WX h.2]
 |[],y::b,h=>by simp[Du]at h
 |x::a,[],h=>by simp[Du]at h
theorem ZM{α:Type}{p:α->α->Bool}:∀{a b:List α},a.length≠b.length->Du p a b=false:=fun{a b} h=>by
 rw[vco]
 exact fun he=>h (WX he)
theorem WY{α:Type}{p:α->α->Bool}:∀{a b:List α},a.length=b.length->(a.zip b).any (fun x=>!p x.1 x.2)= !Du p a b
 |[],[],_=>rfl
 |x::a,y::b,h=>by
  rw[List.zip_cons_cons,List.any_cons,WY (by simpa using h),Du]
  cases p x y<;>rfl
theorem TL{α X:Type}{a b:List α}(hl:a.length=b.length)(ha:a.length<9223372036854775808)(body:Int->Option (Int⊕X))(k:Int->α->α->Option (Int⊕X))(p:α->α->Bool)(y e:X)
  (hb:∀(i:Int),body i=if decide (i<(a.length:Int))=true then(cz a i).bind (fun x=>(cz b i).bind (k i x))else some (.inr e))
  (hk:∀x∈a,∀z∈b,∀i,k i x z=some (if p x z=true then .inl (aS (i+1))else .inr y)):loop body 0=some (if Du p a b=true then e else y):=by
 have hz:(a.zip b).length=a.length:=by simp[hl]
 have:=Kr (a.zip b) (by omega) body (fun x=>!p x.1 x.2) y e (fun i h=>?_) (by rw[hb,vae (by simp[hz])]) 0 (vaN _)
 ·rw[vaV,WY hl]at this
  rw[show((0:Nat):Int)=0 from rfl]at this
  rw[this]
  by_cases h:Du p a b=true<;>simp[h]
 ·have h1:i<a.length:=by omega
  have h2:i<b.length:=by omega
  rw[hb,vad (by simp;omega),bp a i h1]
  simp only[vaa]
  rw[bp b i h2]
  simp only[vaa]
  rw[hk _ (vak h1) _ (vak h2)]
  have hzi:(a.zip b)[i]=(a[i],b[i]):=by simp
  rw[hzi]
  by_cases h:p a[i] b[i]=true<;>simp[h]
theorem AT{α:Type}(l:List α)(h:l.length<=1073741824):n8 l=some l:=vad h
mutual
def dP:aa->Nat
 |⟨_,_,_,ks⟩=>dL ks+1
def dL:List aa->Nat
 |[]=>0
 |p::ps=>max (dP p) (dL ps)
end
theorem qiT(p:aa):dP p=dL p.Kids+1:=by obtain⟨o,n,k,ks⟩:=p;rw[dP];rfl
mutual
theorem qf9:∀(p:aa),dP p<=nP p
 |⟨o,n,k,ks⟩=>by have:=qf8 ks;rw[dP,nP];omega
theorem qf8:∀(l:List aa),dL l<=nL l
 |[]=>by simp[dL]
 |p::l=>by have:=qf9 p;have:=qf8 l;rw[dL,nL];omega
end
theorem Z8:∀(l:List aa) (a:Nat),l.foldl (fun(s:Int) x=>if(dP x:Int)>s then(dP x:Int)else s) (a:Int)=((max a (dL l):Nat):Int)
 |[],a=>by simp[dL]
 |x::l,a=>by
  rw[List.foldl_cons,show(if(dP x:Int)>(a:Int)then(dP x:Int)else(a:Int))=((max a (dP x):Nat):Int) by split<;>omega,Z8 l,dL,Nat.max_assoc]
theorem qc1(p:aa)(hp:nP p<=bm):Lf p=some (dP p:Int):=by
 refine eP (F:=DY) nP (fun x=>nP x<=bm) (fun x=>(dP x:Int)) (fun R x hx ih=>?_) p hp (eg hp)
 show yI (fun p=>R p) x=_
 unfold yI BF
 have hlen:=rK x
 have hd:=qf9 x
 have he:=qiT x
 have hz:(0:Int)=((0:Nat):Int):=rfl
 rw[io x.Kids (by unfold bm at hx;omega) (fun i s=>(s,i)) _ (fun i s x=>(R x).bind fun r=>some (.inl ((if r>s then r else s),aS (i+1)))) (fun _ _=>True) (fun x s=>if(dP x:Int)>s then(dP x:Int)else s) id 0 trivial (fun i s=>rfl) (fun i hi s _=>⟨?_,trivial⟩)]
 ·rw[hz,Z8]
  simp only[id,vaa]
  unfold bm at hx
  rw[dE (by omega) (by omega)]
  congr 1;omega
 ·have hm:=vak hi
  have hk:=qc hm
  rw[ih _ hk (by omega)]
  rfl
def pu(ns:List af)(bs:List aa)(n:af):Option aa:=(ns.findIdx? (fun x=>x==n)).bind fun j=>bs[j]?
mutual
def G6(f:af->Option aa):aa->aa
 |⟨o,n,k,ks⟩=>(if o=3 then f n else none).getD ⟨o,n,k,qaE f ks⟩
def qaE(f:af->Option aa):List aa->List aa
 |[]=>[]
 |p::ps=>G6 f p::qaE f ps
end
theorem Wb(f:af->Option aa):∀(l:List aa),qaE f l=l.map (G6 f)
 |[]=>by rw[qaE];rfl
 |p::l=>by rw[qaE,Wb f l];rfl
theorem qel(f:af->Option aa)(p:aa):G6 f p=(if p.Op=3 then f p.Name else none).getD ⟨p.Op,p.Name,p.N,p.Kids.map (G6 f)⟩:=by
 obtain⟨o,n,k,ks⟩:=p
 rw[G6,Wb];rfl
mutual
theorem qgm(f:af->Option aa)(M:Nat)(hM:1<=M)(hf:∀n q,f n=some q->nP q<=M):∀(p:aa),nP (G6 f p)<=nP p * M
 | ⟨o,n,k,ks⟩ => by
  have:=qgl f M hM hf ks
  rw[G6]
  cases h:(if o=3 then f n else none)with
  |none=>
   simp only[Option.getD_none]
   rw[nP,nP,va8];omega
  | some q =>
   simp only[Option.getD_some]
   have:f n=some q:=by
    split at h
    ·exact h
    ·cases h
   have:=hf n q this
   rw[nP,va8]
   have:0<=nL ks * M:=vaN _
   omega
theorem qgl(f:af->Option aa)(M:Nat)(hM:1<=M)(hf:∀n q,f n=some q->nP q<=M):∀(l:List aa),nL (qaE f l)<=nL l * M
 |[]=>by simp[qaE,nL]
 |p::l=>by
  have:=qgm f M hM hf p
  have:=qgl f M hM hf l
  rw[qaE,nL,nL,va8];omega
end
theorem qdv{ns:List af}{bs:List aa}{n:af}{q:aa}(h:pu ns bs n=some q):q∈bs:=by
 unfold pu at h
 cases hf:ns.findIdx? (fun x=>x==n)with
 |none=>rw[hf]at h;cases h
 |some j=>
  rw[hf]at h
  exact vaA h
theorem qhn(ns:List af)(bs:List aa)(p:aa)(hn:ns.length<9223372036854775808):pG ns bs p=some ((if p.Op=3 then pu ns bs p.Name else none).elim (.inr ()) (fun q=>.inl (q.Op,q.Name,q.N,q.Kids))):=by
 unfold pG uU pu
 by_cases h1:p.Op=3
 ·rw[vad (by simpa using h1),Rq ns p.Name hn,vad h1]
  simp only[vaa]
  cases hf:ns.findIdx? (fun x=>x==p.Name)with
  |none=>rfl
  | some j =>
   simp only[vaa]
   rw[vad (vbk (show(j:Int)>=0 by omega))]
   simp only[vaa]
   by_cases h2:j<bs.length
   ·rw[vad (vbk (by omega)),bp bs j h2,vab h2]
    rfl
   ·rw[vae (by simp;omega),vat (by omega)]
    rfl
 ·rw[vae (by simpa using h1),vae h1]
  rfl
theorem V9(p:aa)(ns:List af)(bs:List aa)(hp:nP p<=bm)(hn:ns.length<9223372036854775808):nq p ns bs=some (G6 (pu ns bs) p):=by
 refine eP (F:=wX) (fun x=>nP x.1) (fun x=>nP x.1<=bm/\x.2=(ns,bs)) (fun x=>G6 (pu x.2.1 x.2.2) x.1) (fun R x hx ih=>?_) (p,ns,bs) ⟨hp,rfl⟩ (eg hp)
 obtain⟨p,ns',bs'⟩:=x
 obtain⟨hx,he⟩:=hx
 cases he
 have hx:nP p<=bm:=hx
 show qU (fun p names a=>R (p,names,a)) p ns bs=some (G6 (pu ns bs) p)
 unfold qU
 rw[qhn ns bs p hn,qel]
 cases h:(if p.Op=3 then pu ns bs p.Name else none)with
 |some q=>
  simp only[Option.elim,vaa,wE,Option.getD_some]
 |none=>
  simp only[Option.elim,vaa,Option.getD_none]
  unfold uV
  have hlen:=rK p
  rw[qv p.Kids (by unfold bm at hx;omega) (fun i s=>(s,i)) _ (fun y=>R (y,ns,bs)) (G6 (pu ns bs)) id (fun i s=>rfl) (fun y hy=>ih (y,ns,bs) (qc hy) ⟨by have:=qc hy;show nP y<=bm;omega,rfl⟩)]
  rfl
theorem qfA(ns:List af)(bs:List aa)(p:aa)(hn:ns.length<9223372036854775808)(hb:∀q∈bs,nP q<=bm):nH ns bs p=some ((if p.Op=3 then pu ns bs p.Name else none).elim (.inr ()) (fun q=>.inl (q.Op,q.Name,q.N,q.Kids))):=by
 unfold nH tq pu IJ
 by_cases h1:p.Op=3
 ·rw[vad (by simpa using h1),Xq ns p.Name hn,vad h1]
  simp only[vaa]
  cases hf:ns.findIdx? (fun x=>x==p.Name)with
  |none=>rfl
  | some j =>
   simp only[vaa]
   rw[vad (vbk (show(j:Int)>=0 by omega))]
   simp only[vaa]
   by_cases h2:j<bs.length
   ·rw[vad (vbk (by omega)),bp bs j h2,vab h2]
    simp only[vaa]
    rw[Tv _ (hb _ (vak h2))]
    rfl
   ·rw[vae (by simp;omega),vat (by omega)]
    rfl
 ·rw[vae (by simpa using h1),vae h1]
  rfl
theorem V5(p:aa)(ns:List af)(bs:List aa)(hp:nP p<=bm)(hn:ns.length<9223372036854775808)(hb:∀q∈bs,nP q<=bm):lJ p ns bs=some (G6 (pu ns bs) p):=by
 refine eP (F:=vA) (fun x=>nP x.1) (fun x=>nP x.1<=bm/\x.2=(ns,bs)) (fun x=>G6 (pu x.2.1 x.2.2) x.1) (fun R x hx ih=>?_) (p,ns,bs) ⟨hp,rfl⟩ (eg hp)
 obtain⟨p,ns',bs'⟩:=x
 obtain⟨hx,he⟩:=hx
 cases he
 have hx:nP p<=bm:=hx
 show pR (fun p names a=>R (p,names,a)) p ns bs=some (G6 (pu ns bs) p)
 unfold pR
 rw[qfA ns bs p hn hb,qel]
 cases h:(if p.Op=3 then pu ns bs p.Name else none)with
 |some q=>
  simp only[Option.elim,vaa,wE,Option.getD_some]
 |none=>
  simp only[Option.elim,vaa,Option.getD_none]
  unfold tr
  have hlen:=rK p
  rw[qv p.Kids (by unfold bm at hx;omega) (fun i s=>(i,s)) _ (fun y=>R (y,ns,bs)) (G6 (pu ns bs)) id (fun i s=>rfl) (fun y hy=>ih (y,ns,bs) (qc hy) ⟨by have:=qc hy;show nP y<=bm;omega,rfl⟩)]
  rfl
def M1(v:af)(q:aa)(n:af):Option aa:=if n=v then some q else none
theorem XE(v:af)(q:aa):pu [v] [q]=M1 v q:=by
 funext n
 unfold pu M1
 rw[vcQ]
 by_cases h:n=v
 ·subst h;simp
 ·have h':(v==n)=false:=by simpa using fun e=>h e.symm
  simp[h',h]
theorem T0(p:aa)(v:af)(q:aa)(hp:nP p<=bm)(hq:nP q<=bm):yg p v q=some (G6 (M1 v q) p):=by
 unfold yg
 rw[V5 p [v] [q] hp (by simp) (by simpa using hq),XE]
 rfl
theorem T6(p:aa)(v:af)(q:aa)(hp:nP p<=bm):Ay p v q=some (G6 (M1 v q) p):=by
 unfold Ay
 rw[V9 p [v] [q] hp (by simp),XE]
 rfl
theorem Tz(t:ae):(⟨t.Op,t.Name,t.Args,t.Names,t.Pred,t.Preds⟩:ae)=t:=by cases t;rfl
mutual
def ch:ae->Nat
 |⟨_,_,xs,ns,_,ps⟩=>dw xs+ns.length+ps.length+1
def dw:List ae->Nat
 |[]=>0
 |a::xs=>ch a+dw xs
end
theorem tV(t:ae):ch t=dw t.Args+t.Names.length+t.Preds.length+1:=by obtain⟨o,n,xs,ns,p,ps⟩:=t;rw[ch];rfl
theorem po(t:ae):1<=ch t:=by rw[tV];omega
theorem L5:∀{l:List ae} {x:ae},x∈l->ch x<=dw l
 | y :: l,x,h => by
  rw[dw]
  rcases vaw.1 h with rfl|h
  ·omega
  ·have:=L5 h;omega
theorem Gs:∀(l:List ae),l.length<=dw l
 |[]=>by simp[dw]
 |p::l=>by rw[dw];have:=Gs l;have:=po p;simp only[vaP];omega
theorem gB{t a:ae}(h:a∈t.Args):ch a<ch t:=by rw[tV t];have:=L5 h;omega
theorem fD(t:ae):t.Args.length<ch t:=by rw[tV];have:=Gs t.Args;omega
theorem iP(t:ae):t.Names.length<ch t:=by rw[tV];omega
theorem Be(t:ae):t.Preds.length<ch t:=by rw[tV];omega
mutual
def Io(Q:aa->Prop):ae->Prop
 |⟨_,_,xs,_,p,ps⟩=>Q p/\(∀q∈ps,Q q)/\E1 Q xs
def E1(Q:aa->Prop):List ae->Prop
 |[]=>True
 |a::xs=>Io Q a/\E1 Q xs
end
theorem qcC(Q:aa->Prop)(t:ae):Io Q t↔Q t.Pred/\(∀q∈t.Preds,Q q)/\E1 Q t.Args:=by obtain⟨o,n,xs,ns,p,ps⟩:=t;rw[Io];rfl
theorem Tg(Q:aa->Prop):∀(l:List ae),E1 Q l↔∀t∈l,Io Q t
 |[]=>by simp[E1]
 |a::l=>by rw[E1,Tg Q l];simp
mutual
theorem Th{Q R:aa->Prop}(h:∀p,Q p->R p):∀(t:ae),Io Q t->Io R t
 |⟨_,_,xs,_,p,ps⟩,ht=>by
  rw[Io]at ht ⊢
  exact⟨h _ ht.1,fun q hq=>h _ (ht.2.1 q hq),PX h xs ht.2.2⟩
theorem PX{Q R:aa->Prop}(h:∀p,Q p->R p):∀(l:List ae),E1 Q l->E1 R l
 |[],_=>trivial
 |a::xs,hl=>by
  rw[E1]at hl ⊢
  exact⟨Th h a hl.1,PX h xs hl.2⟩
end
theorem qgh(l:List aa):l.length<=ce (l.map ac):=by
 have:=CM l
 have:=qal l
 omega
theorem qag(l:List af):l.length<=ce (l.map cS):=by
 have h:=XW (l.map cS) (fun x hx=>by
  obtain⟨s,_,rfl⟩:=vaq.1 hx
  simp only[cS,gi,pm];omega)
 rwa[vaF]at h
theorem Ba(t:ae):gi (ag t)=1+(pm (.str t.Name)+(pm (sl ag t.Args)+(pm (sl cS t.Names)+(1+(pm (.str t.Pred.Name)+(1+(pm (sl ac t.Pred.Kids)+(pm (sl ac t.Preds)+0)))))))):=by
 rw[bu];rfl
mutual
theorem qai:∀(t:ae),ch t<=gi (ag t)
 |⟨o,n,xs,ns,p,ps⟩=>by
  have h1:=Xv xs
  have h2:=qgh ps
  have h3:=qag ns
  rw[ch,Ba]
  show _<=1+(pm (.str n)+(pm (sl ag xs)+(pm (sl cS ns)+(1+(pm (.str p.Name)+(1+(pm (sl ac p.Kids)+(pm (sl ac ps)+0))))))))
  simp only[pm,sl]
  omega
theorem Xv:∀(l:List ae),dw l<=ce (l.map ag)
 |[]=>by simp[dw]
 |a::l=>by
  have:=qai a
  have:=Xv l
  rw[dw]
  simp only[vay,ce]
  omega
end
theorem qfw(t:ae):nP t.Pred<=gi (ag t):=by
 have h:=qal t.Pred.Kids
 rw[QV,Ba]
 simp only[pm,sl]
 omega
mutual
theorem ZP(B:Nat):∀(t:ae),gi (ag t)<=B->Io (fun p=>nP p<=B) t
 |⟨o,n,xs,ns,p,ps⟩,h=>by
  have h0:=qfw ⟨o,n,xs,ns,p,ps⟩
  rw[Ba]at h h0
  have h:1+(pm (.str n)+(pm (sl ag xs)+(pm (sl cS ns)+(1+(pm (.str p.Name)+(1+(pm (sl ac p.Kids)+(pm (sl ac ps)+0))))))))<=B:=h
  have h0:nP p<=1+(pm (.str n)+(pm (sl ag xs)+(pm (sl cS ns)+(1+(pm (.str p.Name)+(1+(pm (sl ac p.Kids)+(pm (sl ac ps)+0)))))))):=h0
  simp only[pm,sl]at h h0
  rw[Io]
  refine⟨by omega,fun q hq=>?_,W1 B xs (by omega)⟩
  have h1:=qgi q
  have h2:=yf (vaq.2 ⟨q,hq,rfl⟩:ac q∈ps.map ac)
  omega
theorem W1(B:Nat):∀(l:List ae),ce (l.map ag)<=B->E1 (fun p=>nP p<=B) l
 |[],_=>trivial
 |a::xs,h=>by
  simp only[vay,ce]at h
  rw[E1]
  exact⟨ZP B a (by omega),W1 B xs (by omega)⟩
end
section
variable{α β σ τ X Y:Type}
theorem QP(l:List α)(hl:l.length<9223372036854775808)(mk:Int->τ)(body:τ->Option (τ⊕X))(f:α->Option X)(e:X)
  (hin:∀(i:Nat) (h:i<l.length),body (mk (i:Int))=some ((f l[i]).elim (.inl (mk (aS ((i:Int)+1)))) .inr)) (hend:body (mk l.length)=some (.inr e)):loop body (mk 0)=some ((l.findSome? f).elim e id):=by
 have key:∀k i,k+i=l.length->loop body (mk (i:Int))=some (((l.drop i).findSome? f).elim e id):=by
  intro k
  induction k with
  |zero=>
   intro i hi
   have:i=l.length:=by omega
   subst this
   rw[kq,hend,vb3]
   rfl
  | succ k ih =>
   intro i hi
   rw[kq,hin i (by omega),va9 (by omega),List.findSome?_cons]
   cases h:f l[i]with
   |none=>
    simp only[Option.elim]
    rw[dE (by omega) (by omega),show((i:Int)+1)=((i+1:Nat):Int) by omega]
    exact ih (i+1) (by omega)
   |some y=>rfl
 have:=key l.length 0 (by omega)
 rw[vaV]at this
 exact this
theorem tD{A:Type}(l:List α)(hl:l.length<9223372036854775808){body:Int->Option (Int⊕(A⊕Unit))}(k:Int->α->Option (Int⊕(A⊕Unit)))(P:α->Prop)(B:A->Prop)
  (hb:∀(i:Int),body i=if decide (i<(l.length:Int))=true then(cz l i).bind (k i)else some (.inr (.inr ())))
  (hk:∀x∈l,∀i,fC (k i x) (fun r=>r.elim (fun t=>t=aS (i+1)/\P x) (fun y=>y.elim B (fun _=>False)))):fC (loop body 0) (fun r=>r.elim B (fun _=>∀x∈l,P x)):=by
 refine qcj l hl k (.inr ()) (fun i=>∀j (h:j<l.length),j<i->P l[j]) hb (fun i hi hI=>(hk _ (vak hi) i).mono fun r hr=>?_) (fun hI x hx=>?_) (fun j _ h=>absurd h (vaS _))
 ·cases r with
  | inl t =>
   refine⟨hr.1,fun j hj h=>?_⟩
   by_cases he:j=i
   ·subst he;exact hr.2
   ·exact hI j hj (by omega)
  |inr y=>cases y with
   |inl a=>exact hr
   |inr u=>exact hr.elim
 ·obtain⟨j,hj,rfl⟩:=vcK hx
  exact hI j hj hj
end
theorem pD{a b:List af}{x:af}:x∈kv a b↔x∈a\/x∈b:=(I4 a b).2 x
theorem FM(a b:List af):M3 (kv a b):=(I4 a b).1
theorem qem{a b c d:List af}(h:∀x,(x∈a\/x∈b)↔(x∈c\/x∈d)):kv a b=kv c d:=
 CH (FM a b) (FM c d) fun x=>by rw[pD,pD];exact h x
theorem qaH{l a b:List af}(hl:M3 l)(h:∀x,x∈l↔x∈a\/x∈b):l=kv a b:=CH hl (FM a b) fun x=>by rw[pD];exact h x
theorem ng(a b:List af):(kv a b).length<=a.length+b.length:=by
 have h1:=ML (nh (a++b))
 have h2:=sk (a++b)
 rw[vag]at h2
 unfold kv
 omega
theorem qfm(x:af):M3 [x]:=by simp[M3]
theorem VD:M3 ([]:List af):=by simp[M3]
def rI{α σ:Type}(g:Nat->α->σ->σ):List α->Nat->σ->σ
 |[],_,s=>s
 |x::l,i,s=>rI g l (i+1) (g i x s)
theorem QQ{α σ τ X:Type}(l:List α)(hl:l.length<9223372036854775808)(mk:Int->σ->τ)(body:τ->Option (τ⊕X))(k:Int->σ->α->Option (τ⊕X))(I:Nat->σ->Prop)(g:Nat->α->σ->σ)(e:σ->X)(s0:σ)(h0:I 0 s0)
  (hb:∀(i:Int) (s:σ),body (mk i s)=if decide (i<(l.length:Int))=true then(cz l i).bind (k i s)else some (.inr (e s)))
  (hin:∀(i:Nat) (h:i<l.length) s,I i s->k i s l[i]=some (.inl (mk (aS ((i:Int)+1)) (g i l[i] s)))/\I (i+1) (g i l[i] s)):loop body (mk 0 s0)=some (e (rI g l 0 s0)):=by
 have:=kQ l hl mk body I (fun i x s=>.inl (g i x s)) e (fun i h s hs=>⟨?_,fun s' hs'=>by cases hs';exact(hin i h s hs).2⟩) (fun s hs=>by rw[hb,vae (by simp)]) 0 s0 (vaN _) h0
 ·rw[vaV,show((0:Nat):Int)=0 from rfl]at this
  rw[this]
  have key:∀(l:List α) (i:Nat) (s:σ),nc (fun i x (s:σ)=>(Sum.inl (g i x s):σ⊕X)) e l i s=e (rI g l i s):=by
   intro l
   induction l with
   |nil=>intro i s;rfl
   |cons x l ih=>intro i s;unfold nc;simp only;rw[ih];rfl
  rw[key]
 ·rw[hb,vad (by simp;omega),bp l i h]
  simp only[vaa]
  exact(hin i h s hs).1
mutual
def OK:aa->List af
 |⟨o,n,k,ks⟩=>(if o=3 then[n]else[])++Uo ks
def Uo:List aa->List af
 |[]=>[]
 |p::ps=>OK p++Uo ps
end
theorem qhu(p:aa):OK p=(if p.Op=3 then[p.Name]else[])++Uo p.Kids:=by obtain⟨o,n,k,ks⟩:=p;rw[OK];rfl
theorem Wo{x:af}:∀{l:List aa},x∈Uo l↔∃p∈l,x∈OK p
 |[]=>by simp[Uo]
 |p::l=>by rw[Uo,vaE,Wo];simp
mutual
theorem OL:∀(p:aa),(OK p).length<=nP p
 |⟨o,n,k,ks⟩=>by
  have:=Wn ks
  rw[OK,nP,vag]
  split<;>simp<;>omega
theorem Wn:∀(l:List aa),(Uo l).length<=nL l
 |[]=>by simp[Uo]
 |p::l=>by
  have:=OL p
  have:=Wn l
  rw[Uo,nL,vag];omega
end
mutual
theorem Yq:∀(p:aa) (s:List af),nP p<=bm->s.length+(OK p).length<=1073741824->Wm uD p s=some (true,s++OK p)
 | ⟨o,n,k,ks⟩,s,hp,hs => by
  rw[nP]at hp
  rw[OK,vag]at hs
  have hk:=CM ks
  have h1:uD s ⟨o,n,k,ks⟩=some (true,s++(if o=3 then[n]else[])):=by
   unfold uD
   show(if(o==3)=true then(app s [n]).bind fun l=>some (true,l)else some (true,s))=_
   by_cases h:o=3
   ·rw[vad (by simpa using h),vad h,cQ (by rw[vad h]at hs;simp at hs ⊢;omega)]
    rfl
   ·rw[vae (by simpa using h),vae h,va1]
  have h2:=Ul ks (s++(if o=3 then[n]else[])) (by omega) (by rw[vag];omega)
  rw[Wm,h1]
  simp only[vaa]
  rw[vad (by unfold bm at hp;omega),h2,OK,vba]
theorem Ul:∀(l:List aa) (s:List af),nL l<=bm->s.length+(Uo l).length<=1073741824->Wl uD l s=some (true,s++Uo l)
 |[],s,_,_=>by rw[Wl,Uo,va1]
 |p::l,s,hp,hs=>by
  rw[nL]at hp
  rw[Uo,vag]at hs
  rw[Wl,Yq p s (by omega) (by omega)]
  simp only[vaa]
  rw[Ul l _ (by omega) (by rw[vag];omega),Uo,vba]
end
def ec(p:aa):List af:=kv (OK p) []
theorem AX{p:aa}{x:af}:x∈ec p↔x∈OK p:=by unfold ec;rw[pD];simp
theorem lG(p:aa):(ec p).length<=nP p:=by
 have h1:=ng (OK p) []
 have h2:=OL p
 unfold ec
 simp at h1
 omega
theorem XS(p:aa)(hp:nP p<=400000000):tp p=some (ec p):=by
 have h:=OL p
 unfold tp
 rw[Yq p [] (by unfold bm;omega) (by simp;omega)]
 simp only[vaa,vaC]
 rw[Fp _ _ (by simp;omega)]
 rfl
theorem y8{α:Type}(f:α->List af):∀(l:List α) (s:List af),M3 s->M3 (l.foldl (fun s x=>kv s (f x)) s)/\∀x,x∈l.foldl (fun s x=>kv s (f x)) s↔x∈s\/∃y∈l,x∈f y
 |[],s,h=>⟨h,by simp⟩
 |y::l,s,h=>by
  obtain⟨h1,h2⟩:=y8 f l (kv s (f y)) (FM _ _)
  refine⟨h1,fun x=>?_⟩
  rw[List.foldl_cons,h2,pD]
  simp only[vaw,exists_eq_or_imp,or_assoc]
theorem Rr(p:aa)(hp:nP p<=200000000):ui p=some (ec p):=by
 refine eP (F:=HT) nP (fun x=>nP x<=200000000) ec (fun R x hx ih=>?_) p hp (eg (by unfold bm;omega))
 show BG (fun p=>R p) x=_
 unfold BG D0
 rw[show(if(x.Op==3)=true then some ([x.Name]:List af)else some ([]:List af))=some (if x.Op=3 then[x.Name]else[]) by by_cases h:x.Op=3<;>simp[h]]
 simp only[vaa]
 unfold D1
 have hlen:=rK x
 have hn:=QV x
 have h0:(if x.Op=3 then[x.Name]else[]:List af).length<=1:=by split<;>simp
 have hi0:M3 (if x.Op=3 then[x.Name]else[]:List af):=by split;exact qfm _;exact VD
 rw[io x.Kids (by omega) (fun i s=>(s,i)) _ (fun i s y=>(R y).bind fun r=>(gn s r).bind fun r6=>some (.inl (r6,aS (i+1)))) (fun i s=>s.length<=1+nL (x.Kids.take i)) (fun y s=>kv s (ec y)) id (if x.Op=3 then[x.Name]else[]) (by simpa[nL]using h0) (fun i s=>rfl) (fun i hi s hs=>?_)]
 ·simp only[id,vaa]
  obtain⟨f1,f2⟩:=y8 ec x.Kids (if x.Op=3 then[x.Name]else[]) hi0
  congr 1
  refine qaH f1 fun y=>?_
  rw[f2,qhu,vaE,Wo]
  simp only[AX,vaH,or_false]
 ·have hm:=vak hi
  have hk:=qc hm
  have h1:=ze x.Kids i hi
  have h2:=qd x.Kids (i+1)
  have h3:=lG x.Kids[i]
  refine⟨?_,?_⟩
  ·rw[ih _ hk (by omega)]
   simp only[vaa]
   rw[ki _ _ (by omega) (by omega)]
   rfl
  ·have:=ng s (ec x.Kids[i])
   omega
def wm(o:Int)(ns:List af)(i:Nat):List af:=if o=6 then ns.take i else[]
mutual
def vT:ae->List af
 |⟨o,n,xs,ns,p,ps⟩=>(OK p++Uo ps).filter (fun s=>!(s==[118]))++qfS o ns 0 xs
def qfS(o:Int)(ns:List af):Nat->List ae->List af
 |_,[]=>[]
 |i,a::xs=>(vT a).filter (fun s=>!decide (s∈wm o ns i))++qfS o ns (i+1) xs
end
theorem qgr(t:ae):vT t=(OK t.Pred++Uo t.Preds).filter (fun s=>!(s==[118]))++qfS t.Op t.Names 0 t.Args:=by obtain⟨o,n,xs,ns,p,ps⟩:=t;rw[vT];rfl
mutual
def wT:ae->Nat
 |⟨_,_,xs,_,p,ps⟩=>nP p+nL ps+uQ xs
def uQ:List ae->Nat
 |[]=>0
 |a::xs=>wT a+uQ xs
end
theorem pF(t:ae):wT t=nP t.Pred+nL t.Preds+uQ t.Args:=by obtain⟨o,n,xs,ns,p,ps⟩:=t;rw[wT];rfl
theorem Wp:∀{l:List ae} {x:ae},x∈l->wT x<=uQ l
 | y :: l,x,h => by
  rw[uQ]
  rcases vaw.1 h with rfl|h
  ·omega
  ·have:=Wp h;omega
theorem qcH{t a:ae}(h:a∈t.Args):wT a<=wT t:=by rw[pF t];have:=Wp h;omega
theorem FX(l:List ae)(i:Nat)(h:i<l.length):uQ (l.take (i+1))=uQ (l.take i)+wT l[i]:=by
 have key:∀(a b:List ae),uQ (a++b)=uQ a+uQ b:=by
  intro a b
  induction a with
  |nil=>simp[uQ]
  |cons x a ih=>rw[vaG,uQ,uQ,ih];omega
 rw[vaM h,key]
 simp[uQ]
theorem FY:∀(l:List ae) (i:Nat),uQ (l.take i)<=uQ l
 |[],i=>by simp
 |x::l,0=>by simp[uQ]
 |x::l,i+1=>by rw[List.take_succ_cons,uQ,uQ];have:=FY l i;omega
mutual
theorem qet:∀(t:ae),(vT t).length<=wT t
 |⟨o,n,xs,ns,p,ps⟩=>by
  have h1:=qaK o ns 0 xs
  have h2:=OL p
  have h3:=Wn ps
  have h4:=vaW (fun s=>!(s==[118])) (OK p++Uo ps)
  rw[vT,wT,vag]
  rw[vag]at h4
  omega
theorem qaK(o:Int)(ns:List af):∀(i:Nat) (l:List ae),(qfS o ns i l).length<=uQ l
 |i,[]=>by simp[qfS]
 |i,a::xs=>by
  have h1:=qet a
  have h2:=qaK o ns (i+1) xs
  have h3:=vaW (fun s=>!decide (s∈wm o ns i)) (vT a)
  rw[qfS,uQ,vag]
  omega
end
def freeT(t:ae):List af:=kv (vT t) []
theorem TC{t:ae}{x:af}:x∈freeT t↔x∈vT t:=by unfold freeT;rw[pD];simp
theorem qt(t:ae):(freeT t).length<=wT t:=by
 have h1:=ng (vT t) []
 have h2:=qet t
 unfold freeT
 simp at h1
 omega
theorem Wk{o:Int}{ns:List af}{x:af}:∀{l:List ae} {i:Nat},x∈qfS o ns i l↔∃(j:Nat) (h:j<l.length),x∈vT l[j]/\x∉wm o ns (i+j)
 |[],i=>by simp[qfS]
 | a :: l,i => by
  rw[qfS,vaE,Wk]
  simp only[vaR,va7,vbp]
  constructor
  ·rintro(h|⟨j,hj,h1,h2⟩)
   ·exact⟨0,by simp,by simpa using h⟩
   ·exact⟨j+1,by simp;omega,by simpa using h1,by rw[show i+(j+1)=i+1+j by omega];exact h2⟩
  ·rintro⟨j,hj,h1,h2⟩
   cases j with
   |zero=>exact .inl ⟨by simpa using h1,by simpa using h2⟩
   |succ j=>exact .inr ⟨j,by simp at hj;omega,by simpa using h1,by rw[show i+1+j=i+(j+1) by omega];exact h2⟩
theorem qaI{α:Type}(l:List α)(i:Nat)(hl:l.length<9223372036854775808):Ot l none (some (if(l.length:Int)<(i:Int)then(l.length:Int)else(i:Int)))=some (l.take i):=by
 by_cases h:l.length<i
 ·rw[vad (by omega),ZE l l.length (vah _),vbr (vah _),vbr (by omega)]
 ·rw[vae (by omega),ZE l i (by omega)]
theorem qa2(t:ae)(i:Nat)(h:t.Names.length<9223372036854775808):mY t i=some (wm t.Op t.Names i):=by
 unfold mY wm
 by_cases ho:t.Op=6
 ·rw[vae (by simpa using ho),qaI _ i h,vad ho]
  rfl
 ·rw[vad (by simpa using ho),vae ho]
theorem Gr(f:af->Bool):∀(l a:List af),l.foldl (fun s x=>if f x=true then s++[x]else s) a=a++l.filter f
 |[],a=>by simp
 |x::l,a=>by
  rw[List.foldl_cons,Gr f l]
  by_cases h:f x=true<;>simp[h]
theorem Qr{α:Type}(f:α->List af):∀(l:List α) (a:List af),l.foldl (fun s x=>s++f x) a=a++l.flatMap f
 |[],a=>by simp
 |x::l,a=>by rw[List.foldl_cons,Qr f l,vcp,vba]
theorem TB{α:Type}(f:Nat->α->List af):∀(l:List α) (i:Nat) (a:List af) (x:af),x∈rI (fun i y s=>s++f i y) l i a↔x∈a\/∃(j:Nat) (h:j<l.length),x∈f (i+j) l[j]
 |[],i,a,x=>by simp[rI]
 | y :: l,i,a,x => by
  rw[rI,TB f l (i+1),vaE,or_assoc]
  refine or_congr_right ⟨?_,?_⟩
  ·rintro(h|⟨j,hj,h⟩)
   ·exact⟨0,by simp,by simpa using h⟩
   ·exact⟨j+1,by simp;omega,by rw[show i+(j+1)=i+1+j by omega];simpa using h⟩
  ·rintro⟨j,hj,h⟩
   cases j with
   |zero=>exact .inl (by simpa using h)
   |succ j=>exact .inr ⟨j,by simp at hj;omega,by rw[show i+1+j=i+(j+1) by omega];simpa using h⟩
theorem qbV(l out:List af)(h:out.length+l.length<=1073741824):kV l (l.length:Int) out 0=some (out++l.filter (fun s=>!(s==[118]))):=by
 unfold kV
 rw[io l (by omega) (fun i s=>(s,i)) _ (fun i s x=>if(!(x==([118]:af)))=true then(app s ([x]:List af)).bind fun l8=>some (.inl (l8,aS (i+1)))else some (.inl (s,aS (i+1)))) (fun i s=>s.length<=out.length+i) (fun x s=>if(!(x==[118]))=true then s++[x]else s) id out (by simp) (fun i s=>rfl) (fun i hi s hs=>?_),Gr]
 ·rfl
 ·refine⟨?_,by split<;>(try rw[vag,List.length_singleton])<;>omega⟩
  by_cases hx:(!(l[i]==([118]:af)))=true
  ·rw[vad hx,vad hx,cQ (by simp;omega)]
   rfl
  ·rw[vae hx,vae hx]
theorem qbW(b l out:List af)(hb:b.length<9223372036854775808)(h:out.length+l.length<=1073741824):kW b l (l.length:Int) out 0=some (out++l.filter (fun s=>!decide (s∈b))):=by
 unfold kW
 rw[io l (by omega) (fun i s=>(s,i)) _ (fun i s x=>(fq b x).bind fun r17=>if(!r17)=true then(app s ([x]:List af)).bind fun l8=>some (.inl (l8,aS (i+1)))else some (.inl (s,aS (i+1)))) (fun i s=>s.length<=out.length+i) (fun x s=>if(!decide (x∈b))=true then s++[x]else s) id out (by simp) (fun i s=>rfl) (fun i hi s hs=>?_),Gr]
 ·rfl
 ·refine⟨?_,by split<;>(try rw[vag,List.length_singleton])<;>omega⟩
  rw[y4 b _ hb]
  simp only[vaa]
  by_cases hx:(!decide (l[i]∈b))=true
  ·rw[vad hx,vad hx,cQ (by simp;omega)]
   rfl
  ·rw[vae hx,vae hx]
theorem TY{p:aa}{ps:List aa}{x:af}:(∃q∈[p]++ps,x∈OK q)↔x∈OK p++Uo ps:=by
 rw[vaE,Wo]
 simp
theorem qdB(p:aa)(ps:List aa):nL ([p]++ps)=nP p+nL ps:=by
 rw[A2];simp[nL]
theorem qbX(t:ae)(hw:wT t<=200000000)(hl:ch t<=200000000):CV t=some (freeT t):=by
 refine eP (F:=yj) ch (fun x=>wT x<=200000000/\ch x<=200000000) freeT (fun R x hx ih=>?_) t ⟨hw,hl⟩ (eg (by unfold bm;omega))
 obtain⟨hw,hl⟩:=hx
 show rR (fun t=>R t) x=_
 have h1:=fD x
 have h2:=iP x
 have h3:=Be x
 have hwe:=pF x
 have hn1:=qdB x.Pred x.Preds
 unfold rR
 rw[cQ (by simp;omega)]
 simp only[vaa]
 unfold vC
 rw[io ([x.Pred]++x.Preds) (by simp;omega) (fun i s=>(s,i)) _ (fun i s y=>(tp y).bind fun r4=>(kV r4 (r4.length:Int) s 0).bind fun o9=>some (.inl (o9,aS (i+1)))) (fun i s=>s.length<=nL (([x.Pred]++x.Preds).take i)) (fun y s=>s++(ec y).filter (fun s=>!(s==[118]))) id [] (by simp[nL]) (fun i s=>rfl) (fun i hi s hs=>?_),Qr]
 ·simp only[id,vaa,vaC]
  have hlen0:∀(l:List aa),(l.flatMap fun y=>(ec y).filter (fun s=>!(s==[118]))).length<=nL l:=by
   intro l
   induction l with
   |nil=>simp[nL]
   |cons y l ih=>
    have g1:=vaW (fun s=>!(s==[118])) (ec y)
    have g2:=lG y
    rw[vcp,vag,nL]
    omega
  have hlen:=hlen0 ([x.Pred]++x.Preds)
  have hmem:∀z,z∈(([x.Pred]++x.Preds).flatMap fun y=>(ec y).filter (fun s=>!(s==[118])))↔z∈(OK x.Pred++Uo x.Preds).filter (fun s=>!(s==[118])):=by
   intro z
   rw[vcu,vaR,<-TY]
   simp only[vaR,AX]
   constructor
   ·rintro⟨y,hy,h,h'⟩;exact⟨⟨y,hy,h⟩,h'⟩
   ·rintro⟨⟨y,hy,h⟩,h'⟩;exact⟨y,hy,h,h'⟩
  generalize (([x.Pred]++x.Preds).flatMap fun y=>(ec y).filter (fun s=>!(s==[118])))=o10 at hlen hmem
  unfold vD
  have hI:∀(i:Nat) (h:i<x.Args.length) (s:List af),s.length<=o10.length+uQ (x.Args.take i)->(s++(freeT x.Args[i]).filter (fun z=>!decide (z∈wm x.Op x.Names i))).length<=o10.length+uQ (x.Args.take (i+1)):=fun i h s hs=>by
   have g1:=vaW (fun z=>!decide (z∈wm x.Op x.Names i)) (freeT x.Args[i])
   have g2:=qt x.Args[i]
   have g3:=FX x.Args i h
   rw[vag];omega
  rw[QQ x.Args (by omega) (fun i s=>(s,i)) _ (fun i s y=>(mY x i).bind fun r13=>(R y).bind fun r14=>(kW r13 r14 (r14.length:Int) s 0).bind fun o20=>some (.inl (o20,aS (i+1)))) (fun i s=>s.length<=o10.length+uQ (x.Args.take i)) (fun i y s=>s++(freeT y).filter (fun z=>!decide (z∈wm x.Op x.Names i))) id o10 (by simp[uQ]) (fun i s=>rfl) (fun i hi s hs=>⟨?_,hI i hi s hs⟩)]
  ·simp only[id,vaa]
   have hlast:(rI (fun i y s=>s++(freeT y).filter (fun z=>!decide (z∈wm x.Op x.Names i))) x.Args 0 o10).length<=o10.length+uQ x.Args:=by
    have key:∀(l:List ae) (i:Nat) (a:List af),(rI (fun i y s=>s++(freeT y).filter (fun z=>!decide (z∈wm x.Op x.Names i))) l i a).length<=a.length+uQ l:=by
     intro l
     induction l with
     |nil=>intro i a;simp[rI]
     |cons y l ih=>
      intro i a
      have g1:=vaW (fun z=>!decide (z∈wm x.Op x.Names i)) (freeT y)
      have g2:=qt y
      have g3:=ih (i+1) (a++(freeT y).filter (fun z=>!decide (z∈wm x.Op x.Names i)))
      rw[rI,uQ]
      rw[vag]at g3
      omega
    exact key x.Args 0 o10
   rw[Fp _ _ (by simp;exact vaI hlast (by omega))]
   simp only[vaa]
   congr 1
   refine qem fun z=>?_
   rw[TB,qgr,vaE,hmem,Wk]
   simp only[vaR,TC,va7,vbp,vaH,or_false]
  ·have hm:=vak hi
   have g2:=qt x.Args[i]
   have g3:=FX x.Args i hi
   have g4:=FY x.Args (i+1)
   have g5:=gB hm
   have g6:=qcH hm
   rw[qa2 x i (by omega)]
   simp only[vaa]
   rw[ih _ g5 ⟨by omega,by omega⟩]
   simp only[vaa]
   have hbl:(wm x.Op x.Names i).length<9223372036854775808:=by
    unfold wm
    split
    ·rw[vaO];omega
    ·simp
   rw[qbW _ _ _ hbl (by omega)]
   rfl
 ·have hm:=vak hi
  have g1:=ze ([x.Pred]++x.Preds) i hi
  have g2:=qd ([x.Pred]++x.Preds) (i+1)
  have g3:=lG ([x.Pred]++x.Preds)[i]
  have g4:=vaW (fun s=>!(s==[118])) (ec ([x.Pred]++x.Preds)[i])
  refine⟨?_,by rw[vag];omega⟩
  rw[XS _ (by omega)]
  simp only[vaa]
  rw[qbV _ _ (by omega)]
  rfl
theorem Yc{l:List af}{v:af}(hl:l.length<9223372036854775808):∃r,gM l v=some r/\(decide (r<0)= !decide (v∈l))/\(decide (r>=0)=decide (v∈l)):=by
 obtain⟨r,hr,hm⟩:∃r,gM l v=some r/\(r>=0↔v∈l):=⟨_,Rq l v hl,Xh⟩
 refine⟨r,hr,?_,decide_eq_decide.2 hm⟩
 by_cases h:v∈l
 ·have:=hm.2 h
  rw[decide_eq_false (by omega),vbk h];rfl
 ·have:¬(r>=0):=fun e=>h (hm.1 e)
  rw[vbk (by omega),decide_eq_false h];rfl
def vO(ns l:List af):List af:=l.filter (fun s=>!decide (s∈ns))
theorem Xs{ns l:List af}{x:af}:x∈vO ns l↔x∈l/\x∉ns:=by
 unfold vO
 rw[vaR]
 simp
theorem Kk(ns l:List af):(vO ns l).length<=l.length:=vaW ..
theorem RB(a ns:List af)(ha:a.length<=1073741824)(hn:ns.length<9223372036854775808):mK a ns=some (vO ns a):=by
 unfold mK xA
 rw[io a (by omega) (fun i s=>(s,i)) _ (fun i s x=>(gM ns x).bind fun r3=>if(decide (r3<0))=true then(app s ([x]:List af)).bind fun l5=>some (.inl (l5,aS (i+1)))else some (.inl (s,aS (i+1)))) (fun i s=>s.length<=i) (fun x s=>if(!decide (x∈ns))=true then s++[x]else s) id [] (by simp) (fun i s=>rfl) (fun i hi s hs=>?_),Gr]
 ·rfl
 ·refine⟨?_,by split<;>(try rw[vag,List.length_singleton])<;>omega⟩
  obtain⟨r,e1,e2,_⟩:=Yc (l:=ns) (v:=a[i]) hn
  rw[e1]
  simp only[vaa,e2]
  by_cases hx:(!decide (a[i]∈ns))=true
  ·rw[vad hx,vad hx,cQ (by simp;omega)]
   rfl
  ·rw[vae hx,vae hx]
theorem qda{α:Type}(f:Nat->α->List af):∀(l:List α) (i:Nat) (a:List af),M3 a->M3 (rI (fun i y s=>kv s (f i y)) l i a)/\∀x,x∈rI (fun i y s=>kv s (f i y)) l i a↔x∈a\/∃(j:Nat) (h:j<l.length),x∈f (i+j) l[j]
 |[],i,a,h=>⟨h,by simp[rI]⟩
 | y :: l,i,a,h => by
  obtain⟨h1,h2⟩:=qda f l (i+1) (kv a (f i y)) (FM _ _)
  refine⟨h1,fun x=>?_⟩
  rw[rI,h2,pD,or_assoc]
  refine or_congr_right ⟨?_,?_⟩
  ·rintro(h|⟨j,hj,h⟩)
   ·exact⟨0,by simp,by simpa using h⟩
   ·exact⟨j+1,by simp;omega,by rw[show i+(j+1)=i+1+j by omega];simpa using h⟩
  ·rintro⟨j,hj,h⟩
   cases j with
   |zero=>exact .inl (by simpa using h)
   |succ j=>exact .inr ⟨j,by simp at hj;omega,by rw[show i+1+j=i+(j+1) by omega];simpa using h⟩
theorem qb8(t:ae)(hw:wT t<=100000000)(hl:ch t<=100000000):PG t=some (freeT t):=by
 refine eP (F:=H7) ch (fun x=>wT x<=100000000/\ch x<=100000000) freeT (fun R x hx ih=>?_) t ⟨hw,hl⟩ (eg (by unfold bm;omega))
 obtain⟨hw,hl⟩:=hx
 show B4 (fun t=>R t) x=_
 have h1:=fD x
 have h2:=iP x
 have h3:=Be x
 have hwe:=pF x
 have hn1:=qdB x.Pred x.Preds
 unfold B4
 rw[cQ (by simp;omega)]
 simp only[vaa]
 unfold EF
 rw[io ([x.Pred]++x.Preds) (by simp;omega) (fun i s=>(s,i)) _ (fun i s y=>(ui y).bind fun r4=>(mK r4 ([([118]:af)]:List af)).bind fun r5=>(gn s r5).bind fun r6=>some (.inl (r6,aS (i+1)))) (fun i s=>s.length<=nL (([x.Pred]++x.Preds).take i)) (fun y s=>kv s (vO [([118]:af)] (ec y))) id [] (by simp[nL]) (fun i s=>rfl) (fun i hi s hs=>?_)]
 ·simp only[id,vaa]
  obtain⟨f1,f2⟩:=y8 (fun y=>vO [([118]:af)] (ec y)) ([x.Pred]++x.Preds) [] VD
  have hlen0:∀(l:List aa) (a:List af),(l.foldl (fun s y=>kv s (vO [([118]:af)] (ec y))) a).length<=a.length+nL l:=by
   intro l
   induction l with
   |nil=>intro a;simp
   |cons y l ih=>
    intro a
    have g1:=Kk [([118]:af)] (ec y)
    have g2:=lG y
    have g3:=ih (kv a (vO [([118]:af)] (ec y)))
    have g4:=ng a (vO [([118]:af)] (ec y))
    rw[List.foldl_cons,nL]
    omega
  have hlen:=hlen0 ([x.Pred]++x.Preds) []
  simp only[List.length_nil,vaK]at hlen
  have hmem:∀z,z∈(([x.Pred]++x.Preds).foldl (fun s y=>kv s (vO [([118]:af)] (ec y))) [])↔z∈(OK x.Pred++Uo x.Preds).filter (fun s=>!(s==[118])):=by
   intro z
   rw[f2,vaR,<-TY]
   simp only[vaH,false_or,Xs,AX,va4]
   constructor
   ·rintro⟨y,hy,h,h'⟩;exact⟨⟨y,hy,h⟩,by simpa using h'⟩
   ·rintro⟨⟨y,hy,h⟩,h'⟩;exact⟨y,hy,h,by simpa using h'⟩
  generalize (([x.Pred]++x.Preds).foldl (fun s y=>kv s (vO [([118]:af)] (ec y))) [])=o10 at hlen hmem f1
  unfold EG
  have hI:∀(i:Nat) (h:i<x.Args.length) (s:List af),s.length<=o10.length+uQ (x.Args.take i)->(kv s (vO (wm x.Op x.Names i) (freeT x.Args[i]))).length<=o10.length+uQ (x.Args.take (i+1)):=fun i h s hs=>by
   have g1:=Kk (wm x.Op x.Names i) (freeT x.Args[i])
   have g2:=qt x.Args[i]
   have g3:=FX x.Args i h
   have g4:=ng s (vO (wm x.Op x.Names i) (freeT x.Args[i]))
   omega
  rw[QQ x.Args (by omega) (fun i s=>(s,i)) _ (fun i s y=>(Ot x.Names none (some (if(x.Names.length:Int)<i then(x.Names.length:Int)else i))).bind fun l10=>(uk x l10).bind fun o12=>(R y).bind fun r13=>(mK r13 o12).bind fun r14=>(gn s r14).bind fun r15=>some (.inl (r15,aS (i+1)))) (fun i s=>s.length<=o10.length+uQ (x.Args.take i)) (fun i y s=>kv s (vO (wm x.Op x.Names i) (freeT y))) id o10 (by simp[uQ]) (fun i s=>rfl) (fun i hi s hs=>⟨?_,hI i hi s hs⟩)]
  ·simp only[id,vaa]
   obtain⟨g1,g2⟩:=qda (fun i y=>vO (wm x.Op x.Names i) (freeT y)) x.Args 0 o10 f1
   congr 1
   refine qaH g1 fun z=>?_
   rw[g2,qgr,vaE,hmem,Wk]
   simp only[Xs,TC,vaH,or_false]
  ·have hm:=vak hi
   have g2:=qt x.Args[i]
   have g3:=FX x.Args i hi
   have g4:=FY x.Args (i+1)
   have g5:=gB hm
   have g6:=qcH hm
   have g7:=Kk (wm x.Op x.Names i) (freeT x.Args[i])
   rw[qaI _ i (by omega)]
   simp only[vaa]
   rw[show uk x (x.Names.take i)=some (wm x.Op x.Names i) by
    unfold uk wm
    by_cases ho:x.Op=6<;>simp[ho]]
   simp only[vaa]
   rw[ih _ g5 ⟨by omega,by omega⟩]
   simp only[vaa]
   have hbl:(wm x.Op x.Names i).length<9223372036854775808:=by
    unfold wm
    split
    ·rw[vaO];omega
    ·simp
   rw[RB _ _ (by omega) hbl]
   simp only[vaa]
   rw[ki _ _ (by omega) (by omega)]
   rfl
 ·have hm:=vak hi
  have g1:=ze ([x.Pred]++x.Preds) i hi
  have g2:=qd ([x.Pred]++x.Preds) (i+1)
  have g3:=lG ([x.Pred]++x.Preds)[i]
  have g4:=Kk [([118]:af)] (ec ([x.Pred]++x.Preds)[i])
  have g5:=ng s (vO [([118]:af)] (ec ([x.Pred]++x.Preds)[i]))
  refine⟨?_,by omega⟩
  rw[Rr _ (by omega)]
  simp only[vaa]
  rw[RB _ _ (by omega) (by simp)]
  simp only[vaa]
  rw[ki _ _ (by omega) (by omega)]
  rfl
end Go.Proofs.YtbaamopmfmpfaaaGreatDoor
