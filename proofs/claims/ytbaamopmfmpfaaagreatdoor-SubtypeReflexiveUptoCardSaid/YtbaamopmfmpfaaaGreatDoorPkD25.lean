/- PROVED: parts of the proof (Na Nb PlC Pp1 Pp2 Pp3 Pp4 Pp6 Pq1 Pt1 Pt2 Tot). Conditions: none. -/
import Derived.Test.YtbaamopmfmpfaaaGreatDoorPkD24
import Derived.Test.YtbaamopmfmpfaaaGreatDoorPkD10
import Derived.Test.YtbaamopmfmpfaaaGreatDoorPkD11
noncomputable section
namespace Go.Proofs.YtbaamopmfmpfaaaGreatDoor
open Go
set_option linter.unusedSimpArgs false
set_option linter.unusedVariables false
abbrev qcj(a:List ag):Prop:=a.length<9223372036854775808
def SK(l:List ag)(s:ag):Int:=match l.findIdx? (fun x=>x==s)with|some j=>(j:Int)|none=>-1
theorem nM(l:List ag)(s:ag)(hl:l.length<9223372036854775808):wx l s=some (SK l s):=by
 unfold wx zq
 have:=MQ l hl (fun zz=>mo l s l.length zz) (fun x=>x==s) (fun j=>Sum.inl (j:Int)) (Sum.inr ()) (fun i h=>by
  simp only[mo]
  rw[vaj (by simp;omega),bj _ i h]
  simp only[vaa]
  split<;>simp_all) (by simp only[mo];rw[van (by simp)])
 rw[this]
 unfold SK
 cases l.findIdx? (fun x=>x==s)<;>rfl
theorem sJ(l:List ag)(s:ag):decide (SK l s>=0)=l.any fun k=>k==s:=by
 unfold SK
 cases h:l.findIdx? (fun x=>x==s)with
 |none=>
  rw[vcc]at h
  symm
  simp only[vbs]
  rw[show decide ((-1:Int)>=0)=false from rfl]
  simp only[vbs,Bool.not_eq_true]
  exact h
 | some j =>
  have h2:l.any (fun x=>x==s)=true:=by
   have:=List.findIdx?_isSome (xs:=l) (p:=fun x=>x==s)
   rw[h]at this
   exact this.symm
  rw[h2]
  simp
theorem MR{α:Type}(k:ag)(v:α)(j:ag):∀(m:List (ag×α)),y6 (EM m k v) j=if(j==k)=true then some v else y6 m j
 |[]=>by
  simp only[EM,y6,List.find?_cons,List.find?_nil]
  cases(j==k)<;>rfl
 | e :: r => by
  have ih:=MR k v j r
  unfold EM
  by_cases h:(k==e.1)=true
  ·have h':k=e.1:=by simpa using h
   rw[vaj h]
   unfold y6
   simp only[List.find?_cons]
   rw[<-h']
   cases hj:(j==k)<;>simp
  ·rw [van h]
   unfold y6 at ih ⊢
   simp only[List.find?_cons]
   cases hj:(j==e.1)
   ·simpa using ih
   ·have:¬(j==k)=true:=fun hk=>h (by
      have h1:j=e.1:=by simpa using hj
      have h2:j=k:=by simpa using hk
      simp[<-h1,<-h2])
    simp[this]
abbrev Kt(m:List (ag×Bool))(k:ag):Bool:=(y6 m k).getD false
theorem Wf(m:List (ag×Bool))(k j:ag):Kt (EM m k true) j=(j==k||Kt m j):=by
 unfold Kt
 rw[MR]
 cases(j==k)<;>rfl
def Rx(l:ag):Nat:=l.foldl (fun a c=>10 * a+(c.toNat - 48)) 0
theorem JS(u:Nat):Rx (Lib.decDigits u)=u:=by
 induction u using Nat.strongRecOn with
 | _ u ih =>
  rw[Lib.decDigits]
  by_cases h:u<10
  ·rw[dif_pos h]
   unfold Rx
   simp
   omega
  ·rw[dif_neg h]
   have:=ih (u / 10) (by omega)
   unfold Rx at this ⊢
   rw[vch,this]
   simp
   omega
theorem XF{u v:Nat}(h:Lib.decDigits u=Lib.decDigits v):u=v:=by rw[<-JS u,<-JS v,h]
theorem N8(u:Nat):(Lib.decDigits u).length<=u+1:=by
 induction u using Nat.strongRecOn with
 | _ u ih =>
  rw[Lib.decDigits]
  by_cases h:u<10
  ·rw[dif_pos h];simp
  ·rw[dif_neg h]
   have:=ih (u / 10) (by omega)
   simp
   omega
theorem Ng:∀(k n:Nat) (acc:ag),n<=k->n<=1000000000->acc.length<=1000000000 - n->qG acc n=some (if n=0 then acc else Lib.decDigits n++acc)
 |k,0,acc,_,_,_=>by
  unfold qG
  exact j5 rfl
 |0,n+1,_,h,_,_=>absurd h (by omega)
 | k + 1,n + 1,acc,hk,hn,ha => by
  have hb:qi acc ((n+1:Nat):Int)=some (.inl (UInt8.ofNat (48+(n+1) % 10)::acc,(((n+1) / 10:Nat):Int))):=by
   simp only[qi]
   have h1:(((n+1:Nat):Int)!=0)=true:=by simp;omega
   have h2:re ((n+1:Nat):Int) 10=some (((n+1) % 10:Nat):Int):=by
    simp only[re]
    have e:((n+1:Nat):Int) % 10=(((n+1) % 10:Nat):Int):=by omega
    rw[van (by omega),Int.tmod_eq_emod_of_nonneg (by omega),e]
   have h3:zm (((n+1) % 10:Nat):Int)=some (((n+1) % 10:Nat):Int):=by
    simp only[zm]
    rw[van (by simp;omega)]
   have h4:IntKind.u8.wrap (aO (48+(((n+1) % 10:Nat):Int)))=((48+(n+1) % 10:Nat):Int):=by
    rw[dA (by omega) (by omega)]
    have h5:(48:Int)+(((n+1) % 10:Nat):Int)=((48+(n+1) % 10:Nat):Int):=by omega
    rw[h5]
    generalize hq:48+(n+1) % 10=q
    have:q<58:=by omega
    show((q:Int) % 256)=q
    omega
   have h6:Ep [((48+(n+1) % 10:Nat):Int)]=some [UInt8.ofNat (48+(n+1) % 10)]:=by
    simp only[Ep]
    rw[vaj (by omega)]
    rfl
   have h7:qu .i64 ((n+1:Nat):Int) 10=some (((n+1) / 10:Nat):Int):=by
    simp only[qu]
    rw[van (by omega),vb5 (by omega)]
    have e:((n+1:Nat):Int) / 10=(((n+1) / 10:Nat):Int):=by omega
    rw[e]
    exact vbp some (dA (by omega) (by omega))
   rw[h1]
   simp only[if_true,h2,vaa,h3,h4,h6]
   rw[JJ (by simp;omega),h7]
   rfl
  unfold qG
  refine(pO (body:=fun zz:ag×Int=>qi zz.1 zz.2) (s:=(acc,((n+1:Nat):Int))) (s':=(UInt8.ofNat (48+(n+1) % 10)::acc,(((n+1) / 10:Nat):Int))) hb).trans ?_
  have ih:=Ng k ((n+1) / 10) (UInt8.ofNat (48+(n+1) % 10)::acc) (by omega) (by omega) (by simp;omega)
  unfold qG at ih
  rw[ih,van (by omega:¬n+1=0)]
  conv=>rhs;rw[Lib.decDigits]
  by_cases h:n+1<10
  ·rw[dif_pos h,vaj (by omega),vbW h]
   rfl
  ·rw[dif_neg h,van (by omega)]
   simp
theorem GS(n:Nat)(h0:1<=n)(h:n<=1000000000):IQ n=some (Lib.decDigits n):=by
 unfold IQ
 have h1:((n:Int)==0)=false:=by simp;omega
 rw[h1,Ng n n [] (vah _) h (by simp)]
 have h2:decide ((n:Int)<0)=false:=by simp
 simp only[va3,if_false,vaa,h2]
 rw[van (by omega)]
 simp
theorem PX(n:Nat)(h:n<=1000000000):SU n=some (Lib.decDigits n):=by
 unfold SU Lib.itoa
 rw[vaj (by simp;omega),van (by omega)]
 rfl
theorem WF:∀(used L:List ag),L.Nodup->used.length<L.length->∃x∈L,x∉used
 |[],L,_,h=>by
  cases L with
  |nil=>simp at h
  |cons x L=>exact⟨x,by simp,by simp⟩
 | u :: us,L,hn,h => by
  obtain⟨x,hx,hu⟩:=WF us (L.erase u) (hn.erase u) (by
   have:=List.length_erase (a:=u) (l:=L)
   rw[this]
   simp at h
   split<;>omega)
  rw[hn.mem_erase_iff]at hx
  exact⟨x,hx.2,by simp[hx.1,hu]⟩
theorem PO(used:List ag)(base:ag):∃n,1<=n/\n<=used.length+1/\base++Lib.decDigits n∉used:=by
 obtain⟨x,hx,hu⟩:=WF used ((List.range (used.length+1)).map fun i=>base++Lib.decDigits (i+1)) (by
  unfold List.Nodup
  rw[List.pairwise_map]
  refine vcO ?_ (List.nodup_range (n:=used.length+1))
  intro a b hab e
  have:=XF (List.append_cancel_left e)
  omega) (by simp)
 simp only[vap,vbq]at hx
 obtain⟨i,hi,rfl⟩:=hx
 exact⟨i+1,by omega,by omega,hu⟩
def kT(used:List ag)(base:ag):Nat->Nat->ag
 |0,_=>[]
 |k+1,n=>if used.contains (base++Lib.decDigits n)=true then kT used base k (n+1)else base++Lib.decDigits n
def fp(used:List ag)(base:ag):ag:=if used.contains base=true then kT used base 100000001 1 else base
theorem EP(used:List ag)(hl:qcj used):∃m,oU used used.length 0 []=some m/\∀k,Kt m k=used.contains k:=by
 unfold oU
 have:=oT used hl (fun i (m:List (ag×Bool))=>(i,m)) (fun zz=>iU used used.length zz.1 zz.2) (fun _ _=>True) (fun _ x m=>.inl (EM m x true)) (fun m=>m) (fun i hi t _=>⟨by
   simp only[iU]
   rw[vaj (by simp;omega),bj _ i hi]
   rfl,fun _ _=>trivial⟩) (fun _ _=>by simp only[iU];rw[van (by simp)]) 0 [] (vaP _) trivial
 simp only[Int.ofNat_zero,va6]at this
 rw[this]
 refine⟨_,rfl,?_⟩
 have key:∀(l:List ag) (i:Nat) (m:List (ag×Bool)) k,Kt (pr (fun _ x (m:List (ag×Bool))=>(Sum.inl (EM m x true):List (ag×Bool)⊕List (ag×Bool))) (fun m=>m) l i m) k=(l.contains k||Kt m k):=by
  intro l
  induction l with
  |nil=>intro i m k;simp[pr]
  |cons x l ih=>
   intro i m k
   unfold pr
   simp only[ih,Wf,List.contains_cons]
   cases(k==x)<;>cases l.contains k<;>simp
 intro k
 rw[key]
 simp[Kt,y6]
theorem G8(used:List ag)(base:ag)(m:List (ag×Bool))(hm:∀k,Kt m k=used.contains k)(hl:used.length<=100000000)(hb:base.length<=4000000000000000000)(N:Nat)(hN:base++Lib.decDigits N∉used)(hN2:N<=100000001):
  ∀(k n:Nat),1<=n->n<=N->N<n+k->kZ base m n=some (kT used base k n)/\lr used base (base++Lib.decDigits n) ((n+1:Nat):Int)=some (kT used base k n)/\kT used base k n∉used
 |0,n,_,h1,h2=>absurd h2 (by omega)
 | k + 1,n,h0,h1,h2 => by
  have hd:=N8 n
  have hd2:=N8 (n+1)
  have e1:aO ((n:Int)+1)=((n+1:Nat):Int):=by rw[dA (by omega) (by omega)];omega
  have e2:aO (((n+1:Nat):Int)+1)=((n+2:Nat):Int):=by rw[dA (by omega) (by omega)];omega
  unfold kT
  by_cases hc:used.contains (base++Lib.decDigits n)=true
  ·rw[vaj hc]
   have hne:n≠N:=by
    rintro rfl
    exact hN (by simpa using hc)
   obtain⟨i1,i2,i3⟩:=G8 used base m hm hl hb N hN hN2 k (n+1) (by omega) (by omega) (by omega)
   have hm':=hm (base++Lib.decDigits n)
   unfold Kt at hm'
   have b1:gh base m (n:Int)=some (.inl (((n+1:Nat):Int))):=by
    simp only[gh]
    rw[PX n (by omega)]
    simp only[vaa]
    rw[JJ (by omega)]
    simp only[vaa,hm',hc,e1]
    rfl
   have b2:cK used base (base++Lib.decDigits n) ((n+1:Nat):Int)=some (.inl (base++Lib.decDigits (n+1),((n+2:Nat):Int))):=by
    simp only[cK]
    rw[nM _ _ (by omega)]
    simp only[vaa,sJ]
    have:(used.any fun k=>k==base++Lib.decDigits n)=true:=by simpa[vbx]using hc
    rw[this,vaj rfl,GS (n+1) (by omega) (by omega)]
    simp only[vaa]
    rw[JJ (by omega)]
    simp only[vaa,e2]
   refine⟨?_,?_,i3⟩
   ·unfold kZ at i1 ⊢
    exact(pO b1).trans i1
   ·unfold lr at i2 ⊢
    exact(pO (body:=fun zz:ag×Int=>cK used base zz.1 zz.2) (s:=(base++Lib.decDigits n,((n+1:Nat):Int))) (s':=(base++Lib.decDigits (n+1),((n+2:Nat):Int))) b2).trans i2
  ·rw[van hc]
   have hc':used.contains (base++Lib.decDigits n)=false:=by simpa using hc
   have hm':=hm (base++Lib.decDigits n)
   unfold Kt at hm'
   have b1:gh base m (n:Int)=some (.inr (base++Lib.decDigits n)):=by
    simp only[gh]
    rw[PX n (by omega)]
    simp only[vaa]
    rw[JJ (by omega)]
    simp only[vaa,hm',hc']
    rfl
   have b2:cK used base (base++Lib.decDigits n) ((n+1:Nat):Int)=some (.inr (base++Lib.decDigits n)):=by
    simp only[cK]
    rw[nM _ _ (by omega)]
    simp only[vaa,sJ]
    have:(used.any fun k=>k==base++Lib.decDigits n)=false:=by
     rw[vcj]
     intro h
     apply hc
     simpa[vbx]using h
    rw[this]
    rfl
   refine⟨?_,?_,by simpa using hc⟩
   ·unfold kZ
    exact j5 b1
   ·unfold lr
    exact j5 (body:=fun zz:ag×Int=>cK used base zz.1 zz.2) (s:=(base++Lib.decDigits n,((n+1:Nat):Int))) b2
theorem DX(used:List ag)(base:ag)(hl:used.length<=100000000)(hb:base.length<=4000000000000000000):kY used base=some (fp used base)/\Fu used base=some (fp used base)/\fp used base∉used:=by
 obtain⟨m,hm1,hm⟩:=EP used (show _<_ by omega)
 have hm':=hm base
 unfold Kt at hm'
 obtain⟨N,h1,h2,h3⟩:=PO used base
 obtain⟨i1,i2,i3⟩:=G8 used base m hm hl hb N h3 (by omega) 100000001 1 (vah _) h1 (by omega)
 unfold kY Fu fp
 rw[hm1]
 simp only[vaa,hm']
 have hd:=N8 1
 by_cases hc:used.contains base=true
 ·simp only[hc,vcM,va3,if_false,if_true]
  simp only[Int.ofNat_one]at i1
  rw[i1]
  have b2:cK used base base 1=some (.inl (base++Lib.decDigits 1,((2:Nat):Int))):=by
   simp only[cK]
   rw[nM _ _ (by omega)]
   simp only[vaa,sJ]
   have:(used.any fun k=>k==base)=true:=by simpa[vbx]using hc
   have ht:=GS 1 (by omega) (by omega)
   simp only[Int.ofNat_one]at ht
   rw[this,vaj rfl,ht]
   simp only[vaa]
   rw[JJ (by omega)]
   rfl
  unfold lr at i2 ⊢
  have:=(pO (body:=fun zz:ag×Int=>cK used base zz.1 zz.2) (s:=(base,1)) (s':=(base++Lib.decDigits 1,((2:Nat):Int))) b2).trans i2
  rw[this]
  exact⟨rfl,rfl,i3⟩
 ·have hc':used.contains base=false:=by simpa using hc
  simp only[hc',vcA,if_true,va3,if_false]
  have b2:cK used base base 1=some (.inr base):=by
   simp only[cK]
   rw[nM _ _ (by omega)]
   simp only[vaa,sJ]
   have:(used.any fun k=>k==base)=false:=by
    rw[vcj]
    intro h
    apply hc
    simpa[vbx]using h
   rw[this]
   rfl
  unfold lr
  have:=j5 (body:=fun zz:ag×Int=>cK used base zz.1 zz.2) (s:=(base,1)) b2
  rw[this]
  exact⟨trivial,rfl,by simpa using hc⟩
theorem EA{u v:List ag}(h:∀x,x∈u↔x∈v)(base:ag):∀(k n:Nat),kT u base k n=kT v base k n
 |0,n=>by rw[kT,kT]
 | k + 1,n => by
  have e:u.contains (base++Lib.decDigits n)=v.contains (base++Lib.decDigits n):=by
   rw[vb2,vby,vby]
   exact h _
  rw[kT,kT,e,EA h base k (n+1)]
theorem Ok{u v:List ag}(h:∀x,x∈u↔x∈v)(base:ag):fp u base=fp v base:=by
 have e:u.contains base=v.contains base:=by
  rw[vb2,vby,vby]
  exact h _
 unfold fp
 rw[e,EA h]
abbrev UZ(x y:ag):Prop:=Op.bytesLess x y=true
theorem wB:∀(x:ag),Op.bytesLess x x=false
 |[]=>rfl
 |a::x=>by
  unfold Op.bytesLess
  rw[wB x]
  simp[UInt8.lt_irrefl]
theorem Aq:∀{x y z:ag},UZ x y->UZ y z->UZ x z
 |_,_,[],h1,h2=>by simp[UZ,Op.bytesLess]at h2
 |_,[],_::_,h1,h2=>by simp[UZ,Op.bytesLess]at h1
 |[],_::_,_::_,_,_=>rfl
 | a :: x,b :: y,c :: z,h1,h2 => by
  unfold UZ Op.bytesLess at h1 h2 ⊢
  simp only[vbc,vam,vag,va0]at h1 h2 ⊢
  rcases h1 with h1|⟨rfl,h1⟩
  ·rcases h2 with h2|⟨rfl,h2⟩
   ·exact .inl (UInt8.lt_trans h1 h2)
   ·exact .inl h1
  ·rcases h2 with h2|⟨rfl,h2⟩
   ·exact .inl h2
   ·exact .inr ⟨rfl,Aq h1 h2⟩
theorem El:∀{x y:ag},Op.bytesLess x y=false->Op.bytesLess y x=false->x=y
 |[],[],_,_=>rfl
 |[],_::_,h,_=>by simp[Op.bytesLess]at h
 |_::_,[],_,h=>by simp[Op.bytesLess]at h
 | a :: x,b :: y,h1,h2 => by
  unfold Op.bytesLess at h1 h2
  simp only[Bool.or_eq_false_iff,vbm,Bool.and_eq_false_imp,va0]at h1 h2
  have hab:a=b:=by
   have k1:=UInt8.not_lt.1 h1.1
   have k2:=UInt8.not_lt.1 h2.1
   exact UInt8.le_antisymm k2 k1
  subst hab
  rw[El (h1.2 rfl) (h2.2 rfl)]
theorem YB:∀(x y:ag),Op.bytesLess x y=decide (x<y)
 |[],[]=>by simp[Op.bytesLess]
 |_::_,[]=>by simp[Op.bytesLess]
 |[],_::_=>by simp[Op.bytesLess]
 |a::x,b::y=>by
  unfold Op.bytesLess
  rw[YB x y,vb2]
  simp[List.cons_lt_cons_iff]
theorem SV(x y:ag):decide (x<=y)= !Op.bytesLess y x:=by
 rw[YB]
 rw[<-decide_not]
 rfl
abbrev Yx(l:List ag):Prop:=l.Pairwise UZ
theorem Kd:∀{a b:List ag},Yx a->Yx b->(∀x,x∈a↔x∈b)->a=b
 |[],[],_,_,_=>rfl
 |[],y::b,_,_,h=>by have:=(h y).2 (by simp);simp at this
 |x::a,[],_,_,h=>by have:=(h x).1 (by simp);simp at this
 | x :: a,y :: b,ha,hb,h => by
  unfold Yx at ha hb
  rw[List.pairwise_cons]at ha hb
  have hxy:x=y:=by
   have h1:=(h x).1 (by simp)
   have h2:=(h y).2 (by simp)
   rw[vaA]at h1 h2
   rcases h1 with h1|h1
   ·exact h1
   ·rcases h2 with h2|h2
    ·exact h2.symm
    ·have:=Aq (hb.1 x h1) (ha.1 y h2)
     unfold UZ at this
     rw[wB]at this
     cases this
  subst hxy
  congr 1
  refine Kd ha.2 hb.2 fun z=>?_
  constructor
  ·intro hz
   have:=(h z).1 (by simp[hz])
   rw[vaA]at this
   rcases this with rfl|this
   ·have:=ha.1 _ hz;unfold UZ at this;rw[wB]at this;cases this
   ·exact this
  ·intro hz
   have:=(h z).2 (by simp[hz])
   rw[vaA]at this
   rcases this with rfl|this
   ·have:=hb.1 _ hz;unfold UZ at this;rw[wB]at this;cases this
   ·exact this
theorem O1(l:List ag):(lk l).Pairwise fun x y=>Op.bytesLess y x=false:=by
 have:=List.pairwise_mergeSort (le:=fun x y:ag=>decide (x<=y)) (fun a b c h1 h2=>by
  rw[SV]at h1 h2 ⊢
  simp only[va1]at h1 h2 ⊢
  cases h:Op.bytesLess c a with
  |false=>rfl
  | true =>
   exfalso
   by_cases hb:Op.bytesLess a b=true
   ·have:=Aq h hb
    unfold UZ at this
    rw[h2]at this
    cases this
   ·have:a=b:=El (by simpa using hb) h1
    subst this
    rw[h2]at h
    cases h) (fun a b=>by
  rw[SV,SV]
  cases h:Op.bytesLess b a with
  |false=>rfl
  | true =>
   cases h':Op.bytesLess a b with
   |false=>rfl
   |true=>
    have:=Aq h h'
    unfold UZ at this
    rw[wB]at this
    cases this) l
 refine vcO ?_ this
 intro a b h
 rw[SV]at h
 simpa using h
theorem UP(l:List ag)(x:ag):x∈lk l↔x∈l:=List.mem_mergeSort
theorem Cx(d:List ag)(hs:d.Pairwise fun x y=>Op.bytesLess y x=false):∀m,m<=d.length->Yx (Lib.compactUpTo d.toArray m)/\∀x,x∈Lib.compactUpTo d.toArray m↔∃(j:Nat) (h:j<d.length),j<m/\d[j]=x
 |0,_=>by
  refine⟨by simp[Lib.compactUpTo,Yx],fun x=>?_⟩
  simp[Lib.compactUpTo]
 | m + 1,hm => by
  obtain⟨h1,h2⟩:=Cx d hs m (by omega)
  have hg:∀j (h:j<d.length),d.toArray[j]! =d[j]:=fun j h=>by simp[h]
  rw[Lib.compactUpTo_succ]
  by_cases hk:Lib.keeps d.toArray m=true
  ·rw [vaj hk,hg m (by omega)]
   refine⟨?_,fun x=>?_⟩
   ·unfold Yx
    rw[List.pairwise_append]
    refine⟨h1,by simp,fun x hx y hy=>?_⟩
    simp at hy
    subst hy
    obtain⟨j,hj,hjm,rfl⟩:=(h2 x).1 hx
    have hne:d[m - 1]≠d[m]:=by
     unfold Lib.keeps at hk
     simp only[vam]at hk
     rcases hk with hk|hk
     ·omega
     ·rw[hg m (by omega),hg (m - 1) (by omega)]at hk
      exact fun e=>hk e.symm
    have hlt:Op.bytesLess d[m - 1] d[m]=true:=by
     have k1:=(vcd.1 hs) (m - 1) m (by omega) (by omega) (by omega)
     cases h:Op.bytesLess d[m - 1] d[m]with
     |true=>rfl
     |false=>exact absurd (El h k1) hne
    by_cases hj2:j=m - 1
    ·subst hj2;exact hlt
    ·have k2:=(vcd.1 hs) j (m - 1) (by omega) (by omega) (by omega)
     cases h:Op.bytesLess d[j] d[m - 1]with
     |true=>exact Aq h hlt
     |false=>
      have:=El h k2
      rw[this];exact hlt
   ·rw[vaD,h2]
    constructor
    ·rintro(⟨j,hj,hjm,rfl⟩|hx)
     ·exact⟨j,hj,by omega,rfl⟩
     ·simp at hx;exact⟨m,by omega,by omega,hx.symm⟩
    ·rintro⟨j,hj,hjm,rfl⟩
     by_cases e:j=m
     ·subst e;exact .inr (by simp)
     ·exact .inl ⟨j,hj,by omega,rfl⟩
  ·rw [van hk,va4]
   refine⟨h1,fun x=>?_⟩
   rw[h2]
   constructor
   ·rintro⟨j,hj,hjm,rfl⟩;exact⟨j,hj,by omega,rfl⟩
   ·rintro⟨j,hj,hjm,rfl⟩
    by_cases e:j=m
    ·subst e
     have:j≠0/\d.toArray[j]! =d.toArray[j - 1]! :=by
      unfold Lib.keeps at hk
      simp only[vam,not_or,ne_eq,Decidable.not_not]at hk
      exact hk
     rw[hg j hj,hg (j - 1) (by omega)]at this
     exact⟨j - 1,by omega,by omega,this.2.symm⟩
    ·exact⟨j,hj,by omega,rfl⟩
def Iv(a b:List ag):List ag:=Lib.compact (lk (a++b))
theorem KX(a b:List ag):Yx (Iv a b)/\∀x,x∈Iv a b↔x∈a\/x∈b:=by
 obtain⟨h1,h2⟩:=Cx (lk (a++b)) (O1 _) _ (vah _)
 refine⟨h1,fun x=>?_⟩
 rw[show Iv a b=Lib.compactUpTo (lk (a++b)).toArray (lk (a++b)).length from rfl,h2,<-vaD,<-UP,List.mem_iff_getElem]
 constructor
 ·rintro⟨j,h,_,e⟩;exact⟨j,h,e⟩
 ·rintro⟨j,h,e⟩;exact⟨j,h,h,e⟩
theorem AN(a b:List ag)(h:a.length+b.length<=1073741824):nS a b=some (Iv a b):=by
 unfold nS
 rw[dG (by simp;omega)]
 simp only[vaa]
 rw[dG (by simp;omega)]
 rfl
mutual
def nP:aa->Nat
 |⟨_,_,_,ks⟩=>nL ks+1
def nL:List aa->Nat
 |[]=>0
 |p::ps=>nP p+nL ps
end
theorem Ku(p:aa):nP p=nL p.Kids+1:=by obtain⟨o,n,k,ks⟩:=p;rw[nP];rfl
theorem OJ(p:aa):1<=nP p:=by rw[Ku];omega
theorem AL:∀{l:List aa} {x:aa},x∈l->nP x<=nL l
 | y :: l,x,h => by
  rw[nL]
  rcases vaA.1 h with rfl|h
  ·omega
  ·have:=AL h;omega
theorem pQ:∀(l:List aa),l.length<=nL l
 |[]=>by simp[nL]
 |p::l=>by rw[nL];have:=pQ l;have:=OJ p;simp only[vaO];omega
theorem oR{p x:aa}(h:x∈p.Kids):nP x<nP p:=by rw[Ku p];have:=AL h;omega
theorem tT(p:aa):p.Kids.length<nP p:=by rw[Ku];have:=pQ p.Kids;omega
theorem pP:∀(a b:List aa),nL (a++b)=nL a+nL b
 |[],b=>by simp[nL]
 |p::a,b=>by rw[vaG,nL,pP a b,nL];omega
mutual
theorem YU:∀(p:aa),nP p<=fU (ac p)
 |⟨o,n,k,ks⟩=>by
  have:=S1 ks
  rw[nP,aE]
  simp only[fU,pm,sl]
  show nL ks+1<=1+(n.length+1+(1+(bK (ks.map ac)+1+0)))
  omega
theorem S1:∀(l:List aa),nL l<=bK (l.map ac)
 |[]=>by simp[nL]
 |p::l=>by
  have:=YU p
  have:=S1 l
  rw[nL]
  simp only[vax,bK]
  omega
end
mutual
def qcD:aa->aa->Bool
 |⟨o,n,k,ks⟩,⟨o',n',k',ks'⟩=>(o==o')&&((n==n')&&((k==k')&&ZE ks ks'))
def ZE:List aa->List aa->Bool
 |[],[]=>true
 |x::xs,y::ys=>qcD x y&&ZE xs ys
 |_,_=>false
end
mutual
theorem SG:∀(a b:aa),qcD a b=true↔a=b
 |⟨o,n,k,ks⟩,⟨o',n',k',ks'⟩=>by
  rw[qcD]
  have:=SF ks ks'
  simp only[vag,va0,this,aa.mk.injEq]
theorem SF:∀(a b:List aa),ZE a b=true↔a=b
 |[],[]=>by simp[ZE]
 |x::xs,y::ys=>by
  rw[ZE]
  have h1:=SG x y
  have h2:=SF xs ys
  simp only[vag,h1,h2,vbt]
 |[],y::ys=>by simp[ZE]
 |x::xs,[]=>by simp[ZE]
end
instance:DecidableEq aa:=fun a b=>decidable_of_iff _ (SG a b)
theorem wH(p:aa):(⟨p.Op,p.Name,p.N,p.Kids⟩:aa)=p:=by cases p;rfl
theorem w9{a b:aa}:a=b↔a.Op=b.Op/\a.Name=b.Name/\a.N=b.N/\a.Kids=b.Kids:=by
 cases a;cases b
 simp only[aa.mk.injEq]
 rfl
theorem Ts{α:Type}[DecidableEq α]:∀{a b:List α},a.length=b.length->(a.zip b).any (fun x=>decide (x.1≠x.2))= !decide (a=b)
 |[],[],_=>by simp
 |x::a,y::b,h=>by
  have ih:=Ts (a:=a) (b:=b) (by simpa using h)
  rw[List.zip_cons_cons,List.any_cons,ih]
  by_cases h1:x=y<;>by_cases h2:a=b<;>simp[h1,h2]
theorem Qa{α X:Type}[DecidableEq α]{a b:List α}(hl:a.length=b.length)(ha:a.length<9223372036854775808)(body:Int->Option (Int⊕X))(y e:X)
  (hin:∀(i:Nat) (h:i<a.length) (h':i<b.length),body i=some (if decide (a[i]=b[i])=true then .inl (aO ((i:Int)+1))else .inr y)) (hend:body a.length=some (.inr e)):loop body 0=some (if decide (a=b)=true then e else y):=by
 have hz:(a.zip b).length=a.length:=by simp[hl]
 have:=Kr (a.zip b) (by omega) body (fun x=>decide (x.1≠x.2)) y e (fun i h=>?_) (by rw[hz];exact hend) 0 (vaP _)
 ·rw[va6,Ts hl]at this
  rw[show((0:Nat):Int)=0 from rfl]at this
  rw[this]
  by_cases h:a=b<;>simp[h]
 ·have h1:i<a.length:=by omega
  have h2:i<b.length:=by omega
  rw[hin i h1 h2]
  have hzi:(a.zip b)[i]=(a[i],b[i]):=by simp
  rw[hzi]
  by_cases h:a[i]=b[i]<;>simp[h]
abbrev bk:Nat:=1073741824
theorem fq{n:Nat}(h:n<=bk):n<Xx:=by have:=Zw;unfold bk at h;omega
theorem VK{R:aa->aa->Option Bool}{a b:List aa}(ha:a.length<=bk)(h:∀x∈a,∀y∈b,R x y=some (decide (x=y))):ym R a b=some (decide (a=b)):=by
 unfold ym
 by_cases hl:a.length=b.length
 ·rw[van (by simp[hl])]
  unfold wm
  rw[Qa hl (by unfold bk at ha;omega) (fun zz=>jG R a b (a.length:Int) zz) (.inl ()) (.inr ()) (fun i h1 h2=>?_) ?_]
  ·by_cases he:a=b<;>simp[he]
  ·unfold jG
   rw[van (by simp)]
  ·unfold jG
   rw[vaj (by simp;omega),bj a i h1]
   simp only[vaa]
   rw[bj b i h2]
   simp only[vaa]
   rw[h _ (vat h1) _ (vat h2)]
   simp only[vaa]
   by_cases he:a[i]=b[i]<;>simp[he]
 ·rw[vaj (by simp;omega)]
  rw[decide_eq_false (fun he=>hl (by rw[he]))]
theorem Fe(a b:aa)(ha:nP a<=bk):iZ a b=some (decide (a=b)):=by
 refine jl (F:=AZ) (fun x=>nP x.1) (fun x=>nP x.1<=bk) (fun x=>decide (x.1=x.2)) (fun R x hx ih=>?_) (a,b) ha (fq ha)
 obtain⟨u,v⟩:=x
 have hx:nP u<=bk:=hx
 show va (fun a a2=>R (a,a2)) u v=some (decide (u=v))
 unfold va
 have hk:=tT u
 by_cases h1:u.Op=v.Op
 ·by_cases h2:u.Name=v.Name
  ·by_cases h3:u.N=v.N
   ·rw[vaj (by simpa using h1),vaj (by simpa using h2),vaj (by simpa using h3)]
    rw[VK (a:=u.Kids) (b:=v.Kids) (by omega) (fun x hxa y hyb=>ih (x,y) (oR hxa) (vcv (vaF (oR hxa) hx)))]
    simp[w9 (a:=u) (b:=v),h1,h2,h3]
   ·rw[vaj (by simpa using h1),vaj (by simpa using h2),van (by simpa using h3)]
    simp[w9 (a:=u) (b:=v),h3]
  ·rw[vaj (by simpa using h1),van (by simpa using h2)]
   simp[w9 (a:=u) (b:=v),h2]
 ·rw[van (by simpa using h1)]
  simp[w9 (a:=u) (b:=v),h1]
theorem BC(p:aa)(hp:nP p<=bk):nX p=some p:=by
 refine jl (F:=qz) nP (fun x=>nP x<=bk) id (fun R x hx ih=>?_) p hp (fq hp)
 unfold qz wl ud
 have hlen:=tT x
 rw[P8 x.Kids (by unfold bk at hx;omega) (fun i s=>(i,s)) _ id id (fun i hi s hs=>?_) (fun s=>?_)]
 ·simp[wH]
 ·unfold lL
  rw[vaj (by simp;omega),bj x.Kids i hi]
  simp only[vaa]
  have hm:=vat hi
  rw[ih _ (oR hm) (vcv (vaF (oR hm) hx))]
  simp only[vaa]
  rw[dG (by unfold bk at hx;simp;omega)]
  rfl
 ·unfold lL
  rw[van (by simp)]
  rfl
theorem QF(a b:aa)(hb:nP b<=bk):tf a b=some (decide (a=b)):=by
 refine jl (F:=CY) (fun x=>nP x.2) (fun x=>nP x.2<=bk) (fun x=>decide (x.1=x.2)) (fun R x hx ih=>?_) (a,b) hb (fq hb)
 obtain⟨u,v⟩:=x
 have hx:nP v<=bk:=hx
 show xp (fun a a2=>R (a,a2)) u v=some (decide (u=v))
 unfold xp zB
 have hk:=tT v
 by_cases h1:u.Op=v.Op
 ·by_cases h2:u.Name=v.Name
  ·by_cases h3:u.N=v.N
   ·by_cases h4:u.Kids.length=v.Kids.length
    ·rw[van (by simpa using h1),van (by simpa using h2),van (by simpa using h3)]
     simp only[h4,bne_self_eq_false,vaa,if_false,va3]
     unfold zC
     rw[<-h4,Qa h4 (by unfold bk at hx;omega) _ (.inl ()) (.inr ()) (fun i g1 g2=>?_) ?_]
     ·by_cases he:u.Kids=v.Kids<;>simp[he,w9 (a:=u) (b:=v),h1,h2,h3]
     ·unfold qj
      rw[van (by simp)]
     ·unfold qj
      rw[vaj (by simp;omega),bj u.Kids i g1]
      simp only[vaa]
      rw[bj v.Kids i g2]
      simp only[vaa]
      have hm:=vat g2
      rw[ih (u.Kids[i],v.Kids[i]) (oR hm) (vcv (vaF (oR hm) hx))]
      by_cases he:u.Kids[i]=v.Kids[i]<;>simp[he]
    ·have hne:u≠v:=fun e=>h4 (by rw[e])
     rw[van (by simpa using h1),van (by simpa using h2),van (by simpa using h3)]
     have hb:((u.Kids.length:Int)!=(v.Kids.length:Int))=true:=by simp;omega
     simp[hb,hne]
   ·have hne:u≠v:=fun e=>h3 (by rw[e])
    rw[van (by simpa using h1),van (by simpa using h2),vaj (by simpa using h3)]
    simp[hne]
  ·have hne:u≠v:=fun e=>h2 (by rw[e])
   rw[van (by simpa using h1),vaj (by simpa using h2)]
   simp[hne]
 ·have hne:u≠v:=fun e=>h1 (by rw[e])
  rw[vaj (by simpa using h1)]
  simp[hne]
def ic:aa:=⟨0,[],0,[]⟩
def n7:aa:=⟨2,[],1,[]⟩
def AF:aa:=⟨2,[],0,[]⟩
def CS(p:aa):Bool:=decide (p=ic)||decide (p=n7)
theorem O6(p:aa)(hp:nP p<=bk):wU p=some (CS p):=by
 have h1:iZ p (⟨0,([]:ag),0,([]:List aa)⟩:aa)=some (decide (p=ic)):=Fe p ic hp
 have h2:iZ p (⟨2,([]:ag),1,([]:List aa)⟩:aa)=some (decide (p=n7)):=Fe p n7 hp
 unfold wU gg CS
 rw[h1]
 simp only[vaa,if_true,h2]
 cases decide (p=ic)<;>rfl
theorem XQ:nP ic<=bk:=by decide
theorem Nb{α σ X:Type}(g:α->σ->σ)(e:σ->X):∀(l:List α) (i:Nat) (s:σ),pr (fun _ x (s:σ)=>(Sum.inl (g x s):σ⊕X)) e l i s=e (l.foldl (fun s x=>g x s) s)
 |[],i,s=>by simp[pr]
 |x::l,i,s=>by
  unfold pr
  simp only
  rw[Nb g e l (i+1) (g x s)]
  rfl
theorem Ug{α σ τ X:Type}(l:List α)(hl:l.length<9223372036854775808)(mk:Int->σ->τ)(body:τ->Option (τ⊕X))(I:Nat->σ->Prop)(g:α->σ->σ)(e:σ->X)(s0:σ)(h0:I 0 s0)
  (hin:∀(i:Nat) (h:i<l.length) s,I i s->body (mk i s)=some (.inl (mk (aO ((i:Int)+1)) (g l[i] s)))/\I (i+1) (g l[i] s)) (hend:∀s,I l.length s->body (mk l.length s)=some (.inr (e s))):
  loop body (mk 0 s0)=some (e (l.foldl (fun s x=>g x s) s0)):=by
 have:=oT l hl mk body I (fun _ x s=>.inl (g x s)) e (fun i h s hs=>⟨(hin i h s hs).1,fun s' hs'=>by cases hs';exact(hin i h s hs).2⟩) (fun s hs=>hend s hs) 0 s0 (vaP _) h0
 rw[Nb]at this
 exact this
theorem EO(l:List aa)(i:Nat)(h:i<l.length):nL (l.take (i+1))=nL (l.take i)+nP l[i]:=by
 rw[vaM h,pP]
 simp[nL]
theorem yh(l:List aa)(i:Nat):nL (l.take i)<=nL l:=by
 have:=pP (l.take i) (l.drop i)
 rw[vcs]at this
 omega
theorem SQ:∀(l:List aa) (a:Int),l.foldl (fun s x=>s+(nP x:Int)) a=a+(nL l:Int)
 |[],a=>by simp[nL]
 |x::l,a=>by rw[List.foldl_cons,SQ l,nL];omega
theorem Wj(p:aa)(hp:nP p<=bk):FA p=some (nP p:Int):=by
 refine jl (F:=zA) nP (fun x=>nP x<=bk) (fun x=>(nP x:Int)) (fun R x hx ih=>?_) p hp (fq hp)
 show uE (fun p=>R p) x=_
 unfold uE xo
 have hlen:=tT x
 have hn:=Ku x
 rw[Ug x.Kids (by unfold bk at hx;omega) (fun i s=>(s,i)) _ (fun i s=>s=1+(nL (x.Kids.take i):Int)) (fun x s=>s+(nP x:Int)) id 1 (by simp[nL]) (fun i hi s hs=>?_) (fun s _=>?_)]
 ·rw[SQ]
  simp only[id,vaa]
  rw[hn];congr 1;omega
 ·have hm:=vat hi
  have hk:=oR hm
  refine⟨?_,by rw[EO _ _ hi,hs];omega⟩
  unfold oq
  rw[vaj (by simp;omega),bj x.Kids i hi]
  simp only[vaa]
  rw[ih _ hk (by omega)]
  simp only[vaa]
  have h1:=yh x.Kids i
  have h2:=yh x.Kids (i+1)
  have h3:=EO x.Kids i hi
  unfold bk at hx
  rw[dA (n:=s+_) (by omega) (by omega)]
 ·unfold oq
  rw[van (by simp)]
  rfl
mutual
def pk:aa->List aa
 |⟨o,n,k,ks⟩=>if o=15/\ks.length=2 then DO ks else if CS ⟨o,n,k,ks⟩=true then[]else[⟨o,n,k,ks⟩]
def DO:List aa->List aa
 |[]=>[]
 |p::ps=>pk p++DO ps
end
theorem UQ(p:aa):pk p=if p.Op=15/\p.Kids.length=2 then DO p.Kids else if CS p=true then[]else[p]:=by
 obtain⟨o,n,k,ks⟩:=p
 rw[pk];rfl
mutual
theorem wX:∀(p:aa),nL (pk p)<=nP p
 | ⟨o,n,k,ks⟩ => by
  have:=QQ ks
  rw[pk,nP]
  split
  ·omega
  ·split
   ·simp[nL]
   ·simp only[nL,nP];omega
theorem QQ:∀(l:List aa),nL (DO l)<=nL l
 |[]=>by simp[DO]
 |p::l=>by
  have:=wX p
  have:=QQ l
  rw[DO,pP,nL]
  omega
end
theorem QR(p:aa)(hp:nP p<=bk):yk p=some (pk p):=by
 refine jl (F:=yl) nP (fun x=>nP x<=bk) pk (fun R x hx ih=>?_) p hp (fq hp)
 show sO (fun p=>R p) x=_
 unfold sO wk
 rw[UQ]
 have two:x.Op=15->x.Kids.length=2->∃a b,x.Kids=[a,b]:=fun _ h=>by
  match x.Kids,h with
  |[a,b],_=>exact⟨a,b,rfl⟩
 by_cases h1:x.Op=15
 ·rw[vaj (by simpa using h1)]
  by_cases h2:x.Kids.length=2
  ·obtain⟨a,b,hk⟩:=two h1 h2
   have ha:a∈x.Kids:=by rw[hk];simp
   have hb:b∈x.Kids:=by rw[hk];simp
   have ka:=oR ha
   have kb:=oR hb
   rw[vaj ⟨h1,h2⟩]
   simp only[h2,vaa]
   rw[vaj (by simp),hk]
   rw[show cH [a,b] 0=some a from rfl,show cH [a,b] 1=some b from rfl]
   simp only[vaa]
   rw[ih a ka (by omega),ih b kb (by omega)]
   simp only[vaa]
   have l1:=pQ (pk a)
   have l2:=pQ (pk b)
   have l3:=wX a
   have l4:=wX b
   have hs:nP a+nP b<nP x:=by rw[Ku x,hk];simp only[nL];omega
   rw[dG (by unfold bk at hx;omega)]
   simp[DO]
  ·simp only[vaa]
   rw[van (by simp;omega),van (fun h=>h2 h.2),O6 x hx]
   simp only[vaa,BC x hx]
   by_cases hv:CS x=true<;>simp[hv]
 ·rw[van (by simpa using h1)]
  simp only[vaa,va3,if_false]
  rw[van (fun h=>h1 h.1),O6 x hx]
  simp only[vaa,BC x hx]
  by_cases hv:CS x=true<;>simp[hv]
def Xr(s:Option aa)(x:aa):aa:=match s with
 |none=>x
 |some q=>⟨15,[],0,[q,x]⟩
def TE:List aa->Option aa->aa
 |[],s=>s.getD n7
 |x::l,s=>if CS x=true then TE l s else if x=AF then AF else TE l (some (Xr s x))
abbrev T8:Type:=Int×ag×Int×List aa×Int×ag×Int×List aa
def t8(a b:aa):T8:=(a.Op,a.Name,a.N,a.Kids,b.Op,b.Name,b.N,b.Kids)
def Sx:T8⊕T8->aa
 |.inl o=>⟨o.1,o.2.1,o.2.2.1,o.2.2.2.1⟩
 |.inr o=>⟨o.2.2.2.2.1,o.2.2.2.2.2.1,o.2.2.2.2.2.2.1,o.2.2.2.2.2.2.2⟩
def Ve(x:aa)(s:Option aa):Option aa⊕(T8⊕T8):=
 if CS x=true then .inl s else if x=AF then .inr (.inl (t8 AF (s.getD n7)))else .inl (some (Xr s x))
theorem JC:∀(l:List aa) (i:Nat) (s:Option aa),Sx (pr (fun _ x s=>Ve x s) (fun s=>.inr (t8 ic (s.getD n7))) l i s)=TE l s
 |[],i,s=>by simp[pr,TE,Sx,t8,wH]
 | x :: l,i,s => by
  unfold pr TE Ve
  by_cases h1:CS x=true
  ·simp only[h1,if_true]
   exact JC l (i+1) s
  ·by_cases h2:x=AF
   ·simp only[h1,h2,if_true]
    rfl
   ·simp only[h1,h2,if_false]
    exact JC l (i+1) _
theorem Vf(l:List aa)(hl:∀x∈l,nP x<=bk)(hn:l.length<9223372036854775808):E1 l=some (TE l none):=by
 unfold E1 AX
 have h:=oT l hn (fun i (s:Option aa)=>(s.isSome,i,(0:Int),([]:ag),(0:Int),([]:List aa),(s.getD n7).Op,(s.getD n7).Name,(s.getD n7).N,(s.getD n7).Kids))
  (fun zz=>gf l (l.length:Int) zz.1 zz.2.1 zz.2.2.1 zz.2.2.2.1 zz.2.2.2.2.1 zz.2.2.2.2.2.1 zz.2.2.2.2.2.2.1 zz.2.2.2.2.2.2.2.1 zz.2.2.2.2.2.2.2.2.1 zz.2.2.2.2.2.2.2.2.2) (fun _ _=>True) (fun _ x s=>Ve x s) (fun s=>.inr (t8 ic (s.getD n7)))
  (fun i hi s _=>⟨?_,fun _ _=>trivial⟩) (fun s _=>?_) 0 none (vaP _) trivial
 ·have hr:=JC l 0 none
  rw[va6]at h
  have hc:gg true=some n7:=rfl
  rw[hc]
  simp only[vaa]
  have h':loop (fun(zz:Bool×Int×Int×ag×Int×(List aa)×Int×ag×Int×(List aa))=>gf l (l.length:Int) zz.1 zz.2.1 zz.2.2.1 zz.2.2.2.1 zz.2.2.2.2.1 zz.2.2.2.2.2.1 zz.2.2.2.2.2.2.1 zz.2.2.2.2.2.2.2.1 zz.2.2.2.2.2.2.2.2.1 zz.2.2.2.2.2.2.2.2.2) (false,0,0,([]:ag),0,([]:List aa),n7.Op,n7.Name,n7.N,n7.Kids)=_:=h
  rw[h']
  simp only[vaa]
  rw[<-hr]
  cases pr (fun _ x s=>Ve x s) (fun s=>Sum.inr (t8 ic (s.getD n7))) l 0 none<;>rfl
 ·show gf l (l.length:Int) s.isSome (i:Int) 0 [] 0 [] _ _ _ _=_
  unfold gf Ve
  have hx:=hl _ (vat hi)
  rw[vaj (by simp;omega),bj l i hi]
  simp only[vaa]
  generalize l[i]=x at hx
  rw[O6 x hx]
  simp only[vaa]
  by_cases h1:CS x=true
  ·simp only[h1,if_true]
  ·have hc:gg false=some AF:=rfl
   simp only[h1,if_false,hc,vaa,Fe x AF hx]
   by_cases h2:x=AF
   ·simp only[h2,decide_true,if_true]
    rfl
   ·simp only[h2,decide_false,if_false,va3,BC x hx,vaa]
    cases s with
    |none=>simp[Xr]
    |some q=>
     simp[Xr,wH]
     exact⟨rfl,rfl,rfl,rfl⟩
 ·show gf l (l.length:Int) s.isSome (l.length:Int) 0 [] 0 [] _ _ _ _=_
  unfold gf
  rw[van (by simp)]
  rfl
theorem VM{l:List ag}{v:ag}:(match l.findIdx? (fun x=>x==v)with|some j=>(j:Int)|none=>-1)>=0↔v∈l:=by
 cases h:l.findIdx? (fun x=>x==v)with
 | none =>
  rw[vcc]at h
  simp only
  constructor
  ·intro h';omega
  ·intro hm;have:=h v hm;simp at this
 | some j =>
  obtain⟨hj,h1,_⟩:=List.findIdx?_eq_some_iff_getElem.1 h
  simp only
  constructor
  ·intro _
   have:l[j]=v:=by simpa using h1
   exact this▸vat hj
  ·intro _;omega
theorem PV(l:List ag)(v:ag)(hl:l.length<9223372036854775808):ph l v=some (match l.findIdx? (fun x=>x==v)with|some j=>(j:Int)|none=>-1):=by
 unfold ph rO
 have h:=MQ l hl (fun zz=>ez l v (l.length:Int) zz) (fun x=>x==v) (fun j=>Sum.inl (j:Int)) (.inr ()) (fun i hi=>?_) ?_
 ·rw[h]
  simp only[vaa]
  cases l.findIdx? (fun x=>x==v)<;>rfl
 ·show ez l v (l.length:Int) (i:Int)=_
  unfold ez
  rw[vaj (by simp;omega),bj l i hi]
  simp only[vaa]
  by_cases he:v=l[i]
  ·subst he;simp
  ·have he':¬l[i]=v:=fun h=>he h.symm
   simp[he,he']
 ·show ez l v (l.length:Int) (l.length:Int)=_
  unfold ez
  rw[van (by simp)]
theorem uW(l:List ag)(v:ag)(hl:l.length<9223372036854775808):eJ l v=some (decide (v∈l)):=by
 unfold eJ
 rw[PV l v hl]
 simp only[vaa]
 congr 1
 exact decide_eq_decide.2 VM
def eK{α:Type}(o:Option α)(Q:α->Prop):Prop:=∃a,o=some a/\Q a
section
variable{α β σ τ X Y:Type}
theorem aj{a:α}{Q:α->Prop}(h:Q a):eK (some a) Q:=⟨a,rfl,h⟩
theorem O3{o:Option α}{a:α}{Q:α->Prop}(e:o=some a)(h:Q a):eK o Q:=⟨a,e,h⟩
theorem au{o:Option α}{f:α->Option β}{R:α->Prop}{Q:β->Prop}(h:eK o R)(h':∀a,R a->eK (f a) Q):eK (o.bind f) Q:=by
 obtain⟨a,rfl,h⟩:=h
 exact h' a h
theorem cp{o:Option α}{a:α}{f:α->Option β}{Q:β->Prop}(e:o=some a)(h:eK (f a) Q):eK (o.bind f) Q:=by
 rw[e];exact h
theorem eK.mono{o:Option α}{Q R:α->Prop}(h:eK o Q)(h':∀a,Q a->R a):eK o R:=by
 obtain⟨a,e,h⟩:=h
 exact⟨a,e,h' a h⟩
theorem aG{c:Prop}[Decidable c]{a b:Option α}{Q:α->Prop}(h1:c->eK a Q)(h2:¬c->eK b Q):eK (if c then a else b) Q:=by
 by_cases h:c
 ·rw[vaj h];exact h1 h
 ·rw[van h];exact h2 h
theorem lq{F:(X->Option Y)->X->Option Y}(μ:X->Nat)(P:X->Prop)(Q:X->Y->Prop)(h:∀(R:X->Option Y) x,P x->(∀y,μ y<μ x->P y->eK (R y) (Q y))->eK (F R x) (Q x))(x:X)(hx:P x)(hm:μ x<Xx):eK (oP F x) (Q x):=by
 have key:∀n x,μ x<n->P x->eK (qbi F n x) (Q x):=by
  intro n
  induction n with
  |zero=>intro x hx;omega
  |succ n ih=>intro x hx hq;exact h _ x hq fun y hy hqy=>ih y (by omega) hqy
 exact key _ x hm hx
theorem xa(l:List α)(hl:l.length<9223372036854775808)(mk:Int->σ->τ){body:τ->Option (τ⊕X)}(I:Nat->σ->Prop){Q:X->Prop}
  (hin:∀(i:Nat) (h:i<l.length) s,I i s->eK (body (mk i s)) (fun r=>match r with|.inl t=>∃s',t=mk (aO ((i:Int)+1)) s'/\I (i+1) s'|.inr y=>Q y))
  (hend:∀s,I l.length s->eK (body (mk l.length s)) (fun r=>match r with|.inl _=>False|.inr y=>Q y)):∀s,I 0 s->eK (loop body (mk 0 s)) Q:=by
 have key:∀k i s,k+i=l.length->I i s->eK (loop body (mk (i:Int) s)) Q:=by
  intro k
  induction k with
  |zero=>
   intro i s hi hI
   have:i=l.length:=by omega
   subst this
   obtain⟨r,e,hr⟩:=hend s hI
   rw[oS,e]
   cases r with
   |inl _=>exact hr.elim
   |inr y=>exact⟨y,rfl,hr⟩
  | succ k ih =>
   intro i s hi hI
   obtain⟨r,e,hr⟩:=hin i (by omega) s hI
   rw[oS,e]
   cases r with
   |inl t=>
    obtain⟨s',rfl,hI'⟩:=hr
    simp only
    rw[dA (by omega) (by omega),show((i:Int)+1)=((i+1:Nat):Int) by omega]
    exact ih (i+1) s' (by omega) hI'
   |inr y=>exact⟨y,rfl,hr⟩
 exact fun s hs=>key l.length 0 s (by omega) hs
end
section
variable{α β σ τ X Y:Type}
theorem sW(l:List α)(hl:l.length<=1073741824)(mk:Int->List β->τ)(body:τ->Option (τ⊕X))(h:α->Option β)(g:α->β)(e:List β->X)
  (hb:∀(i:Int) (s:List β),body (mk i s)=if decide (i<(l.length:Int))=true then(cH l i).bind (fun x=>(h x).bind fun r=>(app s ([r]:List β)).bind fun q=>some (.inl (mk (aO (i+1)) q)))else some (.inr (e s)))
  (hg:∀x∈l,h x=some (g x)):loop body (mk 0 [])=some (e (l.map g)):=by
 refine P8 l (by omega) mk body g e (fun i hi s hs=>?_) (fun s=>?_)
 ·rw[hb,vaj (by simp;omega),bj l i hi]
  simp only[vaa]
  rw[hg _ (vat hi)]
  simp only[vaa]
  rw[dG (by simp;omega)]
  rfl
 ·rw[hb,van (by simp)]
theorem kX(l:List α)(hl:l.length<9223372036854775808)(mk:Int->σ->τ)(body:τ->Option (τ⊕X))(k:Int->σ->α->Option (τ⊕X))(I:Nat->σ->Prop)(g:α->σ->σ)(e:σ->X)(s0:σ)(h0:I 0 s0)
  (hb:∀(i:Int) (s:σ),body (mk i s)=if decide (i<(l.length:Int))=true then(cH l i).bind (k i s)else some (.inr (e s)))
  (hin:∀(i:Nat) (h:i<l.length) s,I i s->k i s l[i]=some (.inl (mk (aO ((i:Int)+1)) (g l[i] s)))/\I (i+1) (g l[i] s)):loop body (mk 0 s0)=some (e (l.foldl (fun s x=>g x s) s0)):=by
 have:=oT l hl mk body I (fun _ x s=>.inl (g x s)) e (fun i h s hs=>⟨?_,fun s' hs'=>by cases hs';exact(hin i h s hs).2⟩) (fun s hs=>by rw[hb,van (by simp)]) 0 s0 (vaP _) h0
 ·rw[va6,show((0:Nat):Int)=0 from rfl]at this
  rw[this]
  have key:∀(l:List α) (i:Nat) (s:σ),pr (fun _ x (s:σ)=>(Sum.inl (g x s):σ⊕X)) e l i s=e (l.foldl (fun s x=>g x s) s):=by
   intro l
   induction l with
   |nil=>intro i s;rfl
   |cons x l ih=>intro i s;unfold pr;simp only;rw[ih];rfl
  rw[key]
 ·rw[hb,vaj (by simp;omega),bj l i h]
  simp only[vaa]
  exact(hin i h s hs).1
theorem Nj(l:List α)(hl:l.length<9223372036854775808)(mk:Int->σ->τ){body:τ->Option (τ⊕X)}(k:Int->σ->α->Option (τ⊕X))(e:σ->X)(I:Nat->σ->Prop){Q:X->Prop}
  (hb:∀(i:Int) (s:σ),body (mk i s)=if decide (i<(l.length:Int))=true then(cH l i).bind (k i s)else some (.inr (e s)))
  (hin:∀(i:Nat) (h:i<l.length) s,I i s->eK (k i s l[i]) (fun r=>match r with|.inl t=>∃s',t=mk (aO ((i:Int)+1)) s'/\I (i+1) s'|.inr y=>Q y))
  (hend:∀s,I l.length s->Q (e s)):∀s,I 0 s->eK (loop body (mk 0 s)) Q:=
 xa l hl mk I (fun i h s hs=>by
  rw[hb,vaj (by simp;omega),bj l i h]
  exact hin i h s hs) (fun s hs=>by
  rw[hb,van (by simp)]
  exact⟨_,rfl,hend s hs⟩)
theorem UV(l:List α)(hl:l.length<9223372036854775808){body:Int->Option (Int⊕X)}(k:Int->α->Option (Int⊕X))(e:X)(I:Nat->Prop){Q:X->Prop}
  (hb:∀(i:Int),body i=if decide (i<(l.length:Int))=true then(cH l i).bind (k i)else some (.inr e))
  (hin:∀(i:Nat) (h:i<l.length),I i->eK (k i l[i]) (fun r=>match r with|.inl t=>t=aO ((i:Int)+1)/\I (i+1)|.inr y=>Q y))
  (hend:I l.length->Q e) (h0:I 0):eK (loop body 0) Q:=
 Nj l hl (fun i (_:Unit)=>i) (fun i _=>k i) (fun _=>e) (fun i _=>I i) (fun i _=>hb i) (fun i h s hs=>(hin i h hs).mono fun r hr=>by
  cases r with
  |inl t=>exact⟨(),hr.1,hr.2⟩
  |inr y=>exact hr) (fun _ h=>hend h) () h0
end
def Am{α:Type}(p:α->α->Bool):List α->List α->Bool
 |[],[]=>true
 |x::a,y::b=>p x y&&Am p a b
 |_,_=>false
theorem Pw{α:Type}{p:α->α->Bool}:∀{a b:List α},Am p a b=true->a.length=b.length
 |[],[],_=>rfl
 |x::a,y::b,h=>by
  rw[Am,vag]at h
  simp[Pw h.2]
 |[],y::b,h=>by simp[Am]at h
 |x::a,[],h=>by simp[Am]at h
theorem Xo{α:Type}{p:α->α->Bool}:∀{a b:List α},a.length≠b.length->Am p a b=false:=fun{a b} h=>by
 rw[vcj]
 exact fun he=>h (Pw he)
theorem Px{α:Type}{p:α->α->Bool}:∀{a b:List α},a.length=b.length->(a.zip b).any (fun x=>!p x.1 x.2)= !Am p a b
 |[],[],_=>rfl
 |x::a,y::b,h=>by
  rw[List.zip_cons_cons,List.any_cons,Px (by simpa using h),Am]
  cases p x y<;>rfl
theorem Uh{α X:Type}{a b:List α}(hl:a.length=b.length)(ha:a.length<9223372036854775808)(body:Int->Option (Int⊕X))(k:Int->α->α->Option (Int⊕X))(p:α->α->Bool)(y e:X)
  (hb:∀(i:Int),body i=if decide (i<(a.length:Int))=true then(cH a i).bind (fun x=>(cH b i).bind (k i x))else some (.inr e))
  (hk:∀x∈a,∀z∈b,∀i,k i x z=some (if p x z=true then .inl (aO (i+1))else .inr y)):loop body 0=some (if Am p a b=true then e else y):=by
 have hz:(a.zip b).length=a.length:=by simp[hl]
 have:=Kr (a.zip b) (by omega) body (fun x=>!p x.1 x.2) y e (fun i h=>?_) (by rw[hb,van (by simp[hz])]) 0 (vaP _)
 ·rw[va6,Px hl]at this
  rw[show((0:Nat):Int)=0 from rfl]at this
  rw[this]
  by_cases h:Am p a b=true<;>simp[h]
 ·have h1:i<a.length:=by omega
  have h2:i<b.length:=by omega
  rw[hb,vaj (by simp;omega),bj a i h1]
  simp only[vaa]
  rw[bj b i h2]
  simp only[vaa]
  rw[hk _ (vat h1) _ (vat h2)]
  have hzi:(a.zip b)[i]=(a[i],b[i]):=by simp
  rw[hzi]
  by_cases h:p a[i] b[i]=true<;>simp[h]
theorem nQ{α:Type}(l:List α)(h:l.length<=1073741824):kK l=some l:=vaj h
mutual
def dP:aa->Nat
 |⟨_,_,_,ks⟩=>dL ks+1
def dL:List aa->Nat
 |[]=>0
 |p::ps=>max (dP p) (dL ps)
end
theorem qbf(p:aa):dP p=dL p.Kids+1:=by obtain⟨o,n,k,ks⟩:=p;rw[dP];rfl
mutual
theorem YK:∀(p:aa),dP p<=nP p
 |⟨o,n,k,ks⟩=>by have:=YJ ks;rw[dP,nP];omega
theorem YJ:∀(l:List aa),dL l<=nL l
 |[]=>by simp[dL]
 |p::l=>by have:=YK p;have:=YJ l;rw[dL,nL];omega
end
theorem SP:∀(l:List aa) (a:Nat),l.foldl (fun(s:Int) x=>if(dP x:Int)>s then(dP x:Int)else s) (a:Int)=((max a (dL l):Nat):Int)
 |[],a=>by simp[dL]
 |x::l,a=>by
  rw[List.foldl_cons,show(if(dP x:Int)>(a:Int)then(dP x:Int)else(a:Int))=((max a (dP x):Nat):Int) by split<;>omega,SP l,dL,Nat.max_assoc]
theorem VH(p:aa)(hp:nP p<=bk):Fx p=some (dP p:Int):=by
 refine jl (F:=zx) nP (fun x=>nP x<=bk) (fun x=>(dP x:Int)) (fun R x hx ih=>?_) p hp (fq hp)
 show uD (fun p=>R p) x=_
 unfold uD xn
 have hlen:=tT x
 have hd:=YK x
 have he:=qbf x
 have hz:(0:Int)=((0:Nat):Int):=rfl
 rw[kX x.Kids (by unfold bk at hx;omega) (fun i s=>(s,i)) _ (fun i s x=>(R x).bind fun r=>some (.inl ((if r>s then r else s),aO (i+1)))) (fun _ _=>True) (fun x s=>if(dP x:Int)>s then(dP x:Int)else s) id 0 trivial (fun i s=>rfl) (fun i hi s _=>⟨?_,trivial⟩)]
 ·rw[hz,SP]
  simp only[id,vaa]
  unfold bk at hx
  rw[dA (by omega) (by omega)]
  congr 1;omega
 ·have hm:=vat hi
  have hk:=oR hm
  rw[ih _ hk (by omega)]
  rfl
def tU(ns:List ag)(bs:List aa)(n:ag):Option aa:=(ns.findIdx? (fun x=>x==n)).bind fun j=>bs[j]?
mutual
def Hk(f:ag->Option aa):aa->aa
 |⟨o,n,k,ks⟩=>(if o=3 then f n else none).getD ⟨o,n,k,Tl f ks⟩
def Tl(f:ag->Option aa):List aa->List aa
 |[]=>[]
 |p::ps=>Hk f p::Tl f ps
end
theorem OY(f:ag->Option aa):∀(l:List aa),Tl f l=l.map (Hk f)
 |[]=>by rw[Tl];rfl
 |p::l=>by rw[Tl,OY f l];rfl
theorem ZV(f:ag->Option aa)(p:aa):Hk f p=(if p.Op=3 then f p.Name else none).getD ⟨p.Op,p.Name,p.N,p.Kids.map (Hk f)⟩:=by
 obtain⟨o,n,k,ks⟩:=p
 rw[Hk,OY];rfl
mutual
theorem YX(f:ag->Option aa)(M:Nat)(hM:1<=M)(hf:∀n q,f n=some q->nP q<=M):∀(p:aa),nP (Hk f p)<=nP p * M
 | ⟨o,n,k,ks⟩ => by
  have:=YW f M hM hf ks
  rw[Hk]
  cases h:(if o=3 then f n else none)with
  |none=>
   simp only[Option.getD_none]
   rw[nP,nP,va7];omega
  | some q =>
   simp only[Option.getD_some]
   have:f n=some q:=by
    split at h
    ·exact h
    ·cases h
   have:=hf n q this
   rw[nP,va7]
   have:0<=nL ks * M:=vaP _
   omega
theorem YW(f:ag->Option aa)(M:Nat)(hM:1<=M)(hf:∀n q,f n=some q->nP q<=M):∀(l:List aa),nL (Tl f l)<=nL l * M
 |[]=>by simp[Tl,nL]
 |p::l=>by
  have:=YX f M hM hf p
  have:=YW f M hM hf l
  rw[Tl,nL,nL,va7];omega
end
theorem Wa{ns:List ag}{bs:List aa}{n:ag}{q:aa}(h:tU ns bs n=some q):q∈bs:=by
 unfold tU at h
 cases hf:ns.findIdx? (fun x=>x==n)with
 |none=>rw[hf]at h;cases h
 |some j=>
  rw[hf]at h
  exact vaz h
theorem X5(ns:List ag)(bs:List aa)(p:aa)(hn:ns.length<9223372036854775808)(hb:∀q∈bs,nP q<=bk):
  lJ ns bs p=some ((if p.Op=3 then tU ns bs p.Name else none).elim (.inr ()) (fun q=>.inl (q.Op,q.Name,q.N,q.Kids))):=by
 unfold lJ pX tU Dx
 by_cases h1:p.Op=3
 ·rw[vaj (by simpa using h1),PV ns p.Name hn,vaj h1]
  simp only[vaa]
  cases hf:ns.findIdx? (fun x=>x==p.Name)with
  |none=>rfl
  | some j =>
   simp only[vaa]
   rw[vaj (vbr (show(j:Int)>=0 by omega))]
   simp only[vaa]
   by_cases h2:j<bs.length
   ·rw[vaj (vbr (by omega)),bj bs j h2,vab h2]
    simp only[vaa]
    rw[BC _ (hb _ (vat h2))]
    rfl
   ·rw[van (by simp;omega),vau (by omega)]
    rfl
 ·rw[van (by simpa using h1),van h1]
  rfl
theorem IK(p:aa)(ns:List ag)(bs:List aa)(hp:nP p<=bk)(hn:ns.length<9223372036854775808)(hb:∀q∈bs,nP q<=bk):io p ns bs=some (Hk (tU ns bs) p):=by
 refine jl (F:=rH) (fun x=>nP x.1) (fun x=>nP x.1<=bk/\x.2=(ns,bs)) (fun x=>Hk (tU x.2.1 x.2.2) x.1) (fun R x hx ih=>?_) (p,ns,bs) ⟨hp,rfl⟩ (fq hp)
 obtain⟨p,ns',bs'⟩:=x
 obtain⟨hx,he⟩:=hx
 cases he
 have hx:nP p<=bk:=hx
 show nk (fun p names a=>R (p,names,a)) p ns bs=some (Hk (tU ns bs) p)
 unfold nk
 rw[X5 ns bs p hn hb,ZV]
 cases h:(if p.Op=3 then tU ns bs p.Name else none)with
 |some q=>
  simp only[Option.elim,vaa,wH,Option.getD_some]
 |none=>
  simp only[Option.elim,vaa,Option.getD_none]
  unfold pY
  have hlen:=tT p
  rw[sW p.Kids (by unfold bk at hx;omega) (fun i s=>(i,s)) _ (fun y=>R (y,ns,bs)) (Hk (tU ns bs)) id (fun i s=>rfl) (fun y hy=>ih (y,ns,bs) (oR hy) ⟨by have:=oR hy;show nP y<=bk;omega,rfl⟩)]
  rfl
def KP(v:ag)(q:aa)(n:ag):Option aa:=if n=v then some q else none
theorem Wb(v:ag)(q:aa):tU [v] [q]=KP v q:=by
 funext n
 unfold tU KP
 rw[vcL]
 by_cases h:n=v
 ·subst h;simp
 ·have h':(v==n)=false:=by simpa using fun e=>h e.symm
  simp[h',h]
theorem M5(p:aa)(v:ag)(q:aa)(hp:nP p<=bk)(hq:nP q<=bk):ub p v q=some (Hk (KP v q) p):=by
 unfold ub
 rw[IK p [v] [q] hp (by simp) (by simpa using hq),Wb]
 rfl
mutual
def cq:ae->Nat
 |⟨_,_,xs,ns,_,ps⟩=>cG xs+ns.length+ps.length+1
def cG:List ae->Nat
 |[]=>0
 |a::xs=>cq a+cG xs
end
theorem qw(t:ae):cq t=cG t.Args+t.Names.length+t.Preds.length+1:=by obtain⟨o,n,xs,ns,p,ps⟩:=t;rw[cq];rfl
theorem mP(t:ae):1<=cq t:=by rw[qw];omega
theorem Gh:∀{l:List ae} {x:ae},x∈l->cq x<=cG l
 | y :: l,x,h => by
  rw[cG]
  rcases vaA.1 h with rfl|h
  ·omega
  ·have:=Gh h;omega
theorem BG:∀(l:List ae),l.length<=cG l
 |[]=>by simp[cG]
 |p::l=>by rw[cG];have:=BG l;have:=mP p;simp only[vaO];omega
theorem ig{t a:ae}(h:a∈t.Args):cq a<cq t:=by rw[qw t];have:=Gh h;omega
theorem gX(t:ae):t.Args.length<cq t:=by rw[qw];have:=BG t.Args;omega
theorem nU(t:ae):t.Names.length<cq t:=by rw[qw];omega
theorem GB(t:ae):t.Preds.length<cq t:=by rw[qw];omega
mutual
def F6(Q:aa->Prop):ae->Prop
 |⟨_,_,xs,_,p,ps⟩=>Q p/\(∀q∈ps,Q q)/\Ap Q xs
def Ap(Q:aa->Prop):List ae->Prop
 |[]=>True
 |a::xs=>F6 Q a/\Ap Q xs
end
theorem Vc(Q:aa->Prop)(t:ae):F6 Q t↔Q t.Pred/\(∀q∈t.Preds,Q q)/\Ap Q t.Args:=by obtain⟨o,n,xs,ns,p,ps⟩:=t;rw[F6];rfl
theorem Mo(Q:aa->Prop):∀(l:List ae),Ap Q l↔∀t∈l,F6 Q t
 |[]=>by simp[Ap]
 |a::l=>by rw[Ap,Mo Q l];simp
mutual
theorem Mp{Q R:aa->Prop}(h:∀p,Q p->R p):∀(t:ae),F6 Q t->F6 R t
 |⟨_,_,xs,_,p,ps⟩,ht=>by
  rw[F6]at ht ⊢
  exact⟨h _ ht.1,fun q hq=>h _ (ht.2.1 q hq),JB h xs ht.2.2⟩
theorem JB{Q R:aa->Prop}(h:∀p,Q p->R p):∀(l:List ae),Ap Q l->Ap R l
 |[],_=>trivial
 |a::xs,hl=>by
  rw[Ap]at hl ⊢
  exact⟨Mp h a hl.1,JB h xs hl.2⟩
end
theorem YT(l:List aa):l.length<=bK (l.map ac):=by
 have:=pQ l
 have:=S1 l
 omega
theorem V4(l:List ag):l.length<=bK (l.map cS):=by
 have h:=Qp (l.map cS) (fun x hx=>by
  obtain⟨s,_,rfl⟩:=vap.1 hx
  simp only[cS,fU,pm];omega)
 rwa[vaL]at h
theorem wR(t:ae):fU (af t)=1+(pm (.str t.Name)+(pm (sl af t.Args)+(pm (sl cS t.Names)+(1+(pm (.str t.Pred.Name)+(1+(pm (sl ac t.Pred.Kids)+(pm (sl ac t.Preds)+0)))))))):=by
 rw[bz];rfl
mutual
theorem SY:∀(t:ae),cq t<=fU (af t)
 |⟨o,n,xs,ns,p,ps⟩=>by
  have h1:=P0 xs
  have h2:=YT ps
  have h3:=V4 ns
  rw[cq,wR]
  show _<=1+(pm (.str n)+(pm (sl af xs)+(pm (sl cS ns)+(1+(pm (.str p.Name)+(1+(pm (sl ac p.Kids)+(pm (sl ac ps)+0))))))))
  simp only[pm,sl]
  omega
theorem P0:∀(l:List ae),cG l<=bK (l.map af)
 |[]=>by simp[cG]
 |a::l=>by
  have:=SY a
  have:=P0 l
  rw[cG]
  simp only[vax,bK]
  omega
end
theorem X1(t:ae):nP t.Pred<=fU (af t):=by
 have h:=S1 t.Pred.Kids
 rw[Ku,wR]
 simp only[pm,sl]
 omega
mutual
theorem Sw(B:Nat):∀(t:ae),fU (af t)<=B->F6 (fun p=>nP p<=B) t
 |⟨o,n,xs,ns,p,ps⟩,h=>by
  have h0:=X1 ⟨o,n,xs,ns,p,ps⟩
  rw[wR]at h h0
  have h:1+(pm (.str n)+(pm (sl af xs)+(pm (sl cS ns)+(1+(pm (.str p.Name)+(1+(pm (sl ac p.Kids)+(pm (sl ac ps)+0))))))))<=B:=h
  have h0:nP p<=1+(pm (.str n)+(pm (sl af xs)+(pm (sl cS ns)+(1+(pm (.str p.Name)+(1+(pm (sl ac p.Kids)+(pm (sl ac ps)+0)))))))):=h0
  simp only[pm,sl]at h h0
  rw[F6]
  refine⟨by omega,fun q hq=>?_,PA B xs (by omega)⟩
  have h1:=YU q
  have h2:=ua (vap.2 ⟨q,hq,rfl⟩:ac q∈ps.map ac)
  omega
theorem PA(B:Nat):∀(l:List ae),bK (l.map af)<=B->Ap (fun p=>nP p<=B) l
 |[],_=>trivial
 |a::xs,h=>by
  simp only[vax,bK]at h
  rw[Ap]
  exact⟨Sw B a (by omega),PA B xs (by omega)⟩
end
section
variable{α β σ τ X Y:Type}
theorem RU(l:List α)(hl:l.length<9223372036854775808)(mk:Int->τ)(body:τ->Option (τ⊕X))(f:α->Option X)(e:X)
  (hin:∀(i:Nat) (h:i<l.length),body (mk (i:Int))=some ((f l[i]).elim (.inl (mk (aO ((i:Int)+1)))) .inr)) (hend:body (mk l.length)=some (.inr e)):loop body (mk 0)=some ((l.findSome? f).elim e id):=by
 have key:∀k i,k+i=l.length->loop body (mk (i:Int))=some (((l.drop i).findSome? f).elim e id):=by
  intro k
  induction k with
  |zero=>
   intro i hi
   have:i=l.length:=by omega
   subst this
   rw[oS,hend,vbY]
   rfl
  | succ k ih =>
   intro i hi
   rw[oS,hin i (by omega),va5 (by omega),List.findSome?_cons]
   cases h:f l[i]with
   |none=>
    simp only[Option.elim]
    rw[dA (by omega) (by omega),show((i:Int)+1)=((i+1:Nat):Int) by omega]
    exact ih (i+1) (by omega)
   |some y=>rfl
 have:=key l.length 0 (by omega)
 rw[va6]at this
 exact this
theorem nZ{A:Type}(l:List α)(hl:l.length<9223372036854775808){body:Int->Option (Int⊕(A⊕Unit))}(k:Int->α->Option (Int⊕(A⊕Unit)))(P:α->Prop)(B:A->Prop)
  (hb:∀(i:Int),body i=if decide (i<(l.length:Int))=true then(cH l i).bind (k i)else some (.inr (.inr ())))
  (hk:∀x∈l,∀i,eK (k i x) (fun r=>r.elim (fun t=>t=aO (i+1)/\P x) (fun y=>y.elim B (fun _=>False)))):eK (loop body 0) (fun r=>r.elim B (fun _=>∀x∈l,P x)):=by
 refine UV l hl k (.inr ()) (fun i=>∀j (h:j<l.length),j<i->P l[j]) hb (fun i hi hI=>(hk _ (vat hi) i).mono fun r hr=>?_) (fun hI x hx=>?_) (fun j _ h=>absurd h (vaR _))
 ·cases r with
  | inl t =>
   refine⟨hr.1,fun j hj h=>?_⟩
   by_cases he:j=i
   ·subst he;exact hr.2
   ·exact hI j hj (by omega)
  |inr y=>cases y with
   |inl a=>exact hr
   |inr u=>exact hr.elim
 ·obtain⟨j,hj,rfl⟩:=vcE hx
  exact hI j hj hj
end
end Go.Proofs.YtbaamopmfmpfaaaGreatDoor
