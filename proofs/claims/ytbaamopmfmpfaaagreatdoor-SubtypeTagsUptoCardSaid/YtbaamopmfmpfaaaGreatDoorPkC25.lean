/- PROVED: parts of the proof (Na Nb PlC Pp1 Pp2 Pp4 Pp6 Pq1 Pt1 Pt2 Tot). Conditions: none. -/
import Derived.Test.YtbaamopmfmpfaaaGreatDoorPkC24
import Derived.Test.YtbaamopmfmpfaaaGreatDoorPkC10
import Derived.Test.YtbaamopmfmpfaaaGreatDoorPkC11
noncomputable section
namespace Go.Proofs.YtbaamopmfmpfaaaGreatDoor
open Go
set_option linter.unusedSimpArgs false
set_option linter.unusedVariables false
abbrev qcr(a:List ag):Prop:=a.length<9223372036854775808
def SX(l:List ag)(s:ag):Int:=match l.findIdx? (fun x=>x==s)with|some j=>(j:Int)|none=>-1
theorem nH(l:List ag)(s:ag)(hl:l.length<9223372036854775808):wC l s=some (SX l s):=by
 unfold wC zH
 have:=M0 l hl (fun zz=>me l s l.length zz) (fun x=>x==s) (fun j=>Sum.inl (j:Int)) (Sum.inr ()) (fun i h=>by
  simp only[me]
  rw[vak (by simp;omega),bv _ i h]
  simp only[vaa]
  split<;>simp_all) (by simp only[me];rw[van (by simp)])
 rw[this]
 unfold SX
 cases l.findIdx? (fun x=>x==s)<;>rfl
theorem sF(l:List ag)(s:ag):decide (SX l s>=0)=l.any fun k=>k==s:=by
 unfold SX
 cases h:l.findIdx? (fun x=>x==s)with
 |none=>
  rw[vcc]at h
  symm
  simp only[vbt]
  rw[show decide ((-1:Int)>=0)=false from rfl]
  simp only[vbt,Bool.not_eq_true]
  exact h
 | some j =>
  have h2:l.any (fun x=>x==s)=true:=by
   have:=List.findIdx?_isSome (xs:=l) (p:=fun x=>x==s)
   rw[h]at this
   exact this.symm
  rw[h2]
  simp
theorem M1{α:Type}(k:ag)(v:α)(j:ag):∀(m:List (ag×α)),zp (EY m k v) j=if(j==k)=true then some v else zp m j
 |[]=>by
  simp only[EY,zp,List.find?_cons,List.find?_nil]
  cases(j==k)<;>rfl
 | e :: r => by
  have ih:=M1 k v j r
  unfold EY
  by_cases h:(k==e.1)=true
  ·have h':k=e.1:=by simpa using h
   rw[vak h]
   unfold zp
   simp only[List.find?_cons]
   rw[<-h']
   cases hj:(j==k)<;>simp
  ·rw [van h]
   unfold zp at ih ⊢
   simp only[List.find?_cons]
   cases hj:(j==e.1)
   ·simpa using ih
   ·have:¬(j==k)=true:=fun hk=>h (by
      have h1:j=e.1:=by simpa using hj
      have h2:j=k:=by simpa using hk
      simp[<-h1,<-h2])
    simp[this]
abbrev KD(m:List (ag×Bool))(k:ag):Bool:=(zp m k).getD false
theorem Wq(m:List (ag×Bool))(k j:ag):KD (EY m k true) j=(j==k||KD m j):=by
 unfold KD
 rw[M1]
 cases(j==k)<;>rfl
def RI(l:ag):Nat:=l.foldl (fun a c=>10 * a+(c.toNat - 48)) 0
theorem J5(u:Nat):RI (Lib.decDigits u)=u:=by
 induction u using Nat.strongRecOn with
 | _ u ih =>
  rw[Lib.decDigits]
  by_cases h:u<10
  ·rw[dif_pos h]
   unfold RI
   simp
   omega
  ·rw[dif_neg h]
   have:=ih (u / 10) (by omega)
   unfold RI at this ⊢
   rw[vch,this]
   simp
   omega
theorem XQ{u v:Nat}(h:Lib.decDigits u=Lib.decDigits v):u=v:=by rw[<-J5 u,<-J5 v,h]
theorem Oh(u:Nat):(Lib.decDigits u).length<=u+1:=by
 induction u using Nat.strongRecOn with
 | _ u ih =>
  rw[Lib.decDigits]
  by_cases h:u<10
  ·rw[dif_pos h];simp
  ·rw[dif_neg h]
   have:=ih (u / 10) (by omega)
   simp
   omega
theorem Nq:∀(k n:Nat) (acc:ag),n<=k->n<=1000000000->acc.length<=1000000000 - n->qC acc n=some (if n=0 then acc else Lib.decDigits n++acc)
 |k,0,acc,_,_,_=>by
  unfold qC
  exact j2 rfl
 |0,n+1,_,h,_,_=>absurd h (by omega)
 | k + 1,n + 1,acc,hk,hn,ha => by
  have hb:qb acc ((n+1:Nat):Int)=some (.inl (UInt8.ofNat (48+(n+1) % 10)::acc,(((n+1) / 10:Nat):Int))):=by
   simp only[qb]
   have h1:(((n+1:Nat):Int)!=0)=true:=by simp;omega
   have h2:re ((n+1:Nat):Int) 10=some (((n+1) % 10:Nat):Int):=by
    simp only[re]
    have e:((n+1:Nat):Int) % 10=(((n+1) % 10:Nat):Int):=by omega
    rw[van (by omega),Int.tmod_eq_emod_of_nonneg (by omega),e]
   have h3:zD (((n+1) % 10:Nat):Int)=some (((n+1) % 10:Nat):Int):=by
    simp only[zD]
    rw[van (by simp;omega)]
   have h4:IntKind.u8.wrap (aR (48+(((n+1) % 10:Nat):Int)))=((48+(n+1) % 10:Nat):Int):=by
    rw[dB (by omega) (by omega)]
    have h5:(48:Int)+(((n+1) % 10:Nat):Int)=((48+(n+1) % 10:Nat):Int):=by omega
    rw[h5]
    generalize hq:48+(n+1) % 10=q
    have:q<58:=by omega
    show((q:Int) % 256)=q
    omega
   have h6:EB [((48+(n+1) % 10:Nat):Int)]=some [UInt8.ofNat (48+(n+1) % 10)]:=by
    simp only[EB]
    rw[vak (by omega)]
    rfl
   have h7:qu .i64 ((n+1:Nat):Int) 10=some (((n+1) / 10:Nat):Int):=by
    simp only[qu]
    rw[van (by omega),vb5 (by omega)]
    have e:((n+1:Nat):Int) / 10=(((n+1) / 10:Nat):Int):=by omega
    rw[e]
    exact vbr some (dB (by omega) (by omega))
   rw[h1]
   simp only[if_true,h2,vaa,h3,h4,h6]
   rw[JW (by simp;omega),h7]
   rfl
  unfold qC
  refine(pI (body:=fun zz:ag×Int=>qb zz.1 zz.2) (s:=(acc,((n+1:Nat):Int))) (s':=(UInt8.ofNat (48+(n+1) % 10)::acc,(((n+1) / 10:Nat):Int))) hb).trans ?_
  have ih:=Nq k ((n+1) / 10) (UInt8.ofNat (48+(n+1) % 10)::acc) (by omega) (by omega) (by simp;omega)
  unfold qC at ih
  rw[ih,van (by omega:¬n+1=0)]
  conv=>rhs;rw[Lib.decDigits]
  by_cases h:n+1<10
  ·rw[dif_pos h,vak (by omega),vbW h]
   rfl
  ·rw[dif_neg h,van (by omega)]
   simp
theorem GZ(n:Nat)(h0:1<=n)(h:n<=1000000000):I2 n=some (Lib.decDigits n):=by
 unfold I2
 have h1:((n:Int)==0)=false:=by simp;omega
 rw[h1,Nq n n [] (vah _) h (by simp)]
 have h2:decide ((n:Int)<0)=false:=by simp
 simp only[va5,if_false,vaa,h2]
 rw[van (by omega)]
 simp
theorem P8(n:Nat)(h:n<=1000000000):S6 n=some (Lib.decDigits n):=by
 unfold S6 Lib.itoa
 rw[vak (by simp;omega),van (by omega)]
 rfl
theorem WM:∀(used L:List ag),L.Nodup->used.length<L.length->∃x∈L,x∉used
 |[],L,_,h=>by
  cases L with
  |nil=>simp at h
  |cons x L=>exact⟨x,by simp,by simp⟩
 | u :: us,L,hn,h => by
  obtain⟨x,hx,hu⟩:=WM us (L.erase u) (hn.erase u) (by
   have:=List.length_erase (a:=u) (l:=L)
   rw[this]
   simp at h
   split<;>omega)
  rw[hn.mem_erase_iff]at hx
  exact⟨x,hx.2,by simp[hx.1,hu]⟩
theorem P0(used:List ag)(base:ag):∃n,1<=n/\n<=used.length+1/\base++Lib.decDigits n∉used:=by
 obtain⟨x,hx,hu⟩:=WM used ((List.range (used.length+1)).map fun i=>base++Lib.decDigits (i+1)) (by
  unfold List.Nodup
  rw[List.pairwise_map]
  refine vcO ?_ (List.nodup_range (n:=used.length+1))
  intro a b hab e
  have:=XQ (List.append_cancel_left e)
  omega) (by simp)
 simp only[vap,vbs]at hx
 obtain⟨i,hi,rfl⟩:=hx
 exact⟨i+1,by omega,by omega,hu⟩
def kJ(used:List ag)(base:ag):Nat->Nat->ag
 |0,_=>[]
 |k+1,n=>if used.contains (base++Lib.decDigits n)=true then kJ used base k (n+1)else base++Lib.decDigits n
def fq(used:List ag)(base:ag):ag:=if used.contains base=true then kJ used base 100000001 1 else base
theorem E0(used:List ag)(hl:qcr used):∃m,oM used used.length 0 []=some m/\∀k,KD m k=used.contains k:=by
 unfold oM
 have:=oL used hl (fun i (m:List (ag×Bool))=>(i,m)) (fun zz=>iR used used.length zz.1 zz.2) (fun _ _=>True) (fun _ x m=>.inl (EY m x true)) (fun m=>m) (fun i hi t _=>⟨by
   simp only[iR]
   rw[vak (by simp;omega),bv _ i hi]
   rfl,fun _ _=>trivial⟩) (fun _ _=>by simp only[iR];rw[van (by simp)]) 0 [] (vaO _) trivial
 simp only[Int.ofNat_zero,va2]at this
 rw[this]
 refine⟨_,rfl,?_⟩
 have key:∀(l:List ag) (i:Nat) (m:List (ag×Bool)) k,KD (ph (fun _ x (m:List (ag×Bool))=>(Sum.inl (EY m x true):List (ag×Bool)⊕List (ag×Bool))) (fun m=>m) l i m) k=(l.contains k||KD m k):=by
  intro l
  induction l with
  |nil=>intro i m k;simp[ph]
  |cons x l ih=>
   intro i m k
   unfold ph
   simp only[ih,Wq,List.contains_cons]
   cases(k==x)<;>cases l.contains k<;>simp
 intro k
 rw[key]
 simp[KD,zp]
theorem Hh(used:List ag)(base:ag)(m:List (ag×Bool))(hm:∀k,KD m k=used.contains k)(hl:used.length<=100000000)(hb:base.length<=4000000000000000000)(N:Nat)(hN:base++Lib.decDigits N∉used)(hN2:N<=100000001):
  ∀(k n:Nat),1<=n->n<=N->N<n+k->kP base m n=some (kJ used base k n)/\kZ used base (base++Lib.decDigits n) ((n+1:Nat):Int)=some (kJ used base k n)/\kJ used base k n∉used
 |0,n,_,h1,h2=>absurd h2 (by omega)
 | k + 1,n,h0,h1,h2 => by
  have hd:=Oh n
  have hd2:=Oh (n+1)
  have e1:aR ((n:Int)+1)=((n+1:Nat):Int):=by rw[dB (by omega) (by omega)];omega
  have e2:aR (((n+1:Nat):Int)+1)=((n+2:Nat):Int):=by rw[dB (by omega) (by omega)];omega
  unfold kJ
  by_cases hc:used.contains (base++Lib.decDigits n)=true
  ·rw[vak hc]
   have hne:n≠N:=by
    rintro rfl
    exact hN (by simpa using hc)
   obtain⟨i1,i2,i3⟩:=Hh used base m hm hl hb N hN hN2 k (n+1) (by omega) (by omega) (by omega)
   have hm':=hm (base++Lib.decDigits n)
   unfold KD at hm'
   have b1:gk base m (n:Int)=some (.inl (((n+1:Nat):Int))):=by
    simp only[gk]
    rw[P8 n (by omega)]
    simp only[vaa]
    rw[JW (by omega)]
    simp only[vaa,hm',hc,e1]
    rfl
   have b2:cO used base (base++Lib.decDigits n) ((n+1:Nat):Int)=some (.inl (base++Lib.decDigits (n+1),((n+2:Nat):Int))):=by
    simp only[cO]
    rw[nH _ _ (by omega)]
    simp only[vaa,sF]
    have:(used.any fun k=>k==base++Lib.decDigits n)=true:=by simpa[vbo]using hc
    rw[this,vak rfl,GZ (n+1) (by omega) (by omega)]
    simp only[vaa]
    rw[JW (by omega)]
    simp only[vaa,e2]
   refine⟨?_,?_,i3⟩
   ·unfold kP at i1 ⊢
    exact(pI b1).trans i1
   ·unfold kZ at i2 ⊢
    exact(pI (body:=fun zz:ag×Int=>cO used base zz.1 zz.2) (s:=(base++Lib.decDigits n,((n+1:Nat):Int))) (s':=(base++Lib.decDigits (n+1),((n+2:Nat):Int))) b2).trans i2
  ·rw[van hc]
   have hc':used.contains (base++Lib.decDigits n)=false:=by simpa using hc
   have hm':=hm (base++Lib.decDigits n)
   unfold KD at hm'
   have b1:gk base m (n:Int)=some (.inr (base++Lib.decDigits n)):=by
    simp only[gk]
    rw[P8 n (by omega)]
    simp only[vaa]
    rw[JW (by omega)]
    simp only[vaa,hm',hc']
    rfl
   have b2:cO used base (base++Lib.decDigits n) ((n+1:Nat):Int)=some (.inr (base++Lib.decDigits n)):=by
    simp only[cO]
    rw[nH _ _ (by omega)]
    simp only[vaa,sF]
    have:(used.any fun k=>k==base++Lib.decDigits n)=false:=by
     rw[vcj]
     intro h
     apply hc
     simpa[vbo]using h
    rw[this]
    rfl
   refine⟨?_,?_,by simpa using hc⟩
   ·unfold kP
    exact j2 b1
   ·unfold kZ
    exact j2 (body:=fun zz:ag×Int=>cO used base zz.1 zz.2) (s:=(base++Lib.decDigits n,((n+1:Nat):Int))) b2
theorem wB(used:List ag)(base:ag)(hl:used.length<=100000000)(hb:base.length<=4000000000000000000):kO used base=some (fq used base)/\FE used base=some (fq used base)/\fq used base∉used:=by
 obtain⟨m,hm1,hm⟩:=E0 used (show _<_ by omega)
 have hm':=hm base
 unfold KD at hm'
 obtain⟨N,h1,h2,h3⟩:=P0 used base
 obtain⟨i1,i2,i3⟩:=Hh used base m hm hl hb N h3 (by omega) 100000001 1 (vah _) h1 (by omega)
 unfold kO FE fq
 rw[hm1]
 simp only[vaa,hm']
 have hd:=Oh 1
 by_cases hc:used.contains base=true
 ·simp only[hc,vcM,va5,if_false,if_true]
  simp only[Int.ofNat_one]at i1
  rw[i1]
  have b2:cO used base base 1=some (.inl (base++Lib.decDigits 1,((2:Nat):Int))):=by
   simp only[cO]
   rw[nH _ _ (by omega)]
   simp only[vaa,sF]
   have:(used.any fun k=>k==base)=true:=by simpa[vbo]using hc
   have ht:=GZ 1 (by omega) (by omega)
   simp only[Int.ofNat_one]at ht
   rw[this,vak rfl,ht]
   simp only[vaa]
   rw[JW (by omega)]
   rfl
  unfold kZ at i2 ⊢
  have:=(pI (body:=fun zz:ag×Int=>cO used base zz.1 zz.2) (s:=(base,1)) (s':=(base++Lib.decDigits 1,((2:Nat):Int))) b2).trans i2
  rw[this]
  exact⟨rfl,rfl,i3⟩
 ·have hc':used.contains base=false:=by simpa using hc
  simp only[hc',vcA,if_true,va5,if_false]
  have b2:cO used base base 1=some (.inr base):=by
   simp only[cO]
   rw[nH _ _ (by omega)]
   simp only[vaa,sF]
   have:(used.any fun k=>k==base)=false:=by
    rw[vcj]
    intro h
    apply hc
    simpa[vbo]using h
   rw[this]
   rfl
  unfold kZ
  have:=j2 (body:=fun zz:ag×Int=>cO used base zz.1 zz.2) (s:=(base,1)) b2
  rw[this]
  exact⟨trivial,rfl,by simpa using hc⟩
theorem EL{u v:List ag}(h:∀x,x∈u↔x∈v)(base:ag):∀(k n:Nat),kJ u base k n=kJ v base k n
 |0,n=>by rw[kJ,kJ]
 | k + 1,n => by
  have e:u.contains (base++Lib.decDigits n)=v.contains (base++Lib.decDigits n):=by
   rw[vb2,vbz,vbz]
   exact h _
  rw[kJ,kJ,e,EL h base k (n+1)]
theorem Ow{u v:List ag}(h:∀x,x∈u↔x∈v)(base:ag):fq u base=fq v base:=by
 have e:u.contains base=v.contains base:=by
  rw[vb2,vbz,vbz]
  exact h _
 unfold fq
 rw[e,EL h]
abbrev Va(x y:ag):Prop:=Op.bytesLess x y=true
theorem wL:∀(x:ag),Op.bytesLess x x=false
 |[]=>rfl
 |a::x=>by
  unfold Op.bytesLess
  rw[wL x]
  simp[UInt8.lt_irrefl]
theorem AG:∀{x y z:ag},Va x y->Va y z->Va x z
 |_,_,[],h1,h2=>by simp[Va,Op.bytesLess]at h2
 |_,[],_::_,h1,h2=>by simp[Va,Op.bytesLess]at h1
 |[],_::_,_::_,_,_=>rfl
 | a :: x,b :: y,c :: z,h1,h2 => by
  unfold Va Op.bytesLess at h1 h2 ⊢
  simp only[vbc,vam,vag,va1]at h1 h2 ⊢
  rcases h1 with h1|⟨rfl,h1⟩
  ·rcases h2 with h2|⟨rfl,h2⟩
   ·exact .inl (UInt8.lt_trans h1 h2)
   ·exact .inl h1
  ·rcases h2 with h2|⟨rfl,h2⟩
   ·exact .inl h2
   ·exact .inr ⟨rfl,AG h1 h2⟩
theorem Ex:∀{x y:ag},Op.bytesLess x y=false->Op.bytesLess y x=false->x=y
 |[],[],_,_=>rfl
 |[],_::_,h,_=>by simp[Op.bytesLess]at h
 |_::_,[],_,h=>by simp[Op.bytesLess]at h
 | a :: x,b :: y,h1,h2 => by
  unfold Op.bytesLess at h1 h2
  simp only[Bool.or_eq_false_iff,vbm,Bool.and_eq_false_imp,va1]at h1 h2
  have hab:a=b:=by
   have k1:=UInt8.not_lt.1 h1.1
   have k2:=UInt8.not_lt.1 h2.1
   exact UInt8.le_antisymm k2 k1
  subst hab
  rw[Ex (h1.2 rfl) (h2.2 rfl)]
theorem YN:∀(x y:ag),Op.bytesLess x y=decide (x<y)
 |[],[]=>by simp[Op.bytesLess]
 |_::_,[]=>by simp[Op.bytesLess]
 |[],_::_=>by simp[Op.bytesLess]
 |a::x,b::y=>by
  unfold Op.bytesLess
  rw[YN x y,vb2]
  simp[List.cons_lt_cons_iff]
theorem S7(x y:ag):decide (x<=y)= !Op.bytesLess y x:=by
 rw[YN]
 rw[<-decide_not]
 rfl
abbrev YJ(l:List ag):Prop:=l.Pairwise Va
theorem Ko:∀{a b:List ag},YJ a->YJ b->(∀x,x∈a↔x∈b)->a=b
 |[],[],_,_,_=>rfl
 |[],y::b,_,_,h=>by have:=(h y).2 (by simp);simp at this
 |x::a,[],_,_,h=>by have:=(h x).1 (by simp);simp at this
 | x :: a,y :: b,ha,hb,h => by
  unfold YJ at ha hb
  rw[List.pairwise_cons]at ha hb
  have hxy:x=y:=by
   have h1:=(h x).1 (by simp)
   have h2:=(h y).2 (by simp)
   rw[vaA]at h1 h2
   rcases h1 with h1|h1
   ·exact h1
   ·rcases h2 with h2|h2
    ·exact h2.symm
    ·have:=AG (hb.1 x h1) (ha.1 y h2)
     unfold Va at this
     rw[wL]at this
     cases this
  subst hxy
  congr 1
  refine Ko ha.2 hb.2 fun z=>?_
  constructor
  ·intro hz
   have:=(h z).1 (by simp[hz])
   rw[vaA]at this
   rcases this with rfl|this
   ·have:=ha.1 _ hz;unfold Va at this;rw[wL]at this;cases this
   ·exact this
  ·intro hz
   have:=(h z).2 (by simp[hz])
   rw[vaA]at this
   rcases this with rfl|this
   ·have:=hb.1 _ hz;unfold Va at this;rw[wL]at this;cases this
   ·exact this
theorem Pb(l:List ag):(kV l).Pairwise fun x y=>Op.bytesLess y x=false:=by
 have:=List.pairwise_mergeSort (le:=fun x y:ag=>decide (x<=y)) (fun a b c h1 h2=>by
  rw[S7]at h1 h2 ⊢
  simp only[va3]at h1 h2 ⊢
  cases h:Op.bytesLess c a with
  |false=>rfl
  | true =>
   exfalso
   by_cases hb:Op.bytesLess a b=true
   ·have:=AG h hb
    unfold Va at this
    rw[h2]at this
    cases this
   ·have:a=b:=Ex (by simpa using hb) h1
    subst this
    rw[h2]at h
    cases h) (fun a b=>by
  rw[S7,S7]
  cases h:Op.bytesLess b a with
  |false=>rfl
  | true =>
   cases h':Op.bytesLess a b with
   |false=>rfl
   |true=>
    have:=AG h h'
    unfold Va at this
    rw[wL]at this
    cases this) l
 refine vcO ?_ this
 intro a b h
 rw[S7]at h
 simpa using h
theorem U2(l:List ag)(x:ag):x∈kV l↔x∈l:=List.mem_mergeSort
theorem CF(d:List ag)(hs:d.Pairwise fun x y=>Op.bytesLess y x=false):∀m,m<=d.length->YJ (Lib.compactUpTo d.toArray m)/\∀x,x∈Lib.compactUpTo d.toArray m↔∃(j:Nat) (h:j<d.length),j<m/\d[j]=x
 |0,_=>by
  refine⟨by simp[Lib.compactUpTo,YJ],fun x=>?_⟩
  simp[Lib.compactUpTo]
 | m + 1,hm => by
  obtain⟨h1,h2⟩:=CF d hs m (by omega)
  have hg:∀j (h:j<d.length),d.toArray[j]! =d[j]:=fun j h=>by simp[h]
  rw[Lib.compactUpTo_succ]
  by_cases hk:Lib.keeps d.toArray m=true
  ·rw [vak hk,hg m (by omega)]
   refine⟨?_,fun x=>?_⟩
   ·unfold YJ
    rw[List.pairwise_append]
    refine⟨h1,by simp,fun x hx y hy=>?_⟩
    simp at hy
    subst hy
    obtain⟨j,hj,hjm,rfl⟩:=(h2 x).1 hx
    have hne:d[m - 1]≠d[m]:=by
     unfold Lib.keeps at hk
     simp only[vam]at hk
     rcases hk with hk|hk
     ·omega
     ·rw[hg m (by omega),hg (m - 1) (by omega)]at hk
      exact fun e=>hk e.symm
    have hlt:Op.bytesLess d[m - 1] d[m]=true:=by
     have k1:=(vcd.1 hs) (m - 1) m (by omega) (by omega) (by omega)
     cases h:Op.bytesLess d[m - 1] d[m]with
     |true=>rfl
     |false=>exact absurd (Ex h k1) hne
    by_cases hj2:j=m - 1
    ·subst hj2;exact hlt
    ·have k2:=(vcd.1 hs) j (m - 1) (by omega) (by omega) (by omega)
     cases h:Op.bytesLess d[j] d[m - 1]with
     |true=>exact AG h hlt
     |false=>
      have:=Ex h k2
      rw[this];exact hlt
   ·rw[vaE,h2]
    constructor
    ·rintro(⟨j,hj,hjm,rfl⟩|hx)
     ·exact⟨j,hj,by omega,rfl⟩
     ·simp at hx;exact⟨m,by omega,by omega,hx.symm⟩
    ·rintro⟨j,hj,hjm,rfl⟩
     by_cases e:j=m
     ·subst e;exact .inr (by simp)
     ·exact .inl ⟨j,hj,by omega,rfl⟩
  ·rw [van hk,va6]
   refine⟨h1,fun x=>?_⟩
   rw[h2]
   constructor
   ·rintro⟨j,hj,hjm,rfl⟩;exact⟨j,hj,by omega,rfl⟩
   ·rintro⟨j,hj,hjm,rfl⟩
    by_cases e:j=m
    ·subst e
     have:j≠0/\d.toArray[j]! =d.toArray[j - 1]! :=by
      unfold Lib.keeps at hk
      simp only[vam,not_or,ne_eq,Decidable.not_not]at hk
      exact hk
     rw[hg j hj,hg (j - 1) (by omega)]at this
     exact⟨j - 1,by omega,by omega,this.2.symm⟩
    ·exact⟨j,hj,by omega,rfl⟩
def IH(a b:List ag):List ag:=Lib.compact (kV (a++b))
theorem K7(a b:List ag):YJ (IH a b)/\∀x,x∈IH a b↔x∈a\/x∈b:=by
 obtain⟨h1,h2⟩:=CF (kV (a++b)) (Pb _) _ (vah _)
 refine⟨h1,fun x=>?_⟩
 rw[show IH a b=Lib.compactUpTo (kV (a++b)).toArray (kV (a++b)).length from rfl,h2,<-vaE,<-U2,List.mem_iff_getElem]
 constructor
 ·rintro⟨j,h,_,e⟩;exact⟨j,h,e⟩
 ·rintro⟨j,h,e⟩;exact⟨j,h,h,e⟩
theorem A1(a b:List ag)(h:a.length+b.length<=1073741824):nM a b=some (IH a b):=by
 unfold nM
 rw[dR (by simp;omega)]
 simp only[vaa]
 rw[dR (by simp;omega)]
 rfl
mutual
def nP:aa->Nat
 |⟨_,_,_,ks⟩=>nL ks+1
def nL:List aa->Nat
 |[]=>0
 |p::ps=>nP p+nL ps
end
theorem M3(p:aa):nP p=nL p.Kids+1:=by obtain⟨o,n,k,ks⟩:=p;rw[nP];rfl
theorem OS(p:aa):1<=nP p:=by rw[M3];omega
theorem Gu:∀{l:List aa} {x:aa},x∈l->nP x<=nL l
 | y :: l,x,h => by
  rw[nL]
  rcases vaA.1 h with rfl|h
  ·omega
  ·have:=Gu h;omega
theorem DE:∀(l:List aa),l.length<=nL l
 |[]=>by simp[nL]
 |p::l=>by rw[nL];have:=DE l;have:=OS p;simp only[vaN];omega
theorem rC{p x:aa}(h:x∈p.Kids):nP x<nP p:=by rw[M3 p];have:=Gu h;omega
theorem tT(p:aa):p.Kids.length<nP p:=by rw[M3];have:=DE p.Kids;omega
theorem xd:∀(a b:List aa),nL (a++b)=nL a+nL b
 |[],b=>by simp[nL]
 |p::a,b=>by rw[vaF,nL,xd a b,nL];omega
mutual
theorem Y6:∀(p:aa),nP p<=fx (ac p)
 |⟨o,n,k,ks⟩=>by
  have:=Td ks
  rw[nP,aF]
  simp only[fx,pm,sl]
  show nL ks+1<=1+(n.length+1+(1+(bM (ks.map ac)+1+0)))
  omega
theorem Td:∀(l:List aa),nL l<=bM (l.map ac)
 |[]=>by simp[nL]
 |p::l=>by
  have:=Y6 p
  have:=Td l
  rw[nL]
  simp only[vax,bM]
  omega
end
mutual
def qcL:aa->aa->Bool
 |⟨o,n,k,ks⟩,⟨o',n',k',ks'⟩=>(o==o')&&((n==n')&&((k==k')&&ZP ks ks'))
def ZP:List aa->List aa->Bool
 |[],[]=>true
 |x::xs,y::ys=>qcL x y&&ZP xs ys
 |_,_=>false
end
mutual
theorem ST:∀(a b:aa),qcL a b=true↔a=b
 |⟨o,n,k,ks⟩,⟨o',n',k',ks'⟩=>by
  rw[qcL]
  have:=SS ks ks'
  simp only[vag,va1,this,aa.mk.injEq]
theorem SS:∀(a b:List aa),ZP a b=true↔a=b
 |[],[]=>by simp[ZP]
 |x::xs,y::ys=>by
  rw[ZP]
  have h1:=ST x y
  have h2:=SS xs ys
  simp only[vag,h1,h2,vbu]
 |[],y::ys=>by simp[ZP]
 |x::xs,[]=>by simp[ZP]
end
instance:DecidableEq aa:=fun a b=>decidable_of_iff _ (ST a b)
theorem wS(p:aa):(⟨p.Op,p.Name,p.N,p.Kids⟩:aa)=p:=by cases p;rfl
theorem xp{a b:aa}:a=b↔a.Op=b.Op/\a.Name=b.Name/\a.N=b.N/\a.Kids=b.Kids:=by
 cases a;cases b
 simp only[aa.mk.injEq]
 rfl
theorem TG{α:Type}[DecidableEq α]:∀{a b:List α},a.length=b.length->(a.zip b).any (fun x=>decide (x.1≠x.2))= !decide (a=b)
 |[],[],_=>by simp
 |x::a,y::b,h=>by
  have ih:=TG (a:=a) (b:=b) (by simpa using h)
  rw[List.zip_cons_cons,List.any_cons,ih]
  by_cases h1:x=y<;>by_cases h2:a=b<;>simp[h1,h2]
theorem Qm{α X:Type}[DecidableEq α]{a b:List α}(hl:a.length=b.length)(ha:a.length<9223372036854775808)(body:Int->Option (Int⊕X))(y e:X)
  (hin:∀(i:Nat) (h:i<a.length) (h':i<b.length),body i=some (if decide (a[i]=b[i])=true then .inl (aR ((i:Int)+1))else .inr y)) (hend:body a.length=some (.inr e)):loop body 0=some (if decide (a=b)=true then e else y):=by
 have hz:(a.zip b).length=a.length:=by simp[hl]
 have:=KC (a.zip b) (by omega) body (fun x=>decide (x.1≠x.2)) y e (fun i h=>?_) (by rw[hz];exact hend) 0 (vaO _)
 ·rw[va2,TG hl]at this
  rw[show((0:Nat):Int)=0 from rfl]at this
  rw[this]
  by_cases h:a=b<;>simp[h]
 ·have h1:i<a.length:=by omega
  have h2:i<b.length:=by omega
  rw[hin i h1 h2]
  have hzi:(a.zip b)[i]=(a[i],b[i]):=by simp
  rw[hzi]
  by_cases h:a[i]=b[i]<;>simp[h]
abbrev bz:Nat:=1073741824
theorem f6{n:Nat}(h:n<=bz):n<XI:=by have:=ZI;unfold bz at h;omega
theorem VX{R:aa->aa->Option Bool}{a b:List aa}(ha:a.length<=bz)(h:∀x∈a,∀y∈b,R x y=some (decide (x=y))):yF R a b=some (decide (a=b)):=by
 unfold yF
 by_cases hl:a.length=b.length
 ·rw[van (by simp[hl])]
  unfold wo
  rw[Qm hl (by unfold bz at ha;omega) (fun zz=>jA R a b (a.length:Int) zz) (.inl ()) (.inr ()) (fun i h1 h2=>?_) ?_]
  ·by_cases he:a=b<;>simp[he]
  ·unfold jA
   rw[van (by simp)]
  ·unfold jA
   rw[vak (by simp;omega),bv a i h1]
   simp only[vaa]
   rw[bv b i h2]
   simp only[vaa]
   rw[h _ (vat h1) _ (vat h2)]
   simp only[vaa]
   by_cases he:a[i]=b[i]<;>simp[he]
 ·rw[vak (by simp;omega)]
  rw[decide_eq_false (fun he=>hl (by rw[he]))]
theorem Fr(a b:aa)(ha:nP a<=bz):iU a b=some (decide (a=b)):=by
 refine kf (F:=Bh) (fun x=>nP x.1) (fun x=>nP x.1<=bz) (fun x=>decide (x.1=x.2)) (fun R x hx ih=>?_) (a,b) ha (f6 ha)
 obtain⟨u,v⟩:=x
 have hx:nP u<=bz:=hx
 show u6 (fun a a2=>R (a,a2)) u v=some (decide (u=v))
 unfold u6
 have hk:=tT u
 by_cases h1:u.Op=v.Op
 ·by_cases h2:u.Name=v.Name
  ·by_cases h3:u.N=v.N
   ·rw[vak (by simpa using h1),vak (by simpa using h2),vak (by simpa using h3)]
    rw[VX (a:=u.Kids) (b:=v.Kids) (by omega) (fun x hxa y hyb=>ih (x,y) (rC hxa) (vcv (vaG (rC hxa) hx)))]
    simp[xp (a:=u) (b:=v),h1,h2,h3]
   ·rw[vak (by simpa using h1),vak (by simpa using h2),van (by simpa using h3)]
    simp[xp (a:=u) (b:=v),h3]
  ·rw[vak (by simpa using h1),van (by simpa using h2)]
   simp[xp (a:=u) (b:=v),h2]
 ·rw[van (by simpa using h1)]
  simp[xp (a:=u) (b:=v),h1]
theorem MK(p:aa)(hp:nP p<=bz):nQ p=some p:=by
 refine kf (F:=qv) nP (fun x=>nP x<=bz) id (fun R x hx ih=>?_) p hp (f6 hp)
 unfold qv wn ud
 have hlen:=tT x
 rw[Qk x.Kids (by unfold bz at hx;omega) (fun i s=>(i,s)) _ id id (fun i hi s hs=>?_) (fun s=>?_)]
 ·simp[wS]
 ·unfold lB
  rw[vak (by simp;omega),bv x.Kids i hi]
  simp only[vaa]
  have hm:=vat hi
  rw[ih _ (rC hm) (vcv (vaG (rC hm) hx))]
  simp only[vaa]
  rw[dR (by unfold bz at hx;simp;omega)]
  rfl
 ·unfold lB
  rw[van (by simp)]
  rfl
theorem W2(a b:aa)(hb:nP b<=bz):wD a b=some (decide (a=b)):=by
 refine kf (F:=C4) (fun x=>nP x.2) (fun x=>nP x.2<=bz) (fun x=>decide (x.1=x.2)) (fun R x hx ih=>?_) (a,b) hb (f6 hb)
 obtain⟨u,v⟩:=x
 have hx:nP v<=bz:=hx
 show xH (fun a a2=>R (a,a2)) u v=some (decide (u=v))
 unfold xH zP
 have hk:=tT v
 by_cases h1:u.Op=v.Op
 ·by_cases h2:u.Name=v.Name
  ·by_cases h3:u.N=v.N
   ·by_cases h4:u.Kids.length=v.Kids.length
    ·rw[van (by simpa using h1),van (by simpa using h2),van (by simpa using h3)]
     simp only[h4,bne_self_eq_false,vaa,if_false,va5]
     unfold zQ
     rw[<-h4,Qm h4 (by unfold bz at hx;omega) _ (.inl ()) (.inr ()) (fun i g1 g2=>?_) ?_]
     ·by_cases he:u.Kids=v.Kids<;>simp[he,xp (a:=u) (b:=v),h1,h2,h3]
     ·unfold qc
      rw[van (by simp)]
     ·unfold qc
      rw[vak (by simp;omega),bv u.Kids i g1]
      simp only[vaa]
      rw[bv v.Kids i g2]
      simp only[vaa]
      have hm:=vat g2
      rw[ih (u.Kids[i],v.Kids[i]) (rC hm) (vcv (vaG (rC hm) hx))]
      by_cases he:u.Kids[i]=v.Kids[i]<;>simp[he]
    ·have hne:u≠v:=fun e=>h4 (by rw[e])
     rw[van (by simpa using h1),van (by simpa using h2),van (by simpa using h3)]
     have hb:((u.Kids.length:Int)!=(v.Kids.length:Int))=true:=by simp;omega
     simp[hb,hne]
   ·have hne:u≠v:=fun e=>h3 (by rw[e])
    rw[van (by simpa using h1),van (by simpa using h2),vak (by simpa using h3)]
    simp[hne]
  ·have hne:u≠v:=fun e=>h2 (by rw[e])
   rw[van (by simpa using h1),vak (by simpa using h2)]
   simp[hne]
 ·have hne:u≠v:=fun e=>h1 (by rw[e])
  rw[vak (by simpa using h1)]
  simp[hne]
def ie:aa:=⟨0,[],0,[]⟩
def nS:aa:=⟨2,[],1,[]⟩
def AV:aa:=⟨2,[],0,[]⟩
def Nx(p:aa):Bool:=decide (p=ie)||decide (p=nS)
theorem YG(p:aa)(hp:nP p<=bz):xj p=some (Nx p):=by
 have h1:iU p (⟨0,([]:ag),0,([]:List aa)⟩:aa)=some (decide (p=ie)):=Fr p ie hp
 have h2:iU p (⟨2,([]:ag),1,([]:List aa)⟩:aa)=some (decide (p=nS)):=Fr p nS hp
 unfold xj gj Nx
 rw[h1]
 simp only[vaa,if_true,h2]
 cases decide (p=ie)<;>rfl
theorem X3:nP ie<=bz:=by decide
theorem Nn{α σ X:Type}(g:α->σ->σ)(e:σ->X):∀(l:List α) (i:Nat) (s:σ),ph (fun _ x (s:σ)=>(Sum.inl (g x s):σ⊕X)) e l i s=e (l.foldl (fun s x=>g x s) s)
 |[],i,s=>by simp[ph]
 |x::l,i,s=>by
  unfold ph
  simp only
  rw[Nn g e l (i+1) (g x s)]
  rfl
theorem Uu{α σ τ X:Type}(l:List α)(hl:l.length<9223372036854775808)(mk:Int->σ->τ)(body:τ->Option (τ⊕X))(I:Nat->σ->Prop)(g:α->σ->σ)(e:σ->X)(s0:σ)(h0:I 0 s0)
  (hin:∀(i:Nat) (h:i<l.length) s,I i s->body (mk i s)=some (.inl (mk (aR ((i:Int)+1)) (g l[i] s)))/\I (i+1) (g l[i] s)) (hend:∀s,I l.length s->body (mk l.length s)=some (.inr (e s))):
  loop body (mk 0 s0)=some (e (l.foldl (fun s x=>g x s) s0)):=by
 have:=oL l hl mk body I (fun _ x s=>.inl (g x s)) e (fun i h s hs=>⟨(hin i h s hs).1,fun s' hs'=>by cases hs';exact(hin i h s hs).2⟩) (fun s hs=>hend s hs) 0 s0 (vaO _) h0
 rw[Nn]at this
 exact this
theorem EZ(l:List aa)(i:Nat)(h:i<l.length):nL (l.take (i+1))=nL (l.take i)+nP l[i]:=by
 rw[vaS h,xd]
 simp[nL]
theorem yC(l:List aa)(i:Nat):nL (l.take i)<=nL l:=by
 have:=xd (l.take i) (l.drop i)
 rw[vcs]at this
 omega
theorem S1:∀(l:List aa) (a:Int),l.foldl (fun s x=>s+(nP x:Int)) a=a+(nL l:Int)
 |[],a=>by simp[nL]
 |x::l,a=>by rw[List.foldl_cons,S1 l,nL];omega
theorem Ws(p:aa)(hp:nP p<=bz):FK p=some (nP p:Int):=by
 refine kf (F:=zO) nP (fun x=>nP x<=bz) (fun x=>(nP x:Int)) (fun R x hx ih=>?_) p hp (f6 hp)
 show uB (fun p=>R p) x=_
 unfold uB xG
 have hlen:=tT x
 have hn:=M3 x
 rw[Uu x.Kids (by unfold bz at hx;omega) (fun i s=>(s,i)) _ (fun i s=>s=1+(nL (x.Kids.take i):Int)) (fun x s=>s+(nP x:Int)) id 1 (by simp[nL]) (fun i hi s hs=>?_) (fun s _=>?_)]
 ·rw[S1]
  simp only[id,vaa]
  rw[hn];congr 1;omega
 ·have hm:=vat hi
  have hk:=rC hm
  refine⟨?_,by rw[EZ _ _ hi,hs];omega⟩
  unfold oc
  rw[vak (by simp;omega),bv x.Kids i hi]
  simp only[vaa]
  rw[ih _ hk (by omega)]
  simp only[vaa]
  have h1:=yC x.Kids i
  have h2:=yC x.Kids (i+1)
  have h3:=EZ x.Kids i hi
  unfold bz at hx
  rw[dB (n:=s+_) (by omega) (by omega)]
 ·unfold oc
  rw[van (by simp)]
  rfl
def XC(s:Option aa)(x:aa):aa:=match s with
 |none=>x
 |some q=>⟨15,[],0,[q,x]⟩
def TS:List aa->Option aa->aa
 |[],s=>s.getD nS
 |x::l,s=>if Nx x=true then TS l s else if x=AV then AV else TS l (some (XC s x))
abbrev T8:Type:=Int×ag×Int×List aa×Int×ag×Int×List aa
def t8(a b:aa):T8:=(a.Op,a.Name,a.N,a.Kids,b.Op,b.Name,b.N,b.Kids)
def SK:T8⊕T8->aa
 |.inl o=>⟨o.1,o.2.1,o.2.2.1,o.2.2.2.1⟩
 |.inr o=>⟨o.2.2.2.2.1,o.2.2.2.2.2.1,o.2.2.2.2.2.2.1,o.2.2.2.2.2.2.2⟩
def Vp(x:aa)(s:Option aa):Option aa⊕(T8⊕T8):=
 if Nx x=true then .inl s else if x=AV then .inr (.inl (t8 AV (s.getD nS)))else .inl (some (XC s x))
theorem JR:∀(l:List aa) (i:Nat) (s:Option aa),SK (ph (fun _ x s=>Vp x s) (fun s=>.inr (t8 ie (s.getD nS))) l i s)=TS l s
 |[],i,s=>by simp[ph,TS,SK,t8,wS]
 | x :: l,i,s => by
  unfold ph TS Vp
  by_cases h1:Nx x=true
  ·simp only[h1,if_true]
   exact JR l (i+1) s
  ·by_cases h2:x=AV
   ·simp only[h1,h2,if_true]
    rfl
   ·simp only[h1,h2,if_false]
    exact JR l (i+1) _
theorem Vq(l:List aa)(hl:∀x∈l,nP x<=bz)(hn:l.length<9223372036854775808):Fb l=some (TS l none):=by
 unfold Fb Bf
 have h:=oL l hn (fun i (s:Option aa)=>(s.isSome,i,(0:Int),([]:ag),(0:Int),([]:List aa),(s.getD nS).Op,(s.getD nS).Name,(s.getD nS).N,(s.getD nS).Kids))
  (fun zz=>gi l (l.length:Int) zz.1 zz.2.1 zz.2.2.1 zz.2.2.2.1 zz.2.2.2.2.1 zz.2.2.2.2.2.1 zz.2.2.2.2.2.2.1 zz.2.2.2.2.2.2.2.1 zz.2.2.2.2.2.2.2.2.1 zz.2.2.2.2.2.2.2.2.2) (fun _ _=>True) (fun _ x s=>Vp x s) (fun s=>.inr (t8 ie (s.getD nS)))
  (fun i hi s _=>⟨?_,fun _ _=>trivial⟩) (fun s _=>?_) 0 none (vaO _) trivial
 ·have hr:=JR l 0 none
  rw[va2]at h
  have hc:gj true=some nS:=rfl
  rw[hc]
  simp only[vaa]
  have h':loop (fun(zz:Bool×Int×Int×ag×Int×(List aa)×Int×ag×Int×(List aa))=>gi l (l.length:Int) zz.1 zz.2.1 zz.2.2.1 zz.2.2.2.1 zz.2.2.2.2.1 zz.2.2.2.2.2.1 zz.2.2.2.2.2.2.1 zz.2.2.2.2.2.2.2.1 zz.2.2.2.2.2.2.2.2.1 zz.2.2.2.2.2.2.2.2.2) (false,0,0,([]:ag),0,([]:List aa),nS.Op,nS.Name,nS.N,nS.Kids)=_:=h
  rw[h']
  simp only[vaa]
  rw[<-hr]
  cases ph (fun _ x s=>Vp x s) (fun s=>Sum.inr (t8 ie (s.getD nS))) l 0 none<;>rfl
 ·show gi l (l.length:Int) s.isSome (i:Int) 0 [] 0 [] _ _ _ _=_
  unfold gi Vp
  have hx:=hl _ (vat hi)
  rw[vak (by simp;omega),bv l i hi]
  simp only[vaa]
  generalize l[i]=x at hx
  rw[YG x hx]
  simp only[vaa]
  by_cases h1:Nx x=true
  ·simp only[h1,if_true]
  ·have hc:gj false=some AV:=rfl
   simp only[h1,if_false,hc,vaa,Fr x AV hx]
   by_cases h2:x=AV
   ·simp only[h2,decide_true,if_true]
    rfl
   ·simp only[h2,decide_false,if_false,va5,MK x hx,vaa]
    cases s with
    |none=>simp[XC]
    |some q=>
     simp[XC,wS]
     exact⟨rfl,rfl,rfl,rfl⟩
 ·show gi l (l.length:Int) s.isSome (l.length:Int) 0 [] 0 [] _ _ _ _=_
  unfold gi
  rw[van (by simp)]
  rfl
theorem VZ{l:List ag}{v:ag}:(match l.findIdx? (fun x=>x==v)with|some j=>(j:Int)|none=>-1)>=0↔v∈l:=by
 cases h:l.findIdx? (fun x=>x==v)with
 | none =>
  rw[vcc]at h
  simp only
  constructor
  ·intro h';omega
  ·intro hm;have:=h v hm;simp at this
 | some j =>
  obtain⟨hj,h1,_⟩:=List.findIdx?_eq_some_iff_getElem.1 h
  simp only
  constructor
  ·intro _
   have:l[j]=v:=by simpa using h1
   exact this▸vat hj
  ·intro _;omega
theorem P6(l:List ag)(v:ag)(hl:l.length<9223372036854775808):oZ l v=some (match l.findIdx? (fun x=>x==v)with|some j=>(j:Int)|none=>-1):=by
 unfold oZ rK
 have h:=M0 l hl (fun zz=>ew l v (l.length:Int) zz) (fun x=>x==v) (fun j=>Sum.inl (j:Int)) (.inr ()) (fun i hi=>?_) ?_
 ·rw[h]
  simp only[vaa]
  cases l.findIdx? (fun x=>x==v)<;>rfl
 ·show ew l v (l.length:Int) (i:Int)=_
  unfold ew
  rw[vak (by simp;omega),bv l i hi]
  simp only[vaa]
  by_cases he:v=l[i]
  ·subst he;simp
  ·have he':¬l[i]=v:=fun h=>he h.symm
   simp[he,he']
 ·show ew l v (l.length:Int) (l.length:Int)=_
  unfold ew
  rw[van (by simp)]
theorem uT(l:List ag)(v:ag)(hl:l.length<9223372036854775808):eH l v=some (decide (v∈l)):=by
 unfold eH
 rw[P6 l v hl]
 simp only[vaa]
 congr 1
 exact decide_eq_decide.2 VZ
def eO{α:Type}(o:Option α)(Q:α->Prop):Prop:=∃a,o=some a/\Q a
section
variable{α β σ τ X Y:Type}
theorem aj{a:α}{Q:α->Prop}(h:Q a):eO (some a) Q:=⟨a,rfl,h⟩
theorem Pd{o:Option α}{a:α}{Q:α->Prop}(e:o=some a)(h:Q a):eO o Q:=⟨a,e,h⟩
theorem au{o:Option α}{f:α->Option β}{R:α->Prop}{Q:β->Prop}(h:eO o R)(h':∀a,R a->eO (f a) Q):eO (o.bind f) Q:=by
 obtain⟨a,rfl,h⟩:=h
 exact h' a h
theorem ct{o:Option α}{a:α}{f:α->Option β}{Q:β->Prop}(e:o=some a)(h:eO (f a) Q):eO (o.bind f) Q:=by
 rw[e];exact h
theorem eO.mono{o:Option α}{Q R:α->Prop}(h:eO o Q)(h':∀a,Q a->R a):eO o R:=by
 obtain⟨a,e,h⟩:=h
 exact⟨a,e,h' a h⟩
theorem aJ{c:Prop}[Decidable c]{a b:Option α}{Q:α->Prop}(h1:c->eO a Q)(h2:¬c->eO b Q):eO (if c then a else b) Q:=by
 by_cases h:c
 ·rw[vak h];exact h1 h
 ·rw[van h];exact h2 h
theorem mU{F:(X->Option Y)->X->Option Y}(μ:X->Nat)(P:X->Prop)(Q:X->Y->Prop)(h:∀(R:X->Option Y) x,P x->(∀y,μ y<μ x->P y->eO (R y) (Q y))->eO (F R x) (Q x))(x:X)(hx:P x)(hm:μ x<XI):eO (oG F x) (Q x):=by
 have key:∀n x,μ x<n->P x->eO (qbr F n x) (Q x):=by
  intro n
  induction n with
  |zero=>intro x hx;omega
  |succ n ih=>intro x hx hq;exact h _ x hq fun y hy hqy=>ih y (by omega) hqy
 exact key _ x hm hx
theorem xt(l:List α)(hl:l.length<9223372036854775808)(mk:Int->σ->τ){body:τ->Option (τ⊕X)}(I:Nat->σ->Prop){Q:X->Prop}
  (hin:∀(i:Nat) (h:i<l.length) s,I i s->eO (body (mk i s)) (fun r=>match r with|.inl t=>∃s',t=mk (aR ((i:Int)+1)) s'/\I (i+1) s'|.inr y=>Q y))
  (hend:∀s,I l.length s->eO (body (mk l.length s)) (fun r=>match r with|.inl _=>False|.inr y=>Q y)):∀s,I 0 s->eO (loop body (mk 0 s)) Q:=by
 have key:∀k i s,k+i=l.length->I i s->eO (loop body (mk (i:Int) s)) Q:=by
  intro k
  induction k with
  |zero=>
   intro i s hi hI
   have:i=l.length:=by omega
   subst this
   obtain⟨r,e,hr⟩:=hend s hI
   rw[oK,e]
   cases r with
   |inl _=>exact hr.elim
   |inr y=>exact⟨y,rfl,hr⟩
  | succ k ih =>
   intro i s hi hI
   obtain⟨r,e,hr⟩:=hin i (by omega) s hI
   rw[oK,e]
   cases r with
   |inl t=>
    obtain⟨s',rfl,hI'⟩:=hr
    simp only
    rw[dB (by omega) (by omega),show((i:Int)+1)=((i+1:Nat):Int) by omega]
    exact ih (i+1) s' (by omega) hI'
   |inr y=>exact⟨y,rfl,hr⟩
 exact fun s hs=>key l.length 0 s (by omega) hs
end
section
variable{α β σ τ X Y:Type}
theorem w9(l:List α)(hl:l.length<=1073741824)(mk:Int->List β->τ)(body:τ->Option (τ⊕X))(h:α->Option β)(g:α->β)(e:List β->X)
  (hb:∀(i:Int) (s:List β),body (mk i s)=if decide (i<(l.length:Int))=true then(cR l i).bind (fun x=>(h x).bind fun r=>(app s ([r]:List β)).bind fun q=>some (.inl (mk (aR (i+1)) q)))else some (.inr (e s)))
  (hg:∀x∈l,h x=some (g x)):loop body (mk 0 [])=some (e (l.map g)):=by
 refine Qk l (by omega) mk body g e (fun i hi s hs=>?_) (fun s=>?_)
 ·rw[hb,vak (by simp;omega),bv l i hi]
  simp only[vaa]
  rw[hg _ (vat hi)]
  simp only[vaa]
  rw[dR (by simp;omega)]
  rfl
 ·rw[hb,van (by simp)]
theorem MZ(l:List α)(hl:l.length<9223372036854775808)(body:Int->Option (Int⊕X))(k:Int->α->Option (Int⊕X))(p:α->Bool)(y e:X)
  (hb:∀(i:Int),body i=if decide (i<(l.length:Int))=true then(cR l i).bind (k i)else some (.inr e))
  (hk:∀x∈l,∀i,k i x=some (if p x=true then .inr y else .inl (aR (i+1)))):loop body 0=some (if l.any p=true then y else e):=by
 have:=KC l hl body p y e (fun i hi=>?_) (by rw[hb,van (by simp)]) 0 (vaO _)
 ·rw[va2]at this
  exact this
 ·rw[hb,vak (by simp;omega),bv l i hi]
  simp only[vaa]
  exact hk _ (vat hi) i
theorem pH(l:List α)(hl:l.length<9223372036854775808)(mk:Int->σ->τ)(body:τ->Option (τ⊕X))(k:Int->σ->α->Option (τ⊕X))(I:Nat->σ->Prop)(g:α->σ->σ)(e:σ->X)(s0:σ)(h0:I 0 s0)
  (hb:∀(i:Int) (s:σ),body (mk i s)=if decide (i<(l.length:Int))=true then(cR l i).bind (k i s)else some (.inr (e s)))
  (hin:∀(i:Nat) (h:i<l.length) s,I i s->k i s l[i]=some (.inl (mk (aR ((i:Int)+1)) (g l[i] s)))/\I (i+1) (g l[i] s)):loop body (mk 0 s0)=some (e (l.foldl (fun s x=>g x s) s0)):=by
 have:=oL l hl mk body I (fun _ x s=>.inl (g x s)) e (fun i h s hs=>⟨?_,fun s' hs'=>by cases hs';exact(hin i h s hs).2⟩) (fun s hs=>by rw[hb,van (by simp)]) 0 s0 (vaO _) h0
 ·rw[va2,show((0:Nat):Int)=0 from rfl]at this
  rw[this]
  have key:∀(l:List α) (i:Nat) (s:σ),ph (fun _ x (s:σ)=>(Sum.inl (g x s):σ⊕X)) e l i s=e (l.foldl (fun s x=>g x s) s):=by
   intro l
   induction l with
   |nil=>intro i s;rfl
   |cons x l ih=>intro i s;unfold ph;simp only;rw[ih];rfl
  rw[key]
 ·rw[hb,vak (by simp;omega),bv l i h]
  simp only[vaa]
  exact(hin i h s hs).1
theorem Nt(l:List α)(hl:l.length<9223372036854775808)(mk:Int->σ->τ){body:τ->Option (τ⊕X)}(k:Int->σ->α->Option (τ⊕X))(e:σ->X)(I:Nat->σ->Prop){Q:X->Prop}
  (hb:∀(i:Int) (s:σ),body (mk i s)=if decide (i<(l.length:Int))=true then(cR l i).bind (k i s)else some (.inr (e s)))
  (hin:∀(i:Nat) (h:i<l.length) s,I i s->eO (k i s l[i]) (fun r=>match r with|.inl t=>∃s',t=mk (aR ((i:Int)+1)) s'/\I (i+1) s'|.inr y=>Q y))
  (hend:∀s,I l.length s->Q (e s)):∀s,I 0 s->eO (loop body (mk 0 s)) Q:=
 xt l hl mk I (fun i h s hs=>by
  rw[hb,vak (by simp;omega),bv l i h]
  exact hin i h s hs) (fun s hs=>by
  rw[hb,van (by simp)]
  exact⟨_,rfl,hend s hs⟩)
theorem U7(l:List α)(hl:l.length<9223372036854775808){body:Int->Option (Int⊕X)}(k:Int->α->Option (Int⊕X))(e:X)(I:Nat->Prop){Q:X->Prop}
  (hb:∀(i:Int),body i=if decide (i<(l.length:Int))=true then(cR l i).bind (k i)else some (.inr e))
  (hin:∀(i:Nat) (h:i<l.length),I i->eO (k i l[i]) (fun r=>match r with|.inl t=>t=aR ((i:Int)+1)/\I (i+1)|.inr y=>Q y))
  (hend:I l.length->Q e) (h0:I 0):eO (loop body 0) Q:=
 Nt l hl (fun i (_:Unit)=>i) (fun i _=>k i) (fun _=>e) (fun i _=>I i) (fun i _=>hb i) (fun i h s hs=>(hin i h hs).mono fun r hr=>by
  cases r with
  |inl t=>exact⟨(),hr.1,hr.2⟩
  |inr y=>exact hr) (fun _ h=>hend h) () h0
end
def AD{α:Type}(p:α->α->Bool):List α->List α->Bool
 |[],[]=>true
 |x::a,y::b=>p x y&&AD p a b
 |_,_=>false
theorem PG{α:Type}{p:α->α->Bool}:∀{a b:List α},AD p a b=true->a.length=b.length
 |[],[],_=>rfl
 |x::a,y::b,h=>by
  rw[AD,vag]at h
  simp[PG h.2]
 |[],y::b,h=>by simp[AD]at h
 |x::a,[],h=>by simp[AD]at h
theorem Xz{α:Type}{p:α->α->Bool}:∀{a b:List α},a.length≠b.length->AD p a b=false:=fun{a b} h=>by
 rw[vcj]
 exact fun he=>h (PG he)
theorem PH{α:Type}{p:α->α->Bool}:∀{a b:List α},a.length=b.length->(a.zip b).any (fun x=>!p x.1 x.2)= !AD p a b
 |[],[],_=>rfl
 |x::a,y::b,h=>by
  rw[List.zip_cons_cons,List.any_cons,PH (by simpa using h),AD]
  cases p x y<;>rfl
theorem Uv{α X:Type}{a b:List α}(hl:a.length=b.length)(ha:a.length<9223372036854775808)(body:Int->Option (Int⊕X))(k:Int->α->α->Option (Int⊕X))(p:α->α->Bool)(y e:X)
  (hb:∀(i:Int),body i=if decide (i<(a.length:Int))=true then(cR a i).bind (fun x=>(cR b i).bind (k i x))else some (.inr e))
  (hk:∀x∈a,∀z∈b,∀i,k i x z=some (if p x z=true then .inl (aR (i+1))else .inr y)):loop body 0=some (if AD p a b=true then e else y):=by
 have hz:(a.zip b).length=a.length:=by simp[hl]
 have:=KC (a.zip b) (by omega) body (fun x=>!p x.1 x.2) y e (fun i h=>?_) (by rw[hb,van (by simp[hz])]) 0 (vaO _)
 ·rw[va2,PH hl]at this
  rw[show((0:Nat):Int)=0 from rfl]at this
  rw[this]
  by_cases h:AD p a b=true<;>simp[h]
 ·have h1:i<a.length:=by omega
  have h2:i<b.length:=by omega
  rw[hb,vak (by simp;omega),bv a i h1]
  simp only[vaa]
  rw[bv b i h2]
  simp only[vaa]
  rw[hk _ (vat h1) _ (vat h2)]
  have hzi:(a.zip b)[i]=(a[i],b[i]):=by simp
  rw[hzi]
  by_cases h:p a[i] b[i]=true<;>simp[h]
theorem wQ{α:Type}(l:List α)(h:l.length<=1073741824):lP l=some l:=vak h
mutual
def dP:aa->Nat
 |⟨_,_,_,ks⟩=>dL ks+1
def dL:List aa->Nat
 |[]=>0
 |p::ps=>max (dP p) (dL ps)
end
theorem qbo(p:aa):dP p=dL p.Kids+1:=by obtain⟨o,n,k,ks⟩:=p;rw[dP];rfl
mutual
theorem YW:∀(p:aa),dP p<=nP p
 |⟨o,n,k,ks⟩=>by have:=YV ks;rw[dP,nP];omega
theorem YV:∀(l:List aa),dL l<=nL l
 |[]=>by simp[dL]
 |p::l=>by have:=YW p;have:=YV l;rw[dL,nL];omega
end
theorem S0:∀(l:List aa) (a:Nat),l.foldl (fun(s:Int) x=>if(dP x:Int)>s then(dP x:Int)else s) (a:Int)=((max a (dL l):Nat):Int)
 |[],a=>by simp[dL]
 |x::l,a=>by
  rw[List.foldl_cons,show(if(dP x:Int)>(a:Int)then(dP x:Int)else(a:Int))=((max a (dP x):Nat):Int) by split<;>omega,S0 l,dL,Nat.max_assoc]
theorem VU(p:aa)(hp:nP p<=bz):FI p=some (dP p:Int):=by
 refine kf (F:=zM) nP (fun x=>nP x<=bz) (fun x=>(dP x:Int)) (fun R x hx ih=>?_) p hp (f6 hp)
 show uA (fun p=>R p) x=_
 unfold uA xF
 have hlen:=tT x
 have hd:=YW x
 have he:=qbo x
 have hz:(0:Int)=((0:Nat):Int):=rfl
 rw[pH x.Kids (by unfold bz at hx;omega) (fun i s=>(s,i)) _ (fun i s x=>(R x).bind fun r=>some (.inl ((if r>s then r else s),aR (i+1)))) (fun _ _=>True) (fun x s=>if(dP x:Int)>s then(dP x:Int)else s) id 0 trivial (fun i s=>rfl) (fun i hi s _=>⟨?_,trivial⟩)]
 ·rw[hz,S0]
  simp only[id,vaa]
  unfold bz at hx
  rw[dB (by omega) (by omega)]
  congr 1;omega
 ·have hm:=vat hi
  have hk:=rC hm
  rw[ih _ hk (by omega)]
  rfl
def tU(ns:List ag)(bs:List aa)(n:ag):Option aa:=(ns.findIdx? (fun x=>x==n)).bind fun j=>bs[j]?
mutual
def Ht(f:ag->Option aa):aa->aa
 |⟨o,n,k,ks⟩=>(if o=3 then f n else none).getD ⟨o,n,k,Tx f ks⟩
def Tx(f:ag->Option aa):List aa->List aa
 |[]=>[]
 |p::ps=>Ht f p::Tx f ps
end
theorem O9(f:ag->Option aa):∀(l:List aa),Tx f l=l.map (Ht f)
 |[]=>by rw[Tx];rfl
 |p::l=>by rw[Tx,O9 f l];rfl
theorem Z6(f:ag->Option aa)(p:aa):Ht f p=(if p.Op=3 then f p.Name else none).getD ⟨p.Op,p.Name,p.N,p.Kids.map (Ht f)⟩:=by
 obtain⟨o,n,k,ks⟩:=p
 rw[Ht,O9];rfl
mutual
theorem Y9(f:ag->Option aa)(M:Nat)(hM:1<=M)(hf:∀n q,f n=some q->nP q<=M):∀(p:aa),nP (Ht f p)<=nP p * M
 | ⟨o,n,k,ks⟩ => by
  have:=Y8 f M hM hf ks
  rw[Ht]
  cases h:(if o=3 then f n else none)with
  |none=>
   simp only[Option.getD_none]
   rw[nP,nP,va8];omega
  | some q =>
   simp only[Option.getD_some]
   have:f n=some q:=by
    split at h
    ·exact h
    ·cases h
   have:=hf n q this
   rw[nP,va8]
   have:0<=nL ks * M:=vaO _
   omega
theorem Y8(f:ag->Option aa)(M:Nat)(hM:1<=M)(hf:∀n q,f n=some q->nP q<=M):∀(l:List aa),nL (Tx f l)<=nL l * M
 |[]=>by simp[Tx,nL]
 |p::l=>by
  have:=Y9 f M hM hf p
  have:=Y8 f M hM hf l
  rw[Tx,nL,nL,va8];omega
end
theorem Wm{ns:List ag}{bs:List aa}{n:ag}{q:aa}(h:tU ns bs n=some q):q∈bs:=by
 unfold tU at h
 cases hf:ns.findIdx? (fun x=>x==n)with
 |none=>rw[hf]at h;cases h
 |some j=>
  rw[hf]at h
  exact vaz h
theorem Yi(ns:List ag)(bs:List aa)(p:aa)(hn:ns.length<9223372036854775808)(hb:∀q∈bs,nP q<=bz):
  ly ns bs p=some ((if p.Op=3 then tU ns bs p.Name else none).elim (.inr ()) (fun q=>.inl (q.Op,q.Name,q.N,q.Kids))):=by
 unfold ly pP tU DF
 by_cases h1:p.Op=3
 ·rw[vak (by simpa using h1),P6 ns p.Name hn,vak h1]
  simp only[vaa]
  cases hf:ns.findIdx? (fun x=>x==p.Name)with
  |none=>rfl
  | some j =>
   simp only[vaa]
   rw[vak (vbp (show(j:Int)>=0 by omega))]
   simp only[vaa]
   by_cases h2:j<bs.length
   ·rw[vak (vbp (by omega)),bv bs j h2,vab h2]
    simp only[vaa]
    rw[MK _ (hb _ (vat h2))]
    rfl
   ·rw[van (by simp;omega),vau (by omega)]
    rfl
 ·rw[van (by simpa using h1),van h1]
  rfl
theorem O5(p:aa)(ns:List ag)(bs:List aa)(hp:nP p<=bz)(hn:ns.length<9223372036854775808)(hb:∀q∈bs,nP q<=bz):j5 p ns bs=some (Ht (tU ns bs) p):=by
 refine kf (F:=rE) (fun x=>nP x.1) (fun x=>nP x.1<=bz/\x.2=(ns,bs)) (fun x=>Ht (tU x.2.1 x.2.2) x.1) (fun R x hx ih=>?_) (p,ns,bs) ⟨hp,rfl⟩ (f6 hp)
 obtain⟨p,ns',bs'⟩:=x
 obtain⟨hx,he⟩:=hx
 cases he
 have hx:nP p<=bz:=hx
 show ng (fun p names a=>R (p,names,a)) p ns bs=some (Ht (tU ns bs) p)
 unfold ng
 rw[Yi ns bs p hn hb,Z6]
 cases h:(if p.Op=3 then tU ns bs p.Name else none)with
 |some q=>
  simp only[Option.elim,vaa,wS,Option.getD_some]
 |none=>
  simp only[Option.elim,vaa,Option.getD_none]
  unfold pQ
  have hlen:=tT p
  rw[w9 p.Kids (by unfold bz at hx;omega) (fun i s=>(i,s)) _ (fun y=>R (y,ns,bs)) (Ht (tU ns bs)) id (fun i s=>rfl) (fun y hy=>ih (y,ns,bs) (rC hy) ⟨by have:=rC hy;show nP y<=bz;omega,rfl⟩)]
  rfl
def KZ(v:ag)(q:aa)(n:ag):Option aa:=if n=v then some q else none
theorem Wn(v:ag)(q:aa):tU [v] [q]=KZ v q:=by
 funext n
 unfold tU KZ
 rw[vcL]
 by_cases h:n=v
 ·subst h;simp
 ·have h':(v==n)=false:=by simpa using fun e=>h e.symm
  simp[h',h]
theorem Nh(p:aa)(v:ag)(q:aa)(hp:nP p<=bz)(hq:nP q<=bz):ub p v q=some (Ht (KZ v q) p):=by
 unfold ub
 rw[O5 p [v] [q] hp (by simp) (by simpa using hq),Wn]
 rfl
mutual
def cu:ae->Nat
 |⟨_,_,xs,ns,_,ps⟩=>cM xs+ns.length+ps.length+1
def cM:List ae->Nat
 |[]=>0
 |a::xs=>cu a+cM xs
end
theorem qp(t:ae):cu t=cM t.Args+t.Names.length+t.Preds.length+1:=by obtain⟨o,n,xs,ns,p,ps⟩:=t;rw[cu];rfl
theorem mL(t:ae):1<=cu t:=by rw[qp];omega
theorem Gl:∀{l:List ae} {x:ae},x∈l->cu x<=cM l
 | y :: l,x,h => by
  rw[cM]
  rcases vaA.1 h with rfl|h
  ·omega
  ·have:=Gl h;omega
theorem wY:∀(l:List ae),l.length<=cM l
 |[]=>by simp[cM]
 |p::l=>by rw[cM];have:=wY l;have:=mL p;simp only[vaN];omega
theorem je{t a:ae}(h:a∈t.Args):cu a<cu t:=by rw[qp t];have:=Gl h;omega
theorem iO(t:ae):t.Args.length<cu t:=by rw[qp];have:=wY t.Args;omega
theorem j3(t:ae):t.Names.length<cu t:=by rw[qp];omega
theorem GJ(t:ae):t.Preds.length<cu t:=by rw[qp];omega
mutual
def Di(Q:aa->Prop):ae->Prop
 |⟨_,_,xs,_,p,ps⟩=>Q p/\(∀q∈ps,Q q)/\AF Q xs
def AF(Q:aa->Prop):List ae->Prop
 |[]=>True
 |a::xs=>Di Q a/\AF Q xs
end
theorem Vn(Q:aa->Prop)(t:ae):Di Q t↔Q t.Pred/\(∀q∈t.Preds,Q q)/\AF Q t.Args:=by obtain⟨o,n,xs,ns,p,ps⟩:=t;rw[Di];rfl
theorem Mw(Q:aa->Prop):∀(l:List ae),AF Q l↔∀t∈l,Di Q t
 |[]=>by simp[AF]
 |a::l=>by rw[AF,Mw Q l];simp
mutual
theorem Mx{Q R:aa->Prop}(h:∀p,Q p->R p):∀(t:ae),Di Q t->Di R t
 |⟨_,_,xs,_,p,ps⟩,ht=>by
  rw[Di]at ht ⊢
  exact⟨h _ ht.1,fun q hq=>h _ (ht.2.1 q hq),JQ h xs ht.2.2⟩
theorem JQ{Q R:aa->Prop}(h:∀p,Q p->R p):∀(l:List ae),AF Q l->AF R l
 |[],_=>trivial
 |a::xs,hl=>by
  rw[AF]at hl ⊢
  exact⟨Mx h a hl.1,JQ h xs hl.2⟩
end
theorem Y5(l:List aa):l.length<=bM (l.map ac):=by
 have:=DE l
 have:=Td l
 omega
theorem Qb(l:List ag):l.length<=bM (l.map cS):=by
 have h:=QB (l.map cS) (fun x hx=>by
  obtain⟨s,_,rfl⟩:=vap.1 hx
  simp only[cS,fx,pm];omega)
 rwa[vaL]at h
theorem xh(t:ae):fx (af t)=1+(pm (.str t.Name)+(pm (sl af t.Args)+(pm (sl cS t.Names)+(1+(pm (.str t.Pred.Name)+(1+(pm (sl ac t.Pred.Kids)+(pm (sl ac t.Preds)+0)))))))):=by
 rw[bk];rfl
mutual
theorem Ta:∀(t:ae),cu t<=fx (af t)
 |⟨o,n,xs,ns,p,ps⟩=>by
  have h1:=Qc xs
  have h2:=Y5 ps
  have h3:=Qb ns
  rw[cu,xh]
  show _<=1+(pm (.str n)+(pm (sl af xs)+(pm (sl cS ns)+(1+(pm (.str p.Name)+(1+(pm (sl ac p.Kids)+(pm (sl ac ps)+0))))))))
  simp only[pm,sl]
  omega
theorem Qc:∀(l:List ae),cM l<=bM (l.map af)
 |[]=>by simp[cM]
 |a::l=>by
  have:=Ta a
  have:=Qc l
  rw[cM]
  simp only[vax,bM]
  omega
end
theorem Ye(t:ae):nP t.Pred<=fx (af t):=by
 have h:=Td t.Pred.Kids
 rw[M3,xh]
 simp only[pm,sl]
 omega
mutual
theorem SI(B:Nat):∀(t:ae),fx (af t)<=B->Di (fun p=>nP p<=B) t
 |⟨o,n,xs,ns,p,ps⟩,h=>by
  have h0:=Ye ⟨o,n,xs,ns,p,ps⟩
  rw[xh]at h h0
  have h:1+(pm (.str n)+(pm (sl af xs)+(pm (sl cS ns)+(1+(pm (.str p.Name)+(1+(pm (sl ac p.Kids)+(pm (sl ac ps)+0))))))))<=B:=h
  have h0:nP p<=1+(pm (.str n)+(pm (sl af xs)+(pm (sl cS ns)+(1+(pm (.str p.Name)+(1+(pm (sl ac p.Kids)+(pm (sl ac ps)+0)))))))):=h0
  simp only[pm,sl]at h h0
  rw[Di]
  refine⟨by omega,fun q hq=>?_,PK B xs (by omega)⟩
  have h1:=Y6 q
  have h2:=ua (vap.2 ⟨q,hq,rfl⟩:ac q∈ps.map ac)
  omega
theorem PK(B:Nat):∀(l:List ae),bM (l.map af)<=B->AF (fun p=>nP p<=B) l
 |[],_=>trivial
 |a::xs,h=>by
  simp only[vax,bM]at h
  rw[AF]
  exact⟨SI B a (by omega),PK B xs (by omega)⟩
end
section
variable{α β σ τ X Y:Type}
theorem Sa(l:List α)(hl:l.length<9223372036854775808)(mk:Int->τ)(body:τ->Option (τ⊕X))(f:α->Option X)(e:X)
  (hin:∀(i:Nat) (h:i<l.length),body (mk (i:Int))=some ((f l[i]).elim (.inl (mk (aR ((i:Int)+1)))) .inr)) (hend:body (mk l.length)=some (.inr e)):loop body (mk 0)=some ((l.findSome? f).elim e id):=by
 have key:∀k i,k+i=l.length->loop body (mk (i:Int))=some (((l.drop i).findSome? f).elim e id):=by
  intro k
  induction k with
  |zero=>
   intro i hi
   have:i=l.length:=by omega
   subst this
   rw[oK,hend,vbY]
   rfl
  | succ k ih =>
   intro i hi
   rw[oK,hin i (by omega),va7 (by omega),List.findSome?_cons]
   cases h:f l[i]with
   |none=>
    simp only[Option.elim]
    rw[dB (by omega) (by omega),show((i:Int)+1)=((i+1:Nat):Int) by omega]
    exact ih (i+1) (by omega)
   |some y=>rfl
 have:=key l.length 0 (by omega)
 rw[va2]at this
 exact this
theorem pZ{A:Type}(l:List α)(hl:l.length<9223372036854775808){body:Int->Option (Int⊕(A⊕Unit))}(k:Int->α->Option (Int⊕(A⊕Unit)))(P:α->Prop)(B:A->Prop)
  (hb:∀(i:Int),body i=if decide (i<(l.length:Int))=true then(cR l i).bind (k i)else some (.inr (.inr ())))
  (hk:∀x∈l,∀i,eO (k i x) (fun r=>r.elim (fun t=>t=aR (i+1)/\P x) (fun y=>y.elim B (fun _=>False)))):eO (loop body 0) (fun r=>r.elim B (fun _=>∀x∈l,P x)):=by
 refine U7 l hl k (.inr ()) (fun i=>∀j (h:j<l.length),j<i->P l[j]) hb (fun i hi hI=>(hk _ (vat hi) i).mono fun r hr=>?_) (fun hI x hx=>?_) (fun j _ h=>absurd h (vaQ _))
 ·cases r with
  | inl t =>
   refine⟨hr.1,fun j hj h=>?_⟩
   by_cases he:j=i
   ·subst he;exact hr.2
   ·exact hI j hj (by omega)
  |inr y=>cases y with
   |inl a=>exact hr
   |inr u=>exact hr.elim
 ·obtain⟨j,hj,rfl⟩:=vcE hx
  exact hI j hj hj
end
end Go.Proofs.YtbaamopmfmpfaaaGreatDoor
