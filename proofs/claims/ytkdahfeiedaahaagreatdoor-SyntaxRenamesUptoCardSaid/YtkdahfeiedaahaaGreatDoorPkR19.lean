/- PROVED: a part of the proof. Conditions: none. -/
import Derived.Test.YtkdahfeiedaahaaGreatDoorPkR18
import Derived.Test.YtkdahfeiedaahaaGreatDoorPkR11
import Derived.Shelf.SlicesE.DeleteFunc
import Derived.Shelf.SlicesE.Index
import Derived.Lib.SlicesCompact
set_option linter.unusedSimpArgs false
set_option linter.unusedVariables false
noncomputable section
namespace Go.Proofs.YtkdahfeiedaahaaGreatDoor
open Go
set_option linter.unusedSimpArgs false
set_option linter.unusedVariables false
abbrev qcN(a:List ai):Prop:=a.length<9223372036854775808
def Lc(l:List ai)(s:ai):Int:=match l.findIdx? (λx=>x==s)with|some j=>(j:Int)|none=>-1
theorem mR(l:List ai)(s:ai)(hl:l.length<9223372036854775808):zt l s=some (Lc l s):=by
 unfold zt zu
 have:=NU l hl (λzz=>lV l s l.length zz) (λx=>x==s) (λj=>Sum.inl (j:Int)) (Sum.inr ()) (λi h=>by
  simp only[lV]
  rw[vah (by simp;omega),bE _ i h]
  simp only[vaa]
  split<;>simp_all) (by simp only[lV];rw[van (by simp)])
 rw[this]
 unfold Lc
 cases l.findIdx? (λx=>x==s)<;>rfl
theorem Nd(l:List ai)(s:ai)(hl:l.length<9223372036854775808):sU l s=some (Lc l s):=by
 unfold sU yr qv
 have:=NU l hl (λzz=>hX l s l.length zz) (λx=>x==s) (λj=>Sum.inl (j:Int)) (Sum.inr ()) (λi h=>by
  simp only[hX]
  rw[vah (by simp;omega),bE _ i h]
  simp only[vaa,BEq.comm (a:=s)]
  split<;>simp_all) (by simp only[hX];rw[van (by simp)])
 rw[this]
 unfold Lc
 cases l.findIdx? (λx=>x==s)<;>rfl
theorem jI(l:List ai)(s:ai):decide (Lc l s>=0)=l.any λk=>k==s:=by
 unfold Lc
 cases h:l.findIdx? (λx=>x==s)with
 |none=>
  rw[List.findIdx?_eq_none_iff]at h
  symm
  simp only[vbq]
  rw[show decide ((-1:Int)>=0)=false from rfl]
  simp only[vbq,vbW]
  exact h
 | some j =>
  have h2:l.any (λx=>x==s)=true:=by
   have:=List.findIdx?_isSome (xs:=l) (p:=λx=>x==s)
   rw[h]at this
   exact this.symm
  rw[h2]
  simp
theorem Uu(l:List ai)(s:ai):decide (Lc l s<0)= !l.any λk=>k==s:=by
 rw[<-jI]
 rw[<-decide_not]
 simp
theorem NX{α:Type}(k:ai)(v:α)(j:ai):∀(m:List (ai×α)),yh (rz m k v) j=if(j==k)=true then some v else yh m j
 |[]=>by
  simp only[rz,yh,List.find?_cons,List.find?_nil]
  cases(j==k)<;>rfl
 | e :: r => by
  have ih:=NX k v j r
  unfold rz
  by_cases h:(k==e.1)=true
  ·have h':k=e.1:=by simpa using h
   rw[vah h]
   unfold yh
   simp only[List.find?_cons]
   rw[<-h']
   cases hj:(j==k)<;>simp
  ·rw [van h]
   unfold yh at ih ⊢
   simp only[List.find?_cons]
   cases hj:(j==e.1)
   ·simpa using ih
   ·have:¬(j==k)=true:=λhk=>h (by
      have h1:j=e.1:=by simpa using hj
      have h2:j=k:=by simpa using hk
      simp[<-h1,<-h2])
    simp[this]
abbrev LA(m:List (ai×Bool))(k:ai):Bool:=(yh m k).getD false
theorem WF(m:List (ai×Bool))(k j:ai):LA (rz m k true) j=(j==k||LA m j):=by
 unfold LA
 rw[NX]
 cases(j==k)<;>rfl
def Sl(l:ai):Nat:=l.foldl (λa c=>10 * a+(c.toNat - 48)) 0
theorem K6(u:Nat):Sl (Lib.decDigits u)=u:=by
 induction u using Nat.strongRecOn with
 | _ u ih =>
  rw[Lib.decDigits]
  by_cases h:u<10
  ·rw[dif_pos h]
   unfold Sl
   simp
   omega
  ·rw[dif_neg h]
   have:=ih (u / 10) (by omega)
   unfold Sl at this ⊢
   rw[vcG,this]
   simp
   omega
theorem Yj{u v:Nat}(h:Lib.decDigits u=Lib.decDigits v):u=v:=by rw[<-K6 u,<-K6 v,h]
theorem Pj(u:Nat):(Lib.decDigits u).length<=u+1:=by
 induction u using Nat.strongRecOn with
 | _ u ih =>
  rw[Lib.decDigits]
  by_cases h:u<10
  ·rw[dif_pos h];simp
  ·rw[dif_neg h]
   have:=ih (u / 10) (by omega)
   simp
   omega
theorem Oj:∀(k n:Nat) (acc:ai),n<=k->n<=1000000000->acc.length<=1000000000 - n->pO acc n=some (if n=0 then acc else Lib.decDigits n++acc)
 |k,0,acc,_,_,_=>by
  unfold pO
  exact ki rfl
 |0,n+1,_,h,_,_=>absurd h (by omega)
 | k + 1,n + 1,acc,hk,hn,ha => by
  have hb:lU acc ((n+1:Nat):Int)=some (.inl (UInt8.ofNat (48+(n+1) % 10)::acc,(((n+1) / 10:Nat):Int))):=by
   simp only[lU]
   have h1:(((n+1:Nat):Int)!=0)=true:=by simp;omega
   have h2:re ((n+1:Nat):Int) 10=some (((n+1) % 10:Nat):Int):=by
    simp only[re]
    have e:((n+1:Nat):Int) % 10=(((n+1) % 10:Nat):Int):=by omega
    rw[van (by omega),Int.tmod_eq_emod_of_nonneg (by omega),e]
   have h3:ui (((n+1) % 10:Nat):Int)=some (((n+1) % 10:Nat):Int):=by
    simp only[ui]
    rw[van (by simp;omega)]
   have h4:IntKind.u8.wrap (dp (48+(((n+1) % 10:Nat):Int)))=((48+(n+1) % 10:Nat):Int):=by
    rw[bR (by omega) (by omega)]
    have h5:(48:Int)+(((n+1) % 10:Nat):Int)=((48+(n+1) % 10:Nat):Int):=by omega
    rw[h5]
    generalize hq:48+(n+1) % 10=q
    have:q<58:=by omega
    show((q:Int) % 256)=q
    omega
   have h6:sI [((48+(n+1) % 10:Nat):Int)]=some [UInt8.ofNat (48+(n+1) % 10)]:=by
    simp only[sI]
    rw[vah (by omega)]
    rfl
   have h7:qu .i64 ((n+1:Nat):Int) 10=some (((n+1) / 10:Nat):Int):=by
    simp only[qu]
    rw[van (by omega),vcs (by omega)]
    have e:((n+1:Nat):Int) / 10=(((n+1) / 10:Nat):Int):=by omega
    rw[e]
    exact vbd some (bR (by omega) (by omega))
   rw[h1]
   simp only[if_true,h2,vaa,h3,h4,h6]
   rw[K1 (by simp;omega),h7]
   rfl
  unfold pO
  refine(wG (body:=λzz:ai×Int=>lU zz.1 zz.2) (s:=(acc,((n+1:Nat):Int))) (s':=(UInt8.ofNat (48+(n+1) % 10)::acc,(((n+1) / 10:Nat):Int))) hb).trans ?_
  have ih:=Oj k ((n+1) / 10) (UInt8.ofNat (48+(n+1) % 10)::acc) (by omega) (by omega) (by simp;omega)
  unfold pO at ih
  rw[ih,van (by omega:¬n+1=0)]
  conv=>rhs;rw[Lib.decDigits]
  by_cases h:n+1<10
  ·rw[dif_pos h,vah (by omega),vbK h]
   rfl
  ·rw[dif_neg h,van (by omega)]
   simp
theorem HX(n:Nat)(h0:1<=n)(h:n<=1000000000):Em n=some (Lib.decDigits n):=by
 unfold Em
 have h1:((n:Int)==0)=false:=by simp;omega
 rw[h1,Oj n n [] (var _) h (by simp)]
 have h2:decide ((n:Int)<0)=false:=by simp
 simp only[vaD,if_false,vaa,h2]
 rw[van (by omega)]
 simp
theorem QS(n:Nat)(h:n<=1000000000):TD n=some (Lib.decDigits n):=by
 unfold TD Lib.itoa
 rw[vah (by simp;omega),van (by omega)]
 rfl
theorem W9:∀(used L:List ai),L.Nodup->used.length<L.length->∃x∈L,x∉used
 |[],L,_,h=>by
  cases L with
  |nil=>simp at h
  |cons x L=>exact⟨x,by simp,by simp⟩
 | u :: us,L,hn,h => by
  obtain⟨x,hx,hu⟩:=W9 us (L.erase u) (hn.erase u) (by
   have:=List.length_erase (a:=u) (l:=L)
   rw[this]
   simp at h
   split<;>omega)
  rw[hn.mem_erase_iff]at hx
  exact⟨x,hx.2,by simp[hx.1,hu]⟩
theorem Lh(used:List ai)(base:ai):∃n,1<=n/\n<=used.length+1/\base++Lib.decDigits n∉used:=by
 obtain⟨x,hx,hu⟩:=W9 used ((List.range (used.length+1)).map λi=>base++Lib.decDigits (i+1)) (by
  unfold List.Nodup
  rw[List.pairwise_map]
  refine vda ?_ (List.nodup_range (n:=used.length+1))
  intro a b hab e
  have:=Yj (List.append_cancel_left e)
  omega) (by simp)
 simp only[vag,vbw]at hx
 obtain⟨i,hi,rfl⟩:=hx
 exact⟨i+1,by omega,by omega,hu⟩
def im(used:List ai)(base:ai):Nat->Nat->ai
 |0,_=>[]
 |k+1,n=>if used.contains (base++Lib.decDigits n)=true then im used base k (n+1)else base++Lib.decDigits n
def qi(used:List ai)(base:ai):ai:=if used.contains base=true then im used base 100000001 1 else base
theorem Fl(used:List ai)(hl:qcN used):∃m,sV used used.length 0 []=some m/\∀k,LA m k=used.contains k:=by
 unfold sV
 have:=sS used hl (λi (m:List (ai×Bool))=>(i,m)) (λzz=>iU used used.length zz.1 zz.2) (λ_ _=>True) (λ_ x m=>.inl (rz m x true)) (λm=>m) (λi hi t _=>⟨by
   simp only[iU]
   rw[vah (by simp;omega),bE _ i hi]
   rfl,λ_ _=>trivial⟩) (λ_ _=>by simp only[iU];rw[van (by simp)]) 0 [] (vaN _) trivial
 simp only[Int.ofNat_zero,vbF]at this
 rw[this]
 refine⟨_,rfl,?_⟩
 have key:∀(l:List ai) (i:Nat) (m:List (ai×Bool)) k,LA (ub (λ_ x (m:List (ai×Bool))=>(Sum.inl (rz m x true):List (ai×Bool)⊕List (ai×Bool))) (λm=>m) l i m) k=(l.contains k||LA m k):=by
  intro l
  induction l with
  |nil=>intro i m k;simp[ub]
  |cons x l ih=>
   intro i m k
   unfold ub
   simp only[ih,WF,List.contains_cons]
   cases(k==x)<;>cases l.contains k<;>simp
 intro k
 rw[key]
 simp[LA,yh]
theorem Ii(used:List ai)(base:ai)(m:List (ai×Bool))(hm:∀k,LA m k=used.contains k)(hl:used.length<=100000000)(hb:base.length<=4000000000000000000)(N:Nat)(hN:base++Lib.decDigits N∉used)(hN2:N<=100000001):∀(k n:Nat),1<=n->n<=N->N<n+k->nM base m n=some (im used base k n)/\lj used base (base++Lib.decDigits n) ((n+1:Nat):Int)=some (im used base k n)/\im used base k n∉used
 |0,n,_,h1,h2=>absurd h2 (by omega)
 | k + 1,n,h0,h1,h2 => by
  have hd:=Pj n
  have hd2:=Pj (n+1)
  have e1:dp ((n:Int)+1)=((n+1:Nat):Int):=by rw[bR (by omega) (by omega)];omega
  have e2:dp (((n+1:Nat):Int)+1)=((n+2:Nat):Int):=by rw[bR (by omega) (by omega)];omega
  unfold im
  by_cases hc:used.contains (base++Lib.decDigits n)=true
  ·rw[vah hc]
   have hne:n≠N:=by
    rintro rfl
    exact hN (by simpa using hc)
   obtain⟨i1,i2,i3⟩:=Ii used base m hm hl hb N hN hN2 k (n+1) (by omega) (by omega) (by omega)
   have hm':=hm (base++Lib.decDigits n)
   unfold LA at hm'
   have b1:gv base m (n:Int)=some (.inl (((n+1:Nat):Int))):=by
    simp only[gv]
    rw[QS n (by omega)]
    simp only[vaa]
    rw[K1 (by omega)]
    simp only[vaa,hm',hc,e1]
    rfl
   have b2:cM used base (base++Lib.decDigits n) ((n+1:Nat):Int)=some (.inl (base++Lib.decDigits (n+1),((n+2:Nat):Int))):=by
    simp only[cM]
    rw[mR _ _ (by omega)]
    simp only[vaa,jI]
    have:(used.any λk=>k==base++Lib.decDigits n)=true:=by simpa[vbn]using hc
    rw[this,vah rfl,HX (n+1) (by omega) (by omega)]
    simp only[vaa]
    rw[K1 (by omega)]
    simp only[vaa,e2]
   refine⟨?_,?_,i3⟩
   ·unfold nM at i1 ⊢
    exact(wG b1).trans i1
   ·unfold lj at i2 ⊢
    exact(wG (body:=λzz:ai×Int=>cM used base zz.1 zz.2) (s:=(base++Lib.decDigits n,((n+1:Nat):Int))) (s':=(base++Lib.decDigits (n+1),((n+2:Nat):Int))) b2).trans i2
  ·rw[van hc]
   have hc':used.contains (base++Lib.decDigits n)=false:=by simpa using hc
   have hm':=hm (base++Lib.decDigits n)
   unfold LA at hm'
   have b1:gv base m (n:Int)=some (.inr (base++Lib.decDigits n)):=by
    simp only[gv]
    rw[QS n (by omega)]
    simp only[vaa]
    rw[K1 (by omega)]
    simp only[vaa,hm',hc']
    rfl
   have b2:cM used base (base++Lib.decDigits n) ((n+1:Nat):Int)=some (.inr (base++Lib.decDigits n)):=by
    simp only[cM]
    rw[mR _ _ (by omega)]
    simp only[vaa,jI]
    have:(used.any λk=>k==base++Lib.decDigits n)=false:=by
     rw[vcI]
     intro h
     apply hc
     simpa[vbn]using h
    rw[this]
    rfl
   refine⟨?_,?_,by simpa using hc⟩
   ·unfold nM
    exact ki b1
   ·unfold lj
    exact ki (body:=λzz:ai×Int=>cM used base zz.1 zz.2) (s:=(base++Lib.decDigits n,((n+1:Nat):Int))) b2
theorem vZ(used:List ai)(base:ai)(hl:used.length<=100000000)(hb:base.length<=4000000000000000000):pZ used base=some (qi used base)/\mS used base=some (qi used base)/\qi used base∉used:=by
 obtain⟨m,hm1,hm⟩:=Fl used (show _<_ by omega)
 have hm':=hm base
 unfold LA at hm'
 obtain⟨N,h1,h2,h3⟩:=Lh used base
 obtain⟨i1,i2,i3⟩:=Ii used base m hm hl hb N h3 (by omega) 100000001 1 (var _) h1 (by omega)
 unfold pZ mS qi
 rw[hm1]
 simp only[vaa,hm']
 have hd:=Pj 1
 by_cases hc:used.contains base=true
 ·simp only[hc,vc7,vaD,if_false,if_true]
  simp only[Int.ofNat_one]at i1
  rw[i1]
  have b2:cM used base base 1=some (.inl (base++Lib.decDigits 1,((2:Nat):Int))):=by
   simp only[cM]
   rw[mR _ _ (by omega)]
   simp only[vaa,jI]
   have:(used.any λk=>k==base)=true:=by simpa[vbn]using hc
   have ht:=HX 1 (by omega) (by omega)
   simp only[Int.ofNat_one]at ht
   rw[this,vah rfl,ht]
   simp only[vaa]
   rw[K1 (by omega)]
   rfl
  unfold lj at i2 ⊢
  have:=(wG (body:=λzz:ai×Int=>cM used base zz.1 zz.2) (s:=(base,1)) (s':=(base++Lib.decDigits 1,((2:Nat):Int))) b2).trans i2
  rw[this]
  exact⟨rfl,rfl,i3⟩
 ·have hc':used.contains base=false:=by simpa using hc
  simp only[hc',vc1,if_true,vaD,if_false]
  have b2:cM used base base 1=some (.inr base):=by
   simp only[cM]
   rw[mR _ _ (by omega)]
   simp only[vaa,jI]
   have:(used.any λk=>k==base)=false:=by
    rw[vcI]
    intro h
    apply hc
    simpa[vbn]using h
   rw[this]
   rfl
  unfold lj
  have:=ki (body:=λzz:ai×Int=>cM used base zz.1 zz.2) (s:=(base,1)) b2
  rw[this]
  exact⟨vzz,rfl,by simpa using hc⟩
theorem Ff{u v:List ai}(h:∀x,x∈u↔x∈v)(base:ai):∀(k n:Nat),im u base k n=im v base k n
 |0,n=>by rw[im,im]
 | k + 1,n => by
  have e:u.contains (base++Lib.decDigits n)=v.contains (base++Lib.decDigits n):=by
   rw[vcp,vbs,vbs]
   exact h _
  rw[im,im,e,Ff h base k (n+1)]
theorem Pt{u v:List ai}(h:∀x,x∈u↔x∈v)(base:ai):qi u base=qi v base:=by
 have e:u.contains base=v.contains base:=by
  rw[vcp,vbs,vbs]
  exact h _
 unfold qi
 rw[e,Ff h]
theorem Qx(l:List am)(hl:l.length<=1073741824):jL l=some (l.map (·.Name)):=by
 unfold jL
 have h:=cZ l.length (λzz:(List ai)×Int=>eM l (l.length:Int) zz.1 zz.2) (λi=>((l.take i).map (·.Name),(i:Int))) (l.map (·.Name)) (λi hi=>?_) ?_
 ·have h':qx l (l.length:Int) ([]:List ai) 0=some (l.map (·.Name)):=by unfold qx;simpa using h
  rw[h'];rfl
 ·show eM l (l.length:Int) _ (i:Int)=_
  unfold eM
  rw[vah (by simpa using hi),bE _ _ hi,vaa,b9 (by simp;omega),vaa,bR (by omega) (by omega),vay hi,va5]
  rfl
 ·show eM l (l.length:Int) _ (l.length:Int)=_
  unfold eM
  rw[van (by simp),vaG]
theorem Q0(l:List az)(i:Nat):sT (l.take i)<=sT l:=by
 have:∀(l:List az) (i:Nat),sT (l.take i)<=sT l:=by
  intro l
  induction l with
  |nil=>intro i;simp
  |cons x l ih=>
   intro i
   cases i with
   |zero=>simp[sT]
   |succ i=>have:=ih i;simp only[List.take_succ_cons,sT];omega
 exact this l i
abbrev RH(l:List ai):Prop:=l.Pairwise R7
theorem DO:∀{a b:List ai},RH a->RH b->(∀x,x∈a↔x∈b)->a=b
 |[],[],_,_,_=>rfl
 |[],y::b,_,_,h=>by have:=(h y).2 (by simp);simp at this
 |x::a,[],_,_,h=>by have:=(h x).1 (by simp);simp at this
 | x :: a,y :: b,ha,hb,h => by
  unfold RH at ha hb
  rw[vbl]at ha hb
  have hxy:x=y:=by
   have h1:=(h x).1 (by simp)
   have h2:=(h y).2 (by simp)
   rw[vaB]at h1 h2
   rcases h1 with h1|h1
   ·exact h1
   ·rcases h2 with h2|h2
    ·exact h2.symm
    ·have:=pS (hb.1 x h1) (ha.1 y h2)
     unfold R7 at this
     rw[rQ]at this
     cases this
  subst hxy
  congr 1
  refine DO ha.2 hb.2 λz=>?_
  constructor
  ·intro hz
   have:=(h z).1 (by simp[hz])
   rw[vaB]at this
   rcases this with rfl|this
   ·have:=ha.1 _ hz;unfold R7 at this;rw[rQ]at this;cases this
   ·exact this
  ·intro hz
   have:=(h z).2 (by simp[hz])
   rw[vaB]at this
   rcases this with rfl|this
   ·have:=hb.1 _ hz;unfold R7 at this;rw[rQ]at this;cases this
   ·exact this
theorem CO(d:List ai)(hs:d.Pairwise λx y=>Op.bytesLess y x=false):∀m,m<=d.length->RH (Lib.compactUpTo d.toArray m)/\∀x,x∈Lib.compactUpTo d.toArray m↔∃(j:Nat) (h:j<d.length),j<m/\d[j]=x
 |0,_=>by
  refine⟨by simp[Lib.compactUpTo,RH],λx=>?_⟩
  simp[Lib.compactUpTo]
 | m + 1,hm => by
  obtain⟨h1,h2⟩:=CO d hs m (by omega)
  have hg:∀j (h:j<d.length),d.toArray[j]! =d[j]:=λj h=>by simp[h]
  rw[Lib.compactUpTo_succ]
  by_cases hk:Lib.keeps d.toArray m=true
  ·rw [vah hk,hg m (by omega)]
   refine⟨?_,λx=>?_⟩
   ·unfold RH
    rw[List.pairwise_append]
    refine⟨h1,by simp,λx hx y hy=>?_⟩
    simp at hy
    subst hy
    obtain⟨j,hj,hjm,rfl⟩:=(h2 x).1 hx
    have hne:d[m - 1]≠d[m]:=by
     unfold Lib.keeps at hk
     simp only[vao]at hk
     rcases hk with hk|hk
     ·omega
     ·rw[hg m (by omega),hg (m - 1) (by omega)]at hk
      exact λe=>hk e.symm
    have hlt:Op.bytesLess d[m - 1] d[m]=true:=by
     have k1:=(vcB.1 hs) (m - 1) m (by omega) (by omega) (by omega)
     cases h:Op.bytesLess d[m - 1] d[m]with
     |true=>rfl
     |false=>exact absurd (pR h k1) hne
    by_cases hj2:j=m - 1
    ·subst hj2;exact hlt
    ·have k2:=(vcB.1 hs) j (m - 1) (by omega) (by omega) (by omega)
     cases h:Op.bytesLess d[j] d[m - 1]with
     |true=>exact pS h hlt
     |false=>
      have:=pR h k2
      rw[this];exact hlt
   ·rw[vaw,h2]
    constructor
    ·rintro(⟨j,hj,hjm,rfl⟩|hx)
     ·exact⟨j,hj,by omega,rfl⟩
     ·simp at hx;exact⟨m,by omega,by omega,hx.symm⟩
    ·rintro⟨j,hj,hjm,rfl⟩
     by_cases e:j=m
     ·subst e;exact .inr (by simp)
     ·exact .inl ⟨j,hj,by omega,rfl⟩
  ·rw [van hk,va6]
   refine⟨h1,λx=>?_⟩
   rw[h2]
   constructor
   ·rintro⟨j,hj,hjm,rfl⟩;exact⟨j,hj,by omega,rfl⟩
   ·rintro⟨j,hj,hjm,rfl⟩
    by_cases e:j=m
    ·subst e
     have:j≠0/\d.toArray[j]! =d.toArray[j - 1]! :=by
      unfold Lib.keeps at hk
      simp only[vao,vcZ,ne_eq,Decidable.not_not]at hk
      exact hk
     rw[hg j hj,hg (j - 1) (by omega)]at this
     exact⟨j - 1,by omega,by omega,this.2.symm⟩
    ·exact⟨j,hj,by omega,rfl⟩
def U8(a b:List ai):List ai:=Lib.compact (qP (a++b))
theorem Me(a b:List ai):RH (U8 a b)/\∀x,x∈U8 a b↔x∈a\/x∈b:=by
 obtain⟨h1,h2⟩:=CO (qP (a++b)) (F0 _) _ (var _)
 refine⟨h1,λx=>?_⟩
 rw[show U8 a b=Lib.compactUpTo (qP (a++b)).toArray (qP (a++b)).length from rfl,h2,<-vaw,<-Vb,List.mem_iff_getElem]
 constructor
 ·rintro⟨j,h,_,e⟩;exact⟨j,h,e⟩
 ·rintro⟨j,h,e⟩;exact⟨j,h,h,e⟩
def Lo(s:ai):List ai->List ai
 |[]=>[s]
 |x::r=>if Op.bytesLess x s=true then x::Lo s r else if(x==s)=true then s::r else s::x::r
def kk(s:ai):List ai->Nat
 |[]=>0
 |x::r=>if Op.bytesLess x s=true then kk s r+1 else 0
theorem Zg(s:ai):∀l,kk s l<=l.length
 |[]=>var _
 |x::r=>by have:=Zg s r;unfold kk;split<;>simp<;>omega
theorem Wq(s:ai):∀l,Lo s l=l.take (kk s l)++s::l.drop (kk s l+if(l[kk s l]? ==some s)=true then 1 else 0)
 |[]=>by simp[Lo,kk]
 | x :: r => by
  have ih:=Wq s r
  unfold Lo kk
  by_cases h:Op.bytesLess x s=true
  ·rw[vah h,vah h,ih]
   simp only[List.take_succ_cons,List.getElem?_cons_succ,va8]
   rw[show kk s r+1+(if(r[kk s r]? ==some s)=true then 1 else 0)=(kk s r+if(r[kk s r]? ==some s)=true then 1 else 0)+1 by omega,List.drop_succ_cons]
  ·rw[van h,van h]
   by_cases hx:(x==s)=true
   ·have:x=s:=by simpa using hx
    simp[this]
   ·have:¬x=s:=by simpa using hx
    simp[this]
theorem JT(s:ai):∀l,(Lo s l).length<=l.length+1
 |[]=>by simp[Lo]
 | x :: r => by
  have:=JT s r
  unfold Lo
  split
  ·simp;omega
  ·split<;>simp
theorem PE(s:ai):∀l x,x∈Lo s l↔x=s\/x∈l
 |[],x=>by simp[Lo]
 | y :: r,x => by
  have:=PE s r x
  unfold Lo
  by_cases h:Op.bytesLess y s=true
  ·rw[vah h,vaB,this,vaB]
   constructor
   ·rintro(h|h|h)<;>simp[h]
   ·rintro(h|h|h)<;>simp[h]
  ·rw[van h]
   by_cases hy:(y==s)=true
   ·have e:y=s:=by simpa using hy
    rw[vah hy,e]
    simp
   ·rw[van hy]
    simp
theorem TC(s:ai):∀{l},RH l->RH (Lo s l)
 |[],_=>by simp[Lo,RH]
 | x :: r,h => by
  unfold RH at h ⊢
  rw[vbl]at h
  unfold Lo
  by_cases hx:Op.bytesLess x s=true
  ·rw[vah hx,vbl]
   refine⟨λy hy=>?_,TC s h.2⟩
   rw[PE]at hy
   rcases hy with rfl|hy
   ·exact hx
   ·exact h.1 y hy
  ·rw [van hx]
   by_cases he:(x==s)=true
   ·have e:x=s:=by simpa using he
    subst e
    rw[vah he,vbl]
    exact h
   ·have hsx:R7 s x:=by
     cases hc:Op.bytesLess s x with
     |true=>exact hc
     |false=>
      have:=pR (by simpa using hx) hc
      simp[this]at he
    rw[van he,vbl,vbl]
    refine⟨λy hy=>?_,h⟩
    rw[vaB]at hy
    rcases hy with rfl|hy
    ·exact hsx
    ·exact pS hsx (h.1 y hy)
theorem TX(s:ai):∀(l:List ai) (i:Nat) (out:List ai),ub (λi x (out:List ai)=>if Op.bytesLess x s=true then(Sum.inl (out++[x]):List ai⊕(List ai×Nat))else .inr (out,i)) (λout=>(out,i+l.length)) l i out=(out++l.take (kk s l),i+kk s l)
 |[],i,out=>by simp[ub,kk]
 | x :: l,i,out => by
  have ih:=TX s l (i+1) (out++[x])
  unfold ub kk
  by_cases h:Op.bytesLess x s=true
  ·simp only[h,if_true]
   rw[show i+(x::l).length=i+1+l.length by simp;omega,ih]
   simp
   omega
  ·simp[h]
theorem Og{α σ X Y:Type}(g:X->Y)(f:Nat->α->σ->σ⊕X)(e:σ->X):∀(l:List α) (i:Nat) (s:σ),ub (λi x s=>Sum.map id g (f i x s)) (λs=>g (e s)) l i s=g (ub f e l i s)
 |[],i,s=>rfl
 |x::l,i,s=>by
  unfold ub
  cases f i x s with
  |inl s'=>exact Og g f e l (i+1) s'
  |inr y=>rfl
def WM{σ:Type}(y:σ×Nat):σ×Int:=(y.1,(y.2:Int))
theorem Kb(a:List ai)(s:ai)(ha:a.length<=1000000000):Ep a s=some (Lo s a):=by
 unfold Ep J9
 have:=sS a (by omega) (λi (out:List ai)=>(out,i)) (λzz=>nl a s zz.1 zz.2) (λi out=>out.length=i)
  (λi x out=>Sum.map id WM (if Op.bytesLess x s=true then(Sum.inl (out++[x]):List ai⊕(List ai×Nat))else .inr (out,i))) (λout=>WM (out,0+a.length)) (λi hi out hI=>by
   have hb:pb a s i=some (Op.bytesLess a[i] s):=by
    simp only[pb]
    rw[vah (by simp;omega),bE _ i hi]
    rfl
   refine⟨?_,λs' hs'=>?_⟩
   ·simp only[nl]
    rw[hb]
    simp only[vaa]
    by_cases hl:Op.bytesLess a[i] s=true
    ·rw[vah hl,vah hl,bE _ i hi]
     simp only[vaa]
     rw[b9 (by simp;omega)]
     rfl
    ·rw[van hl,van hl]
     rfl
   ·by_cases hl:Op.bytesLess a[i] s=true
    ·rw[vah hl]at hs';cases hs';simp;omega
    ·rw[van hl]at hs';cases hs') (λout _=>by
   have hb:pb a s a.length=some false:=by
    simp only[pb]
    rw[van (by simp)]
   simp only[nl]
   rw[hb]
   simp[WM]) 0 [] (vaN _) rfl
 simp only[Int.ofNat_zero,vbF]at this
 have hm:=Og WM (λi x (out:List ai)=>if Op.bytesLess x s=true then(Sum.inl (out++[x]):List ai⊕(List ai×Nat))else .inr (out,i)) (λout=>(out,0+a.length)) a 0 []
 rw[this.trans (vbd some hm),TX s a 0 []]
 simp only[vaR,vaI,vaa,WM]
 have hk:=Zg s a
 rw[b9 (by simp;omega)]
 simp only[vaa]
 have hj:xw a s (kk s a)=some ((kk s a+if(a[kk s a]? ==some s)=true then 1 else 0:Nat):Int):=by
  unfold xw Dr
  by_cases hlt:kk s a<a.length
  ·rw[vah (by simp;omega),bE _ _ hlt]
   simp only[vaa,vab hlt]
   have e:(some a[kk s a]==some s)=(a[kk s a]==s):=rfl
   rw[e]
   by_cases h:(a[kk s a]==s)=true
   ·rw[vah h,vah h,bR (by omega) (by omega)]
    rfl
   ·rw[van h,van h]
    rfl
  ·have hn:a[kk s a]? =none:=by simp;omega
   rw[van (by simp;omega),hn]
   rfl
 rw[hj]
 simp only[vaa]
 have hle:kk s a+(if(a[kk s a]? ==some s)=true then 1 else 0)<=a.length:=by
  by_cases hlt:kk s a<a.length
  ·split<;>omega
  ·have hn:a[kk s a]? =none:=by simp;omega
   rw[hn]
   simp
   omega
 rw[Xx a _ hle]
 simp only[vaa]
 rw[b9 (by simp;omega),Wq]
 simp
theorem D0{α σ:Type}(g:σ->α->σ):∀(l:List α) (i:Nat) (s:σ),ub (λ_ x s=>(Sum.inl (g s x):σ⊕σ)) (λs=>s) l i s=l.foldl g s
 |[],i,s=>rfl
 |x::l,i,s=>D0 g l (i+1) (g s x)
theorem DM:∀(l out:List ai),RH out->RH (l.foldl (λo x=>Lo x o) out)/\(∀x,x∈l.foldl (λo x=>Lo x o) out↔x∈out\/x∈l)/\(l.foldl (λo x=>Lo x o) out).length<=out.length+l.length
 |[],out,h=>⟨h,by simp,by simp⟩
 | y :: l,out,h => by
  obtain⟨h1,h2,h3⟩:=DM l (Lo y out) (TC y h)
  have:=JT y out
  refine⟨h1,λx=>?_,by simp only[List.foldl_cons,vau];omega⟩
  rw[List.foldl_cons,h2,PE,vaB]
  constructor
  ·rintro((h|h)|h)<;>simp[h]
  ·rintro(h|h|h)<;>simp[h]
theorem Oo(a b:List ai)(ha:a.length<=400000000)(hb:b.length<=400000000):Bi a b=some (U8 a b):=by
 unfold Bi En Eo
 have t1:=sS a (by omega) (λi (out:List ai)=>(out,i)) (λzz=>kJ a a.length zz.1 zz.2) (λi out=>out.length<=i) (λ_ x out=>(Sum.inl (Lo x out):List ai⊕List ai)) (λo=>o) (λi hi out hI=>by
   refine⟨?_,λs' hs'=>?_⟩
   ·simp only[kJ]
    rw[vah (by simp;omega),bE _ i hi]
    simp only[vaa]
    rw[Kb _ _ (by omega)]
    rfl
   ·cases hs'
    have:=JT a[i] out
    omega) (λout _=>by simp only[kJ];rw[van (by simp)]) 0 [] (vaN _) (var _)
 simp only[Int.ofNat_zero,vbF]at t1
 rw[D0 (λo x=>Lo x o)]at t1
 obtain⟨f1,f2,f3⟩:=DM a [] (by simp[RH])
 have t2:=sS b (by omega) (λi (out:List ai)=>(out,i)) (λzz=>kK b b.length zz.1 zz.2) (λi out=>out.length<=400000000+i) (λ_ x out=>(Sum.inl (Lo x out):List ai⊕List ai)) (λo=>o) (λi hi out hI=>by
   refine⟨?_,λs' hs'=>?_⟩
   ·simp only[kK]
    rw[vah (by simp;omega),bE _ i hi]
    simp only[vaa]
    rw[Kb _ _ (by omega)]
    rfl
   ·cases hs'
    have:=JT b[i] out
    omega) (λout _=>by simp only[kK];rw[van (by simp)]) 0 (a.foldl (λo x=>Lo x o) []) (vaN _) (by simp at f3;omega)
 simp only[Int.ofNat_zero,vbF]at t2
 rw[D0 (λo x=>Lo x o)]at t2
 rw[t1]
 simp only[vaa]
 rw[t2]
 simp only[vaa,vax]
 obtain⟨g1,g2,_⟩:=DM b _ f1
 obtain⟨u1,u2⟩:=Me a b
 refine DO g1 u1 λx=>?_
 rw[g2,f2,u2]
 simp
def jp(m:List (ai×Bool))(l:List ai):List (ai×Bool):=l.foldl (λm x=>rz m x true) m
theorem g7(m:List (ai×Bool))(a b:List ai):jp m (a++b)=jp (jp m a) b:=by unfold jp;rw[vcG]
theorem tp(l:List ai)(m:List (ai×Bool))(hl:l.length<9223372036854775808):fM l m=some (jp m l):=by
 unfold fM
 have h:=cZ l.length (λzz:Int×(List (ai×Bool))=>d7 l (l.length:Int) zz.1 zz.2) (λi=>((i:Int),jp m (l.take i))) (jp m l) (λi hi=>?_) ?_
 ·have h':oB l (l.length:Int) 0 m=some (jp m l):=by unfold oB;simpa[jp]using h
  rw[h'];rfl
 ·show d7 l (l.length:Int) (i:Int) _=_
  unfold d7
  rw[vah (by simpa using hi),bE _ _ hi,vaa,bR (by omega) (by omega),vay hi,g7]
  rfl
 ·show d7 l (l.length:Int) (l.length:Int) _=_
  unfold d7
  rw[van (by simp),vaG]
theorem N0:mn ([]:List ai)=some []:=by
 unfold mn
 rw[tp _ _ (by simp)];rfl
def nJ(m:List (ai×Bool)):List ai:=m.map (·.1)
theorem QU(k:ai):∀(m:List (ai×Bool)),nJ (rz m k true)=if k∈nJ m then nJ m else nJ m++[k]
 |[]=>by simp[rz,nJ]
 | e :: r => by
  have ih:=QU k r
  unfold nJ at *
  rw[rz]
  by_cases h:(k==e.1)=true
  ·have h':k=e.1:=by simpa using h
   rw[vah h,vaz,vaz,vah (by rw[h'];simp),h']
  ·have h':¬k=e.1:=by simpa using h
   rw[van h,vaz,vaz,ih]
   by_cases h2:k∈r.map (·.1)
   ·rw[vah h2,vah (vaZ _ h2)]
   ·rw[van h2,van (by rw[vaB];rintro(h3|h3);exact h' h3;exact h2 h3)]
    rfl
theorem Bt:∀(l:List ai) (m:List (ai×Bool)),(nJ m).Nodup->(nJ (jp m l)).Nodup/\(∀x,x∈nJ (jp m l)↔x∈nJ m\/x∈l)/\(jp m l).length<=m.length+l.length
 |[],m,h=>⟨h,λx=>by simp[jp],by simp[jp]⟩
 | k :: l,m,h => by
  have hp:=QU k m
  have hn:(nJ (rz m k true)).Nodup:=by
   rw[hp]
   split
   ·exact h
   ·rename_i hk
    rw[vcb]
    exact⟨h,by simp,λa ha b hb hab=>by simp at hb;subst hb;subst hab;exact hk ha⟩
  have hlen:(rz m k true).length<=m.length+1:=by
   have:=vbd List.length hp
   unfold nJ at this
   rw[vaO]at this
   rw[this]
   split<;>simp
  obtain⟨h1,h2,h3⟩:=Bt l (rz m k true) hn
  refine⟨h1,λx=>?_,?_⟩
  ·show x∈nJ (jp (rz m k true) l)↔_
   rw[h2,hp]
   split
   ·rename_i hk
    constructor
    ·rintro(h|h)
     ·exact .inl h
     ·exact .inr (vaZ _ h)
    ·rintro(h|h)
     ·exact .inl h
     ·rcases vaB.1 h with rfl|h
      ·exact .inl hk
      ·exact .inr h
   ·rw[vaw,va4,vaB,or_assoc]
  ·show(jp (rz m k true) l).length<=_
   simp only[vau]
   omega
def D3(l:List ai):List ai:=wC (nJ (jp [] l))
theorem UA{l:List ai}(h:l.Nodup):RH (wC l):=by
 have hn:(wC l).Nodup:=(mJ l).nodup_iff.2 h
 refine((nI l).and hn).imp ?_
 rintro a b ⟨h1,h2⟩
 show Op.bytesLess a b=true
 cases hb:Op.bytesLess a b with
 |true=>rfl
 |false=>exact absurd (pR hb h1) h2
theorem D4(l:List ai):RH (D3 l)/\∀x,x∈D3 l↔x∈l:=by
 obtain⟨h1,h2,_⟩:=Bt l [] (by simp[nJ])
 refine⟨UA h1,λx=>?_⟩
 unfold D3
 rw[(mJ _).mem_iff,h2]
 simp[nJ]
theorem qaJ(l:List ai):D3 l=U8 l []:=by
 obtain⟨a1,a2⟩:=D4 l
 obtain⟨b1,b2⟩:=Me l []
 exact DO a1 b1 λx=>by rw[a2,b2];simp
theorem wX(l:List ai):(D3 l).length<=l.length:=by
 obtain⟨_,_,h⟩:=Bt l [] (by simp[nJ])
 unfold D3
 rw[(mJ _).length_eq]
 unfold nJ
 rw[vaO]
 simpa using h
theorem Oh(l:List ai)(hl:l.length<=1073741824):tt (jp [] l)=some (D3 l):=by
 obtain⟨_,_,h⟩:=Bt l [] (by simp[nJ])
 unfold tt
 rw[vah (by simp only[vao];unfold bo;simp at h;omega)]
 rfl
def mV(e:ag):Bool:=e.Op==3||e.Op==5
theorem vC(e:ag):eX e=some (mV e):=by
 unfold eX mV
 rw[qaZ]
def iJ(o:Int)(n:ai)(ps:List am)(later:Bool):List ai:=if(o==7&&later)=true then[n]else if(o==6)=true then ps.map (·.Name)else[]
theorem Uy(e:ag)(i:Nat)(hl:e.Params.length<=1073741824):pN e (i:Int)=some (iJ e.Op e.Name e.Params (decide (0<i))):=by
 unfold pN px iJ
 rw[ZP]
 simp only[vaa]
 have h0:decide ((i:Int)>0)=decide (0<i):=by by_cases h:0<i<;>simp[h]
 rw[h0]
 by_cases h1:(e.Op==7&&decide (0<i))=true
 ·rw[vah h1,vah h1]
 ·rw[van h1,van h1]
  by_cases h2:(e.Op==6)=true
  ·rw[vah h2,vah h2,Qx _ hl];rfl
  ·rw[van h2,van h2]
theorem QR(o:Int)(n:ai)(ps:List am)(b:Bool):(iJ o n ps b).length<=1+ps.length:=by
 unfold iJ
 split
 ·simp
 ·split<;>simp
mutual
def wS(h:List ai):ag->List ag
 |⟨o,n,k,ks,ps,as1,ts⟩=>(if(mV ⟨o,n,k,ks,ps,as1,ts⟩&&!h.any λx=>x==n)=true then[⟨o,n,k,ks,ps,as1,ts⟩]else[])++(vW (h++iJ o n ps false) (h++iJ o n ps true) ks++wR h as1)
def WS(h:List ai):az->List ag
 |⟨_,ns,b⟩=>wS (h++ns) b
def vW(h0 h1:List ai):List ag->List ag
 |[]=>[]
 |e::l=>wS h0 e++vW h1 h1 l
def wR(h:List ai):List az->List ag
 |[]=>[]
 |a::l=>WS h a++wR h l
end
abbrev ID(h:List ai)(e:ag):List ag:=if(mV e&&!h.any λx=>x==e.Name)=true then[e]else[]
theorem TO(h:List ai)(e:ag):wS h e=ID h e++(vW (h++iJ e.Op e.Name e.Params false) (h++iJ e.Op e.Name e.Params true) e.Kids++wR h e.Alts):=by
 obtain⟨o,n,k,ks,ps,as1,ts⟩:=e
 rw[wS];rfl
theorem YB(h:List ai)(a:az):WS h a=wS (h++a.Names) a.Body:=by obtain⟨c,ns,b⟩:=a;rw[WS];rfl
theorem HF(h0 h1:List ai):∀(l:List ag) (i:Nat) (hi:i<l.length),vW h0 h1 (l.take (i+1))=vW h0 h1 (l.take i)++wS (if 0<i then h1 else h0) l[i]
 |x::l,0,hi=>by simp[vW]
 |x::l,i+1,hi=>by
  have hi':i<l.length:=by simpa using hi
  have ih:=HF h1 h1 l i hi'
  rw[List.take_succ_cons,List.take_succ_cons,vW,vW,ih,ite_self]
  simp
theorem HE(h:List ai):∀(l:List az) (i:Nat) (hi:i<l.length),wR h (l.take (i+1))=wR h (l.take i)++wS (h++l[i].Names) l[i].Body
 |x::l,0,hi=>by simp[wR,YB]
 |x::l,i+1,hi=>by
  have ih:=HE h l i (by simpa using hi)
  rw[List.take_succ_cons,List.take_succ_cons,wR,wR,ih]
  simp
mutual
theorem AG(h:List ai):∀(e:ag),(wS h e).length<=nE e
 |⟨o,n,k,ks,ps,as1,ts⟩=>by
  have h1:=Fy (h++iJ o n ps false) (h++iJ o n ps true) ks
  have h2:=LI h as1
  rw[wS,nE,vam,vam]
  have h3:(if(mV ⟨o,n,k,ks,ps,as1,ts⟩&&!h.any λx=>x==n)=true then[(⟨o,n,k,ks,ps,as1,ts⟩:ag)]else[]).length<=1:=by split<;>simp
  omega
theorem WT(h:List ai):∀(a:az),(WS h a).length<=nA a
 |⟨c,ns,b⟩=>by
  have h1:=AG (h++ns) b
  rw[WS,nA];omega
theorem Fy(h0 h1:List ai):∀(l:List ag),(vW h0 h1 l).length<=qk l
 |[]=>by simp[vW]
 |e::l=>by
  have h2:=AG h0 e
  have h3:=Fy h1 h1 l
  rw[vW,qk,vam];omega
theorem LI(h:List ai):∀(l:List az),(wR h l).length<=sT l
 |[]=>by simp[wR]
 |a::l=>by
  have h2:=WT h a
  have h3:=LI h l
  rw[wR,sT,vam];omega
end
theorem Q2(l:List ag)(i:Nat)(hi:i<l.length):qk (l.take (i+1))=qk (l.take i)+nE l[i]:=by
 have key:∀(a b:List ag),qk (a++b)=qk a+qk b:=by
  intro a b
  induction a with
  |nil=>simp[qk]
  |cons x a ih=>rw[va8,qk,qk,ih];omega
 rw[vay hi,key]
 simp[qk]
theorem Im(l:List ag)(i:Nat):qk (l.take i)<=qk l:=by
 have:∀(l:List ag) (i:Nat),qk (l.take i)<=qk l:=by
  intro l
  induction l with
  |nil=>intro i;simp
  |cons x l ih=>
   intro i
   cases i with
   |zero=>simp[qk]
   |succ i=>have:=ih i;simp only[List.take_succ_cons,qk];omega
 exact this l i
theorem NY(l:List az)(i:Nat)(hi:i<l.length):sT (l.take (i+1))=sT (l.take i)+nA l[i]:=by
 have key:∀(a b:List az),sT (a++b)=sT a+sT b:=by
  intro a b
  induction a with
  |nil=>simp[sT]
  |cons x a ih=>rw[va8,sT,sT,ih];omega
 rw[vay hi,key]
 simp[sT]
theorem WU(h:List ai)(e:ag)(hh:h.length<9223372036854775808):(eX e).bind (λr1=>if r1=true then(sU h e.Name).bind λr4=>some (decide (r4<0))else some false)=some (mV e&&!h.any λx=>x==e.Name):=by
 rw[vC,Nd _ _ hh]
 simp only[vaa,ZP,Uu]
theorem UO(e:ag)(h:List ai)(m:List (ai×Bool))(hq:h.length+nE e<=1073741824):gW e h m=some (jp m ((wS h e).map (·.Name))):=by
 refine nF (F:=gk) (λx=>nE x.1) (λx=>x.2.1.length+nE x.1<=1073741824) (λx=>jp x.2.2 ((wS x.2.1 x.1).map (·.Name))) (λR x hx ih=>?_) (e,h,m) hq (mL (by unfold d4;show nE e<=_;omega))
 obtain⟨e,h,m⟩:=x
 have hq:h.length+nE e<=1073741824:=hx
 have hn:=uM e
 have hpos:=PJ e
 have lk:=rB e.Kids
 have la:=rA e.Alts
 show ez (λe hidden k2=>R (e,hidden,k2)) e h m=some (jp m ((wS h e).map (·.Name)))
 unfold ez f6 f7
 rw[WU h e (by omega)]
 simp only[vaa]
 have hs:(if(mV e&&!h.any λx=>x==e.Name)=true then(pM e m).bind λr8=>some r8 else some m)=some (jp m ((ID h e).map (·.Name))):=by
  unfold ID
  by_cases hc:(mV e&&!h.any λx=>x==e.Name)=true
  ·rw[vah hc,vah hc]
   unfold pM
   rw[tp _ _ (by simp)];rfl
  ·rw[van hc,van hc];rfl
 rw[hs]
 simp only[vaa]
 have g1:∀m0,f8 (λe hidden k2=>R (e,hidden,k2)) h e e.Kids (e.Kids.length:Int) 0 m0=some (jp m0 ((vW (h++iJ e.Op e.Name e.Params false) (h++iJ e.Op e.Name e.Params true) e.Kids).map (·.Name))):=λm0=>by
  have g:=cZ e.Kids.length (λzz:Int×(List (ai×Bool))=>cc (λe hidden k2=>R (e,hidden,k2)) h e e.Kids (e.Kids.length:Int) zz.1 zz.2) (λi=>((i:Int),jp m0 ((vW (h++iJ e.Op e.Name e.Params false) (h++iJ e.Op e.Name e.Params true) (e.Kids.take i)).map (·.Name)))) (jp m0 ((vW (h++iJ e.Op e.Name e.Params false) (h++iJ e.Op e.Name e.Params true) e.Kids).map (·.Name))) (λi hi=>?_) ?_
  ·unfold f8;simpa[jp,vW]using g
  ·have hil:=QR e.Op e.Name e.Params (decide (0<i))
   have hm:=Fi (vaC hi)
   show cc _ h e e.Kids (e.Kids.length:Int) (i:Int) _=_
   unfold cc
   rw[vah (by simpa using hi),bE _ _ hi,vaa,pk _ (by omega),vaa,Uy e i (by omega),vaa,b9 (by omega),vaa]
   show(R _).bind _=_
   rw[ih (e.Kids[i],h++iJ e.Op e.Name e.Params (decide (0<i)),_) (ye (vaC hi)) (by show(h++iJ e.Op e.Name e.Params (decide (0<i))).length+nE e.Kids[i]<=1073741824;rw[vam];omega),vaa,HF _ _ _ _ hi,va5,g7,bR (by omega) (by omega)]
   by_cases h0:0<i<;>simp[h0]
  ·show cc _ h e e.Kids (e.Kids.length:Int) (e.Kids.length:Int) _=_
   unfold cc
   rw[van (by simp),vaG]
 have g2:∀m0,f9 (λe hidden k2=>R (e,hidden,k2)) h e.Alts (e.Alts.length:Int) 0 m0=some (jp m0 ((wR h e.Alts).map (·.Name))):=λm0=>by
  have g:=cZ e.Alts.length (λzz:Int×(List (ai×Bool))=>cd (λe hidden k2=>R (e,hidden,k2)) h e.Alts (e.Alts.length:Int) zz.1 zz.2) (λi=>((i:Int),jp m0 ((wR h (e.Alts.take i)).map (·.Name)))) (jp m0 ((wR h e.Alts).map (·.Name))) (λi hi=>?_) ?_
  ·unfold f9;simpa[jp,wR]using g
  ·have hm:=uL (vaC hi)
   have hma:=Il e.Alts[i]
   show cd _ h e.Alts (e.Alts.length:Int) (i:Int) _=_
   unfold cd
   rw[vah (by simpa using hi),bE _ _ hi,vaa,pk _ (by omega),vaa,b9 (by omega),vaa]
   show(R _).bind _=_
   rw[ih (e.Alts[i].Body,h++e.Alts[i].Names,_) (xY (vaC hi)) (by show(h++e.Alts[i].Names).length+nE e.Alts[i].Body<=1073741824;rw[vam];omega),vaa,HE _ _ _ hi,va5,g7,bR (by omega) (by omega)]
   rfl
  ·show cd _ h e.Alts (e.Alts.length:Int) (e.Alts.length:Int) _=_
   unfold cd
   rw[van (by simp),vaG]
 rw[g1]
 simp only[vaa]
 rw[g2]
 simp only[vaa]
 rw[TO,va5,va5,g7,g7]
def Aq(e:ag):List ai:=(wS [] e).map (·.Name)
theorem wA(e:ag):(Aq e).length<=nE e:=by unfold Aq;rw[vaO];exact AG [] e
theorem W2(e:ag)(he:nE e<=d4):qa e=some (D3 (Aq e)):=by
 have hB:nE e<=1073741824:=he
 have hl:=wA e
 unfold qa
 rw[N0]
 simp only[vaa]
 rw[UO e [] [] (by simpa using hB)]
 simp only[vaa]
 rw[show(wS [] e).map (·.Name)=Aq e from rfl,Oh _ (by omega)]
 rfl
def qo(b:Bool)(l:List ag):List ai:=(l.filter λx=>!b||x.Op==5).map (·.Name)
theorem uQ(b:Bool)(l m:List ag):qo b (l++m)=qo b l++qo b m:=by unfold qo;rw[List.filter_append,va5]
theorem wQ(b:Bool)(l:List ag):(qo b l).length<=l.length:=by unfold qo;rw[vaO];exact vcS _ _
theorem WN(l:List ag):qo false l=l.map (·.Name):=by
 unfold qo
 rw[show(l.filter λx=>!false||x.Op==5)=l from vcn.2 (λ_ _=>rfl)]
theorem RE(e:ag)(h:List ai)(i:Nat)(hl:h.length+e.Params.length+1<=1073741824):wn e (i:Int) h=some (h++iJ e.Op e.Name e.Params (decide (0<i))):=by
 unfold wn xT xU
 rw[b9 (by simp;omega)]
 simp only[vaa,ZP,vaR]
 have h0:decide ((i:Int)>0)=decide (0<i):=by by_cases h:0<i<;>simp[h]
 rw[h0]
 have key:∀out:List ai,out.length+e.Params.length<=1073741824->xV e out 0=some (out++if(e.Op==6)=true then e.Params.map (·.Name)else[]):=λout ho=>by
  unfold xV
  by_cases h6:(e.Op==6)=true
  ·have g:=cZ e.Params.length (λzz:(List ai)×Int=>eI e zz.1 zz.2) (λk=>(out++(e.Params.take k).map (·.Name),(k:Int))) (out++e.Params.map (·.Name)) (λk hk=>?_) ?_
   ·rw[vah h6];simpa using g
   ·show eI e _ (k:Int)=_
    unfold eI nz
    rw[vah (by simpa using hk)]
    simp only[vaa]
    rw[vah h6,bE _ _ hk,vaa,b9 (by simp;omega),vaa,bR (by omega) (by omega),vay hk,va5,<-vaL]
    rfl
   ·show eI e _ (e.Params.length:Int)=_
    unfold eI nz
    rw[van (by simp),vaG]
    simp
  ·have h6':(e.Op==6)=false:=by simpa using h6
   rw[van h6,va6]
   refine ki ?_
   show eI e out 0=_
   unfold eI nz
   rw[h6',ite_self]
   simp
 unfold iJ
 by_cases h1:(e.Op==7&&decide (0<i))=true
 ·have h6:(e.Op==6)=false:=by
   simp only[vad,vaP]at h1
   rw[beq_eq_false_iff_ne];omega
  rw[vah h1,vah h1,b9 (by simp;omega)]
  simp only[vaa]
  rw[key _ (by simp;omega),h6]
  simp
 ·rw[van h1,van h1]
  simp only[vaa]
  rw[key _ (by omega)]
  rfl
theorem U5(b:Bool)(e:ag)(h:List ai)(hq:h.length+nE e<=1073741824):Kt e h b=some (qo b (wS h e)):=by
 refine nF (F:=Dz) (λx=>nE x.1) (λx=>x.2.1.length+nE x.1<=1073741824) (λx=>qo x.2.2 (wS x.2.1 x.1)) (λR x hx ih=>?_) (e,h,b) hq (mL (by unfold d4;show nE e<=_;omega))
 obtain⟨e,h,b⟩:=x
 have hq:h.length+nE e<=1073741824:=hx
 have hn:=uM e
 have hpos:=PJ e
 have lk:=rB e.Kids
 have la:=rA e.Alts
 show xO (λe bound calls=>R (e,bound,calls)) e h b=some (qo b (wS h e))
 have hJ1:ur h b e=some (qo b (ID h e)):=by
  unfold ur zP qZ
  rw[mR _ _ (by omega)]
  simp only[vaa,jI]
  rw[b9 (by simp)]
  unfold ID mV
  generalize (h.any λk=>k==e.Name)=a
  by_cases h5:(e.Op==5)=true
  ·have h3:(e.Op==3)=false:=by rw[beq_eq_false_iff_ne];rw[vaP]at h5;omega
   cases a<;>cases b<;>simp[qo,h5,h3]
  ·by_cases h3:(e.Op==3)=true
   ·cases a<;>cases b<;>simp[qo,h5,h3]
   ·simp[qo,h5,h3]
 unfold xO
 rw[hJ1]
 simp only[vaa]
 have g1:∀m0:List ai,m0.length+qk e.Kids<=1073741824->zQ (λe bound calls=>R (e,bound,calls)) h b e m0 0=some (m0++qo b (vW (h++iJ e.Op e.Name e.Params false) (h++iJ e.Op e.Name e.Params true) e.Kids)):=λm0 hm0=>by
  have g:=cZ e.Kids.length (λzz:(List ai)×Int=>ii (λe bound calls=>R (e,bound,calls)) h b e zz.1 zz.2) (λi=>(m0++qo b (vW (h++iJ e.Op e.Name e.Params false) (h++iJ e.Op e.Name e.Params true) (e.Kids.take i)),(i:Int))) (m0++qo b (vW (h++iJ e.Op e.Name e.Params false) (h++iJ e.Op e.Name e.Params true) e.Kids)) (λi hi=>?_) ?_
  ·unfold zQ;simpa[qo,vW]using g
  ·have hil:=QR e.Op e.Name e.Params (decide (0<i))
   have hm:=Fi (vaC hi)
   have ht:=Q2 e.Kids i hi
   have ht2:=Im e.Kids (i+1)
   have hol:=Fy (h++iJ e.Op e.Name e.Params false) (h++iJ e.Op e.Name e.Params true) (e.Kids.take i)
   have hnl:=wQ b (vW (h++iJ e.Op e.Name e.Params false) (h++iJ e.Op e.Name e.Params true) (e.Kids.take i))
   show ii _ h b e _ (i:Int)=_
   unfold ii
   rw[vah (by simpa using hi),bE _ _ hi,vaa,RE e h i (by omega),vaa]
   show(R _).bind _=_
   rw[ih (e.Kids[i],h++iJ e.Op e.Name e.Params (decide (0<i)),b) (ye (vaC hi)) (by show(h++iJ e.Op e.Name e.Params (decide (0<i))).length+nE e.Kids[i]<=1073741824;rw[vam];omega),vaa,HF _ _ _ _ hi,uQ,bR (by omega) (by omega)]
   have hxl:(qo b (wS (h++iJ e.Op e.Name e.Params (decide (0<i))) e.Kids[i])).length<=nE e.Kids[i]:=vaH (wQ b _) (AG _ _)
   rw[b9 (by simp only[vam];omega)]
   by_cases h0:0<i<;>simp[h0]
  ·show ii _ h b e _ (e.Kids.length:Int)=_
   unfold ii
   rw[van (by simp),vaG]
 have g2:∀m0:List ai,m0.length+sT e.Alts<=1073741824->zR (λe bound calls=>R (e,bound,calls)) h b e m0 0=some (m0++qo b (wR h e.Alts)):=λm0 hm0=>by
  have g:=cZ e.Alts.length (λzz:(List ai)×Int=>ij (λe bound calls=>R (e,bound,calls)) h b e zz.1 zz.2) (λi=>(m0++qo b (wR h (e.Alts.take i)),(i:Int))) (m0++qo b (wR h e.Alts)) (λi hi=>?_) ?_
  ·unfold zR;simpa[qo,wR]using g
  ·have hm:=uL (vaC hi)
   have hma:=Il e.Alts[i]
   have ht:=NY e.Alts i hi
   have ht2:=Q0 e.Alts (i+1)
   have hol:=LI h (e.Alts.take i)
   have hnl:=wQ b (wR h (e.Alts.take i))
   show ij _ h b e _ (i:Int)=_
   unfold ij
   rw[vah (by simpa using hi),b9 (by simp;omega),vaa,bE _ _ hi,vaa,b9 (by simp only[vaR];omega),vaa]
   simp only[vaa,vaR]
   show(R _).bind _=_
   rw[ih (e.Alts[i].Body,h++e.Alts[i].Names,b) (xY (vaC hi)) (by show(h++e.Alts[i].Names).length+nE e.Alts[i].Body<=1073741824;rw[vam];omega),vaa,HE _ _ _ hi,uQ,bR (by omega) (by omega)]
   have hxl:(qo b (wS (h++e.Alts[i].Names) e.Alts[i].Body)).length<=nE e.Alts[i].Body:=vaH (wQ b _) (AG _ _)
   rw[b9 (by simp only[vam];omega)]
   simp
  ·show ij _ h b e _ (e.Alts.length:Int)=_
   unfold ij
   rw[van (by simp),vaG]
 have hsl:=wQ b (ID h e)
 have hsl2:(ID h e).length<=1:=by unfold ID;split<;>simp
 have hol:=Fy (h++iJ e.Op e.Name e.Params false) (h++iJ e.Op e.Name e.Params true) e.Kids
 have hnl:=wQ b (vW (h++iJ e.Op e.Name e.Params false) (h++iJ e.Op e.Name e.Params true) e.Kids)
 rw[g1 _ (by omega)]
 simp only[vaa]
 rw[g2 _ (by rw[vam];omega)]
 simp only[vaa]
 rw[TO,uQ,uQ,vaL]
theorem Xk(e:ag)(he:nE e<=400000000):Et e=some (U8 (Aq e) []):=by
 unfold Et
 rw[U5 false e [] (by simp;omega),WN]
 simp only[vaa]
 have hl:=wA e
 rw[show(wS [] e).map (·.Name)=Aq e from rfl,Oo _ _ (by omega) (by simp)]
 rfl
theorem Uv(f:ag->List ai)(l:List ag)(i:Nat)(h:i<l.length):(l.take (i+1)).flatMap f=(l.take i).flatMap f++f l[i]:=by
 rw[vay h,vbh];simp
theorem M8(f:ag->List ai)(l:List ag)(i:Nat):((l.take i).flatMap f).length<=(l.flatMap f).length:=by
 have e1:l.take i++l.drop i=l:=vce i l
 have:(l.flatMap f).length=((l.take i).flatMap f).length+((l.drop i).flatMap f).length:=by rw[<-vam,<-vbh,e1]
 omega
abbrev Mu:=ai->List ai->ai×List ai
def gf(fr:Mu):List ai->List af->List ai->List ai×List af×List ai
 |[],sc,u=>([],sc,u)
 |n::l,sc,u=>((fr n u).1::(gf fr l (sc++[⟨n,(fr n u).1⟩]) (fr n u).2).1,(gf fr l (sc++[⟨n,(fr n u).1⟩]) (fr n u).2).2)
def kT(sc:List af)(s:ai):Option ai:=(sc.reverse.find? λp=>p.old==s).map (·.new)
def kQ(fe:ai->ai)(fr:Mu)(o:Int)(n:ai)(sc:List af)(u:List ai):ai×List af×List ai:=
 if(o==3||o==5)=true then((kT sc n).getD (fe n),sc,u)else if(o==7)=true then((fr n u).1,sc++[⟨n,(fr n u).1⟩],(fr n u).2)else(n,sc,u)
def FQ(ps:List am)(ns:List ai):List am:=ps.zipWith (λp n=>⟨n,p.Type_⟩) ns
def lz(fr:Mu)(t:Bool)(ps:List am)(sc:List af)(u:List ai):List am×List af×List ai:=
 if t=true then(FQ ps (gf fr (ps.map (·.Name)) sc u).1,(gf fr (ps.map (·.Name)) sc u).2)else(ps,sc,u)
mutual
def xt(fe:ai->ai)(fr:Mu):ag->List af->List ai->ag×List ai
 |⟨o,n,k,ks,ps,as1,ts⟩,sc,u=>
  let a:=kQ fe fr o n sc u
  let b:=lz fr (o==6) ps a.2.1 a.2.2
  let c:=vQ fe fr ks (if(o==7)=true then sc else b.2.1) b.2.1 b.2.2
  let d:=ws fe fr as1 sc c.2
  (⟨o,a.1,k,c.1,b.1,d.1,ts⟩,d.2)
def KT(fe:ai->ai)(fr:Mu):az->List af->List ai->az×List ai
 |⟨c,ns,b⟩,sc,u=>
  let a:=gf fr ns sc u
  let r:=xt fe fr b a.2.1 a.2.2
  (⟨c,a.1,r.1⟩,r.2)
def vQ(fe:ai->ai)(fr:Mu):List ag->List af->List af->List ai->List ag×List ai
 |[],s0,s1,u=>([],u)
 |e::l,s0,s1,u=>
  let a:=xt fe fr e s0 u
  let b:=vQ fe fr l s1 s1 a.2
  (a.1::b.1,b.2)
def ws(fe:ai->ai)(fr:Mu):List az->List af->List ai->List az×List ai
 |[],sc,u=>([],u)
 |x::l,sc,u=>
  let a:=KT fe fr x sc u
  let b:=ws fe fr l sc a.2
  (a.1::b.1,b.2)
end
section
variable(fe:ai->ai)(fr:Mu)
abbrev uA(o:Int)(n:ai)(ps:List am)(sc:List af)(u:List ai):=lz fr (o==6) ps (kQ fe fr o n sc u).2.1 (kQ fe fr o n sc u).2.2
abbrev Vn(o:Int)(n:ai)(ps:List am)(sc:List af)(u:List ai):=if(o==7)=true then sc else(uA fe fr o n ps sc u).2.1
abbrev ND(o:Int)(n:ai)(ps:List am)(ks:List ag)(sc:List af)(u:List ai):=vQ fe fr ks (Vn fe fr o n ps sc u) (uA fe fr o n ps sc u).2.1 (uA fe fr o n ps sc u).2.2
theorem DI(o:Int)(n:ai)(k:Int)(ks:List ag)(ps:List am)(as1:List az)(ts:List al)(sc:List af)(u:List ai):xt fe fr ⟨o,n,k,ks,ps,as1,ts⟩ sc u=(⟨o,(kQ fe fr o n sc u).1,k,(ND fe fr o n ps ks sc u).1,(uA fe fr o n ps sc u).1,(ws fe fr as1 sc (ND fe fr o n ps ks sc u).2).1,ts⟩,(ws fe fr as1 sc (ND fe fr o n ps ks sc u).2).2):=by
 rw[xt]
theorem VQ(e:ag)(sc:List af)(u:List ai):xt fe fr e sc u=(⟨e.Op,(kQ fe fr e.Op e.Name sc u).1,e.N,(ND fe fr e.Op e.Name e.Params e.Kids sc u).1,(uA fe fr e.Op e.Name e.Params sc u).1,(ws fe fr e.Alts sc (ND fe fr e.Op e.Name e.Params e.Kids sc u).2).1,e.Types⟩,(ws fe fr e.Alts sc (ND fe fr e.Op e.Name e.Params e.Kids sc u).2).2):=by
 obtain⟨o,n,k,ks,ps,as1,ts⟩:=e
 rw[DI];rfl
theorem Ag(c:ai)(ns:List ai)(b:ag)(sc:List af)(u:List ai):KT fe fr ⟨c,ns,b⟩ sc u=(⟨c,(gf fr ns sc u).1,(xt fe fr b (gf fr ns sc u).2.1 (gf fr ns sc u).2.2).1⟩,(xt fe fr b (gf fr ns sc u).2.1 (gf fr ns sc u).2.2).2):=by
 rw[KT]
theorem VX(a:az)(sc:List af)(u:List ai):KT fe fr a sc u=(⟨a.Con,(gf fr a.Names sc u).1,(xt fe fr a.Body (gf fr a.Names sc u).2.1 (gf fr a.Names sc u).2.2).1⟩,(xt fe fr a.Body (gf fr a.Names sc u).2.1 (gf fr a.Names sc u).2.2).2):=by
 obtain⟨c,ns,b⟩:=a
 rw[Ag];rfl
theorem pH(s0 s1:List af)(u:List ai):vQ fe fr [] s0 s1 u=([],u):=by rw[vQ]
theorem mb(e:ag)(l:List ag)(s0 s1:List af)(u:List ai):vQ fe fr (e::l) s0 s1 u=((xt fe fr e s0 u).1::(vQ fe fr l s1 s1 (xt fe fr e s0 u).2).1,(vQ fe fr l s1 s1 (xt fe fr e s0 u).2).2):=by rw[vQ]
theorem pG(sc:List af)(u:List ai):ws fe fr [] sc u=([],u):=by rw[ws]
theorem ma(x:az)(l:List az)(sc:List af)(u:List ai):ws fe fr (x::l) sc u=((KT fe fr x sc u).1::(ws fe fr l sc (KT fe fr x sc u).2).1,(ws fe fr l sc (KT fe fr x sc u).2).2):=by rw[ws]
theorem DG:∀(l m:List ai) (sc:List af) (u:List ai),gf fr (l++m) sc u=((gf fr l sc u).1++(gf fr m (gf fr l sc u).2.1 (gf fr l sc u).2.2).1,(gf fr m (gf fr l sc u).2.1 (gf fr l sc u).2.2).2)
 |[],m,sc,u=>rfl
 |n::l,m,sc,u=>by
  rw[va8,gf,DG l m]
  rfl
theorem Qp(l:List ai)(i:Nat)(h:i<l.length)(sc:List af)(u:List ai):gf fr (l.take (i+1)) sc u=((gf fr (l.take i) sc u).1++[(fr l[i] (gf fr (l.take i) sc u).2.2).1],(gf fr (l.take i) sc u).2.1++[⟨l[i],(fr l[i] (gf fr (l.take i) sc u).2.2).1⟩],(fr l[i] (gf fr (l.take i) sc u).2.2).2):=by
 rw[vay h,DG]
 rfl
theorem KR:∀(l:List ag) (i:Nat) (h:i<l.length) (s0 s1:List af) (u:List ai),vQ fe fr (l.take (i+1)) s0 s1 u=((vQ fe fr (l.take i) s0 s1 u).1++[(xt fe fr l[i] (if 0<i then s1 else s0) (vQ fe fr (l.take i) s0 s1 u).2).1],(xt fe fr l[i] (if 0<i then s1 else s0) (vQ fe fr (l.take i) s0 s1 u).2).2)
 |x::l,0,h,s0,s1,u=>by
  simp only[List.take_succ_cons,List.take_zero,mb,pH]
  rfl
 |x::l,i+1,h,s0,s1,u=>by
  have ih:=KR l i (by simpa using h) s1 s1 (xt fe fr x s0 u).2
  rw[List.take_succ_cons,List.take_succ_cons,mb,mb,ih,ite_self]
  simp
theorem KQ:∀(l:List az) (i:Nat) (h:i<l.length) (sc:List af) (u:List ai),ws fe fr (l.take (i+1)) sc u=((ws fe fr (l.take i) sc u).1++[(KT fe fr l[i] sc (ws fe fr (l.take i) sc u).2).1],(KT fe fr l[i] sc (ws fe fr (l.take i) sc u).2).2)
 |x::l,0,h,sc,u=>by
  simp only[List.take_succ_cons,List.take_zero,ma,pG]
  rfl
 |x::l,i+1,h,sc,u=>by
  have ih:=KQ l i (by simpa using h) sc (KT fe fr x sc u).2
  rw[List.take_succ_cons,List.take_succ_cons,ma,ma,ih]
  simp
theorem Bv:∀(l:List ai) (sc:List af) (u:List ai),(gf fr l sc u).1.length=l.length
 |[],sc,u=>rfl
 |n::l,sc,u=>by rw[gf];simp only[vau];rw[Bv l]
theorem Td:∀(l:List ai) (sc:List af) (u:List ai),(gf fr l sc u).2.1.map (·.old)=sc.map (·.old)++l
 |[],sc,u=>by simp[gf]
 |n::l,sc,u=>by rw[gf];simp only[];rw[Td l];simp
theorem Af(l:List ai)(sc:List af)(u:List ai):(gf fr l sc u).2.1.length=sc.length+l.length:=by
 have:=vbd List.length (Td fr l sc u)
 simpa using this
theorem Xm(ps:List am)(ns:List ai)(h:ns.length=ps.length):(FQ ps ns).length=ps.length:=by unfold FQ;rw[vb7,h];simp
theorem Oc:∀(ps:List am),FQ ps (ps.map (·.Name))=ps
 |[]=>rfl
 |p::ps=>by
  have:=Oc ps
  unfold FQ at *
  rw[vaz,List.zipWith_cons_cons,this]
theorem O1(t:Bool)(ps:List am)(sc:List af)(u:List ai):(lz fr t ps sc u).1.length=ps.length:=by
 unfold lz
 split
 ·exact Xm ps _ (by rw[Bv];simp)
 ·rfl
theorem EY(t:Bool)(ps:List am)(sc:List af)(u:List ai):(lz fr t ps sc u).2.1.length<=sc.length+ps.length:=by
 unfold lz
 split
 ·have:=Af fr (ps.map (·.Name)) sc u;simp at this;simp only[];omega
 ·simp
theorem Qq(o:Int)(n:ai)(sc:List af)(u:List ai):(kQ fe fr o n sc u).2.1.length<=sc.length+1:=by
 unfold kQ
 split
 ·simp
 ·split<;>simp
end
section
variable{fe:ai->ai}{fr:Mu}
theorem VO{I:List ai->Prop}(hI:∀s u,I u->I (fr s u).2):∀(l:List ai) (sc:List af) (u:List ai),I u->I (gf fr l sc u).2.2
 |[],sc,u,h=>h
 |n::l,sc,u,h=>by rw[gf];exact VO hI l _ _ (hI n u h)
theorem Zb{I:List ai->Prop}(hI:∀s u,I u->I (fr s u).2)(o:Int)(n:ai)(sc:List af)(u:List ai)(h:I u):I (kQ fe fr o n sc u).2.2:=by
 unfold kQ
 split
 ·exact h
 ·split
  ·exact hI n u h
  ·exact h
theorem qbx{I:List ai->Prop}(hI:∀s u,I u->I (fr s u).2)(o:Int)(n:ai)(ps:List am)(sc:List af)(u:List ai)(h:I u):I (uA fe fr o n ps sc u).2.2:=by
 unfold uA lz
 split
 ·exact VO hI _ _ _ (Zb hI _ _ _ _ h)
 ·exact Zb hI _ _ _ _ h
mutual
theorem VP{I:List ai->Prop}(hI:∀s u,I u->I (fr s u).2):∀(e:ag) (sc:List af) (u:List ai),I u->I (xt fe fr e sc u).2
 |⟨o,n,k,ks,ps,as1,ts⟩,sc,u,h=>by
  rw[DI]
  exact VM hI as1 _ _ (VT hI ks _ _ _ (qbx hI o n ps sc u h))
theorem qby{I:List ai->Prop}(hI:∀s u,I u->I (fr s u).2):∀(a:az) (sc:List af) (u:List ai),I u->I (KT fe fr a sc u).2
 |⟨c,ns,b⟩,sc,u,h=>by
  rw[Ag]
  exact VP hI b _ _ (VO hI ns sc u h)
theorem VT{I:List ai->Prop}(hI:∀s u,I u->I (fr s u).2):∀(l:List ag) (s0 s1:List af) (u:List ai),I u->I (vQ fe fr l s0 s1 u).2
 |[],s0,s1,u,h=>by rw[pH];exact h
 |e::l,s0,s1,u,h=>by
  rw[mb]
  exact VT hI l _ _ _ (VP hI e _ _ h)
theorem VM{I:List ai->Prop}(hI:∀s u,I u->I (fr s u).2):∀(l:List az) (sc:List af) (u:List ai),I u->I (ws fe fr l sc u).2
 |[],sc,u,h=>by rw[pG];exact h
 |x::l,sc,u,h=>by
  rw[ma]
  exact VM hI l _ _ (qby hI x _ _ h)
end
theorem UF{sc:List af}{s t:ai}(h:kT sc s=some t):∃p∈sc,p.old=s/\p.new=t:=by
 unfold kT at h
 rw[vaJ]at h
 obtain⟨p,hp,rfl⟩:=h
 have h1:=vbj hp
 have h2:=vbH hp
 exact⟨p,vbD.1 h1,by simpa using h2,rfl⟩
end
end Go.Proofs.YtkdahfeiedaahaaGreatDoor
namespace Go.Proofs.YtkdahfeiedaahaaGreatDoor
open Go
set_option linter.unusedVariables false
set_option linter.unusedSimpArgs false
section
variable{fe:ai->ai}{fr:Mu}
theorem DH(hl:∀s u,(fr s u).2.length<=u.length+1):∀(l:List ai) (sc:List af) (u:List ai),(gf fr l sc u).2.2.length<=u.length+l.length
 |[],sc,u=>by simp[gf]
 |n::l,sc,u=>by
  have h1:=hl n u
  have h2:=DH hl l (sc++[⟨n,(fr n u).1⟩]) (fr n u).2
  rw[gf]
  simp only[vau]
  omega
theorem O0(hl:∀s u,(fr s u).2.length<=u.length+1)(o:Int)(n:ai)(sc:List af)(u:List ai):(kQ fe fr o n sc u).2.2.length<=u.length+1:=by
 have h1:=hl n u
 unfold kQ
 split
 ·simp
 ·split
  ·exact h1
  ·simp
theorem O2(hl:∀s u,(fr s u).2.length<=u.length+1)(t:Bool)(ps:List am)(sc:List af)(u:List ai):(lz fr t ps sc u).2.2.length<=u.length+ps.length:=by
 have h1:=DH hl (ps.map (·.Name)) sc u
 rw[vaO]at h1
 unfold lz
 split
 ·exact h1
 ·simp
theorem RV(hl:∀s u,(fr s u).2.length<=u.length+1)(o:Int)(n:ai)(ps:List am)(sc:List af)(u:List ai):(uA fe fr o n ps sc u).2.2.length<=u.length+1+ps.length:=by
 have h1:=O0 (fe:=fe) hl o n sc u
 have h2:=O2 hl (o==6) ps (kQ fe fr o n sc u).2.1 (kQ fe fr o n sc u).2.2
 show(lz fr (o==6) ps (kQ fe fr o n sc u).2.1 (kQ fe fr o n sc u).2.2).2.2.length<=_
 omega
mutual
theorem OY(hl:∀s u,(fr s u).2.length<=u.length+1):∀(e:ag) (sc:List af) (u:List ai),(xt fe fr e sc u).2.length<=u.length+nE e
 |⟨o,n,k,ks,ps,as1,ts⟩,sc,u=>by
  have h1:=RV (fe:=fe) hl o n ps sc u
  have h2:=G5 hl ks (Vn fe fr o n ps sc u) (uA fe fr o n ps sc u).2.1 (uA fe fr o n ps sc u).2.2
  have h3:=RS hl as1 sc (ND fe fr o n ps ks sc u).2
  rw[DI,nE]
  simp only[]
  have h2':(ND fe fr o n ps ks sc u).2.length<=(uA fe fr o n ps sc u).2.2.length+qk ks:=h2
  omega
theorem RX(hl:∀s u,(fr s u).2.length<=u.length+1):∀(a:az) (sc:List af) (u:List ai),(KT fe fr a sc u).2.length<=u.length+nA a
 |⟨c,ns,b⟩,sc,u=>by
  have h1:=DH hl ns sc u
  have h2:=OY hl b (gf fr ns sc u).2.1 (gf fr ns sc u).2.2
  rw[Ag,nA]
  simp only[]
  omega
theorem G5(hl:∀s u,(fr s u).2.length<=u.length+1):∀(l:List ag) (s0 s1:List af) (u:List ai),(vQ fe fr l s0 s1 u).2.length<=u.length+qk l
 |[],s0,s1,u=>by rw[pH];simp
 |e::l,s0,s1,u=>by
  have h1:=OY hl e s0 u
  have h2:=G5 hl l s1 s1 (xt fe fr e s0 u).2
  rw[mb,qk]
  simp only[]
  omega
theorem RS(hl:∀s u,(fr s u).2.length<=u.length+1):∀(l:List az) (sc:List af) (u:List ai),(ws fe fr l sc u).2.length<=u.length+sT l
 |[],sc,u=>by rw[pG];simp
 |x::l,sc,u=>by
  have h1:=RX hl x sc u
  have h2:=RS hl l sc (KT fe fr x sc u).2
  rw[ma,sT]
  simp only[]
  omega
end
end
def iS(u:List ai)(s:ai):ai:=if u.contains s=true then im u s (u.length+1) 1 else s
theorem Ap(u:List ai)(s:ai)(j:Nat):∀(k n:Nat),(∃N,n<=N/\N<n+k/\s++Lib.decDigits N∉u)->im u s (k+j) n=im u s k n/\im u s k n∉u
 |0,n,⟨N,h1,h2,_⟩=>by omega
 | k + 1,n,⟨N,h1,h2,h3⟩ => by
  rw[show k+1+j=(k+j)+1 by omega,im,im]
  by_cases hc:u.contains (s++Lib.decDigits n)=true
  ·rw[vah hc,vah hc]
   have hne:n≠N:=by
    rintro rfl
    exact h3 (by simpa using hc)
   exact Ap u s j k (n+1) ⟨N,by omega,by omega,h3⟩
  ·rw[van hc,van hc]
   exact⟨rfl,by simpa using hc⟩
theorem Sq(u:List ai)(s:ai):iS u s∉u:=by
 unfold iS
 split
 ·obtain⟨N,h1,h2,h3⟩:=Lh u s
  exact(Ap u s 0 (u.length+1) 1 ⟨N,h1,by omega,h3⟩).2
 ·rename_i h
  simpa using h
theorem mU{u:List ai}(h:u.length<=100000000)(s:ai):qi u s=iS u s:=by
 obtain⟨N,h1,h2,h3⟩:=Lh u s
 have:=(Ap u s (100000001 - (u.length+1)) (u.length+1) 1 ⟨N,h1,by omega,h3⟩).1
 rw[show u.length+1+(100000001 - (u.length+1))=100000001 by omega]at this
 unfold qi iS
 rw[this]
def dC:Mu:=λs u=>(iS u s,u++[iS u s])
theorem sO(s:ai)(u:List ai):(dC s u).2.length<=u.length+1:=by simp[dC]
theorem K5:∀(k u:Nat),u<10 ^ (k+1)->(Lib.decDigits u).length<=k+1
 |0,u,h=>by
  rw[Lib.decDigits,dif_pos (by omega)];simp
 | k + 1,u,h => by
  rw[Lib.decDigits]
  by_cases h10:u<10
  ·rw[dif_pos h10];simp
  ·rw[dif_neg h10]
   have:=K5 k (u / 10) (by
    have:10 ^ (k+1+1)=10 ^ (k+1) * 10:=Nat.pow_succ ..
    omega)
   simp only[vam,List.length_singleton]
   omega
theorem Ig(used:List ai)(base:ai):∀(k n:Nat),n+k<=100000002->(im used base k n).length<=base.length+10
 |0,n,_=>by rw[im];simp
 | k + 1,n,h => by
  rw[im]
  split
  ·exact Ig used base k (n+1) (by omega)
  ·rw[vam]
   have:=K5 8 n (by omega)
   omega
theorem Ih(used:List ai)(base:ai):(qi used base).length<=base.length+10:=by
 unfold qi
 split
 ·exact Ig used base 100000001 1 (by omega)
 ·omega
theorem Rg{ns:List ai}{s:ai}(h:s∈ns):s.length<=bD (ns.map cS):=by
 have h2:=FH (vag.2 ⟨s,h,rfl⟩:cS s∈ns.map cS)
 simp only[cS,fN,pm]at h2
 omega
theorem Ol(nm:ai):∀(l:List af) (s:ai×Bool),S3 (wz nm) l s=some (match l.find? (λp=>p.old==nm)with|some p=>(false,(p.new,true))|none=>(true,s))
 |[],s=>rfl
 |p::l,s=>by
  rw[S3,List.find?_cons]
  unfold wz
  cases h:(p.old==nm)with
  |true=>rfl
  |false=>exact Ol nm l s
theorem Tu(sc:List af)(nm:ai)(h:sc.length<4611686018427387904):ng sc nm=some ((kT sc nm).getD [],(kT sc nm).isSome):=by
 unfold ng kT
 rw[vah (by simpa using h),Ol]
 cases sc.reverse.find? (λp=>p.old==nm)<;>rfl
theorem ww{R:aw->Option aw}(l:List aw)(hl:l.length<=1073741824)(h:∀x∈l,R x=some x):ff R l=some l:=by
 unfold ff mj
 rw[NW l hl (λi s=>(s,i)) (λzz:(List aw)×Int=>gI R l (l.length:Int) zz.1 zz.2) R id id (λ_ _=>rfl) h]
 simp
theorem E7(p:aw)(hp:nP p<=d4):je p=some p:=by
 refine nF (F:=mP) nP (λx=>nP x<=d4) id (λR x hx ih=>?_) p hp (mL hp)
 have hlen:=QV x
 show jM (λp=>R p) x=some x
 unfold jM
 rw[ww x.Kids (by unfold d4 at hx;omega) (λy hy=>ih y (PG hy) (vaH (vbL (PG hy)) hx)),vaa,Uq]
theorem E8{R:List al->Option (List al)}(t:al)(ht:Ni t)(hR:R t.Args=some t.Args):dT R t=some t:=by
 have h1:=ry t
 have h2:Au t<=1073741824:=ht.1
 obtain⟨a1,a2,_⟩:=(KP _ t).1 ht.2
 unfold dT
 rw[hR,pk _ (by omega),E7 _ a1,ww _ (by omega) (λx hx=>E7 x (a2 x hx))]
 simp only[vaa,Ur]
theorem CM(l:List al)(h:iC l<=d4/\∀t∈l,Ni t):cr l=some l:=by
 refine nF (F:=jh) iC (λl=>iC l<=d4/\∀t∈l,Ni t) id (λR l hx ih=>?_) l h (mL h.1)
 have hB:iC l<=1073741824:=hx.1
 have hl:=Hj l
 show fX (λa=>R a) l=some l
 unfold fX mm
 have hone:∀t∈l,dT (λa=>R a) t=some t:=λt ht=>by
  have h1:=Hk ht
  have h2:=ry t
  exact E8 t (hx.2 t ht) (ih t.Args (by omega) ⟨by unfold d4;omega,λa ha=>JX (hx.2 t ht) ha⟩)
 rw[NW l (by omega) (λi s=>(s,i)) (λzz:(List al)×Int=>gK (λa=>R a) l (l.length:Int) zz.1 zz.2) (dT λa=>R a) id id (λ_ _=>rfl) hone]
 simp
theorem rq(t:al)(ht:Ni t):dT cr t=some t:=by
 have h1:=ry t
 have h2:Au t<=1073741824:=ht.1
 exact E8 t ht (CM t.Args ⟨by unfold d4;omega,λa ha=>JX ht ha⟩)
theorem Ok{e:ag}(h:Ca e):cr e.Types=some e.Types:=by
 refine CM _ ⟨?_,λt ht=>LK h ht⟩
 have h1:=Lv e.Types
 have h2:=jV e
 have h3:fN (ae e)<=d4:=h
 omega
def jv(e:ag):List ai:=(if(mV e||e.Op==7)=true then[e.Name]else[])++((if(e.Op==6)=true then e.Params.map (·.Name)else[])++e.Alts.flatMap (·.Names))
def oI(e:ag):List ai:=(gT e).flatMap jv
theorem Uf(e:ag):(jv e).length<=1+e.Params.length+(e.Alts.flatMap (·.Names)).length:=by
 unfold jv
 have h1:(if(mV e||e.Op==7)=true then[e.Name]else[]).length<=1:=by split<;>simp
 have h2:(if(e.Op==6)=true then e.Params.map (·.Name)else[]).length<=e.Params.length:=by split<;>simp
 rw[vam,vam]
 omega
mutual
theorem sH:∀(e:ag),((gT e).flatMap jv).length<=nE e
 |⟨o,n,k,ks,ps,as1,ts⟩=>by
  have h1:=Qm ks
  have h2:=Ql as1
  have h3:=Uf ⟨o,n,k,ks,ps,as1,ts⟩
  simp only[ag.Params,ag.Alts]at h3
  rw[gT,nE,vbP,vbh,vam,vam]
  omega
theorem VE:∀(a:az),((DW a).flatMap jv).length+a.Names.length+1<=nA a
 |⟨c,ns,b⟩=>by
  have h1:=sH b
  rw[DW,nA]
  show _+ns.length+1<=_
  omega
theorem Qm:∀(l:List ag),((vV l).flatMap jv).length<=qk l
 |[]=>by simp[vV]
 |e::l=>by
  have h1:=sH e
  have h2:=Qm l
  rw[vV,qk,vbh,vam]
  omega
theorem Ql:∀(l:List az),((vU l).flatMap jv).length+(l.flatMap (·.Names)).length<=sT l
 |[]=>by simp[vU]
 |a::l=>by
  have h1:=VE a
  have h2:=Ql l
  rw[vU,sT,vbh,vbP,vam,vam]
  omega
end
theorem XW(x:ag)(m:List (ai×Bool))(hx:nE x<=1073741824):ew x m=some (true,jp m (jv x)):=by
 have l2:=Bu x
 have l3:=AH x
 have h1:∀m,fV x m=some (jp m (if(mV x||x.Op==7)=true then[x.Name]else[])):=λm=>by
  unfold fV jc
  rw[vC,vaa,qaZ,vaa]
  split
  ·rw[tp _ _ (by simp)];rfl
  ·rfl
 have h3:∀m,fW x m=some (jp m (if(x.Op==6)=true then x.Params.map (·.Name)else[])):=λm=>by
  unfold fW
  split
  ·rw[Qx _ (by omega),vaa,tp _ _ (by simp;omega)];rfl
  ·rfl
 have h4:∀m,jd x.Alts (x.Alts.length:Int) 0 m=some (jp m (x.Alts.flatMap (·.Names))):=λm=>by
  unfold jd
  have g:=cZ x.Alts.length (λzz:Int×(List (ai×Bool))=>cK x.Alts (x.Alts.length:Int) zz.1 zz.2) (λi=>((i:Int),jp m ((x.Alts.take i).flatMap (·.Names)))) (jp m (x.Alts.flatMap (·.Names))) (λi hi=>?_) ?_
  ·simpa[jp]using g
  ·have hm:=NB (vaC hi)
   show cK x.Alts (x.Alts.length:Int) (i:Int) _=_
   unfold cK
   rw[vah (by simpa using hi),bE _ _ hi,vaa,tp _ _ (by omega),vaa,bR (by omega) (by omega),vay hi,vbh,g7]
   simp
  ·show cK x.Alts (x.Alts.length:Int) (x.Alts.length:Int) _=_
   unfold cK
   rw[van (by simp),vaG]
 unfold ew
 rw[h1]
 simp only[vaa]
 rw[h3]
 simp only[vaa]
 rw[h4]
 simp only[vaa]
 unfold jv
 rw[g7,g7]
theorem ZO(e:ag)(he:Ca e):yy e=some (D3 (oI e)):=by
 have hB:nE e<=1073741824:=C8 he
 have hl:=sH e
 unfold yy
 rw[N0]
 simp only[vaa]
 rw[zn e [] (C8 he),NN (λm x=>jp m (jv x)) (gT e) [] (λx hx m=>XW x m (C8 (WW he hx)))]
 simp only[vaa]
 have:∀(l:List ag) (m:List (ai×Bool)),l.foldl (λm x=>jp m (jv x)) m=jp m (l.flatMap jv):=by
  intro l
  induction l with
  |nil=>intro m;rfl
  |cons x l ih=>intro m;rw[List.foldl_cons,ih,vbP,g7]
 rw[this,show(gT e).flatMap jv=oI e from rfl,Oh _ (by unfold oI;omega)]
 rfl
theorem OZ{fe:ai->ai}{fr:Mu}:∀(l:List ag) (s0 s1:List af) (u:List ai),(vQ fe fr l s0 s1 u).1.length=l.length
 |[],s0,s1,u=>by rw[pH]
 |e::l,s0,s1,u=>by rw[mb];simp[OZ l]
theorem OQ{fe:ai->ai}{fr:Mu}:∀(l:List az) (sc:List af) (u:List ai),(ws fe fr l sc u).1.length=l.length
 |[],sc,u=>by rw[pG]
 |e::l,sc,u=>by rw[ma];simp[OQ l]
def Jo(fr:Mu)(t:Bool)(p:am)(sc:List af)(u:List ai):am×List af×List ai:=
 if t=true then(⟨(fr p.Name u).1,p.Type_⟩,sc++[⟨p.Name,(fr p.Name u).1⟩],(fr p.Name u).2)else(p,sc,u)
theorem VV(fr:Mu)(t:Bool)(l:List am)(p:am)(sc:List af)(u:List ai):lz fr t (l++[p]) sc u=((lz fr t l sc u).1++[(Jo fr t p (lz fr t l sc u).2.1 (lz fr t l sc u).2.2).1],(Jo fr t p (lz fr t l sc u).2.1 (lz fr t l sc u).2.2).2):=by
 unfold lz Jo
 cases t with
 |false=>rfl
 |true=>
  simp only[if_true]
  rw[va5,DG]
  simp only[vaz,vbr,gf]
  have hl:l.length=(gf fr (l.map (·.Name)) sc u).1.length:=by rw[Bv,vaO]
  unfold FQ
  rw[vc4 hl]
  rfl
theorem Qr(fr:Mu)(t:Bool)(l:List am)(i:Nat)(h:i<l.length)(sc:List af)(u:List ai):lz fr t (l.take (i+1)) sc u=((lz fr t (l.take i) sc u).1++[(Jo fr t l[i] (lz fr t (l.take i) sc u).2.1 (lz fr t (l.take i) sc u).2.2).1],(Jo fr t l[i] (lz fr t (l.take i) sc u).2.1 (lz fr t (l.take i) sc u).2.2).2):=by
 rw[vay h,VV]
theorem Tg(fr:Mu)(t:Bool)(sc:List af)(u:List ai):lz fr t [] sc u=([],sc,u):=by
 unfold lz
 cases t<;>rfl
def io(s:ai):ai:=s
theorem KN(s:ai)(a:List af)(u:List ai)(hu:u.length<=100000000)(hs:s.length<=1073741824):j0 s a u=some (dC s u):=by
 unfold j0
 rw[(vZ u s hu (by omega)).1,vaa,mU hu,b9 (by simp;omega),vaa]
 rfl
theorem KW(s:ai)(a:List af)(u:List ai)(sc:List af)(hu:u.length<=100000000)(hs:s.length<=1073741824)(hc:sc.length<=100000000):cz s a u sc=some ((dC s u).1,(dC s u).2,sc++[⟨s,(dC s u).1⟩]):=by
 unfold cz
 rw[KN s a u hu hs,vaa,b9 (by simp;omega),vaa]
theorem RY(p:am)(t:Bool)(c:List af)(u:List ai)(sc:List af)(hu:u.length<=100000000)(hs:p.Name.length<=1073741824)(hc:sc.length<=100000000)(ht:Ni p.Type_):bX p t c u sc=some ((Jo dC t p sc u).1,(Jo dC t p sc u).2.2,(Jo dC t p sc u).2.1):=by
 unfold bX cu Jo
 cases t with
 |false=>
  simp only[vaD,if_false,vaa]
  rw[rq _ ht,vaa]
 |true=>
  simp only[if_true]
  rw[KW _ _ _ _ hu hs hc]
  simp only[vaa]
  rw[rq _ ht,vaa]
theorem Uo(l:List am)(t:Bool)(c:List af)(u:List ai)(sc:List af)(hu:u.length+l.length<=100000000)(hc:sc.length+l.length<=100000000)(hs:∀p∈l,p.Name.length<=1073741824/\Ni p.Type_):bI l t c u sc=some ((lz dC t l sc u).1,(lz dC t l sc u).2.2,(lz dC t l sc u).2.1):=by
 unfold bI db
 have g:=cZ l.length (λ(zz:(List am)×Int×(List ai)×(List af))=>aJ t l (l.length:Int) c zz.1 zz.2.1 zz.2.2.1 zz.2.2.2) (λi=>((lz dC t (l.take i) sc u).1,(i:Int),(lz dC t (l.take i) sc u).2.2,(lz dC t (l.take i) sc u).2.1)) ((lz dC t l sc u).1,(lz dC t l sc u).2.2,(lz dC t l sc u).2.1) (λi hi=>?_) ?_
 ·simp only[List.take_zero,Tg]at g
  rw[show((0:Nat):Int)=0 from rfl]at g
  rw[g,vaa]
 ·have hm:=vaC hi
  have hul:=O2 (fr:=dC) sO t (l.take i) sc u
  have hsl:=EY (fr:=dC) t (l.take i) sc u
  have hpl:=O1 (fr:=dC) t (l.take i) sc u
  rw[vaQ]at hul hsl hpl
  show aJ t l (l.length:Int) c (lz dC t (l.take i) sc u).1 (i:Int) (lz dC t (l.take i) sc u).2.2 (lz dC t (l.take i) sc u).2.1=_
  unfold aJ
  rw[vah (by simpa using hi),bE _ _ hi,vaa,RY _ _ _ _ _ (by omega) (hs _ hm).1 (by omega) (hs _ hm).2]
  simp only[vaa]
  rw[b9 (by simp only[vau,List.length_nil];omega),vaa,bR (by omega) (by omega),Qr _ _ _ _ hi]
  rfl
 ·show aJ t l (l.length:Int) c _ (l.length:Int) _ _=_
  unfold aJ
  rw[van (by simp),vaG]
theorem WK(e:ag)(ts:List al)(sc:List af)(u:List ai)(hu:u.length<=100000000)(hs:e.Name.length<=1073741824)(hc:sc.length<=100000000):cY sc u e.Op e.Name e.N e.Kids e.Params e.Alts ts sc=some ((kQ io dC e.Op e.Name sc u).2.2,(kQ io dC e.Op e.Name sc u).1,(kQ io dC e.Op e.Name sc u).2.1):=by
 unfold cY kQ
 rw[vC,vaa,show mV ⟨e.Op,e.Name,e.N,e.Kids,e.Params,e.Alts,ts⟩=(e.Op==3||e.Op==5)from rfl]
 by_cases h3:(e.Op==3||e.Op==5)=true
 ·rw[vah h3,vah h3,Tu _ _ (by omega),vaa]
  cases kT sc e.Name with
  |none=>
   simp only[Option.isSome_none,vaD,if_false]
   rfl
  |some s=>simp only[Option.isSome_some,if_true];rfl
 ·rw[van h3,van h3]
  by_cases h7:(e.Op==7)=true
  ·rw[vah h7,vah h7,KW _ _ _ _ hu hs hc]
   rfl
  ·rw[van h7,van h7]
theorem VF(ns:List ai)(sc:List af)(u:List ai)(hu:u.length+ns.length<=100000000)(hc:sc.length+ns.length<=100000000)(hs:∀s∈ns,s.length<=1073741824):dL sc ns (ns.length:Int) sc [] 0 u=some ((gf dC ns sc u).2.1,(gf dC ns sc u).1,(gf dC ns sc u).2.2):=by
 unfold dL
 have g:=cZ ns.length (λ(zz:(List af)×(List ai)×Int×(List ai))=>bg sc ns (ns.length:Int) zz.1 zz.2.1 zz.2.2.1 zz.2.2.2) (λi=>((gf dC (ns.take i) sc u).2.1,(gf dC (ns.take i) sc u).1,(i:Int),(gf dC (ns.take i) sc u).2.2)) ((gf dC ns sc u).2.1,(gf dC ns sc u).1,(gf dC ns sc u).2.2) (λi hi=>?_) ?_
 ·simpa[gf]using g
 ·have hul:=DH (fr:=dC) sO (ns.take i) sc u
  have hsl:=Af (fr:=dC) (ns.take i) sc u
  have hpl:=Bv (fr:=dC) (ns.take i) sc u
  rw[vaQ]at hul hsl hpl
  show bg sc ns (ns.length:Int) (gf dC (ns.take i) sc u).2.1 (gf dC (ns.take i) sc u).1 (i:Int) (gf dC (ns.take i) sc u).2.2=_
  unfold bg
  rw[vah (by simpa using hi),bE _ _ hi,vaa,KN _ _ _ (by omega) (hs _ (vaC hi))]
  simp only[vaa]
  rw[b9 (by simp only[vau,List.length_nil];omega),vaa,b9 (by simp only[vau,List.length_nil];omega),vaa,bR (by omega) (by omega),Qp _ _ _ hi]
  rfl
 ·show bg sc ns (ns.length:Int) _ _ (ns.length:Int) _=_
  unfold bg
  rw[van (by simp),vaG]
theorem VI{R:ag->List af->List ai->Option (ag×List ai)}(a:az)(sc:List af)(u:List ai)(hu:u.length+a.Names.length<=100000000)(hc:sc.length+a.Names.length<=100000000)(hs:∀s∈a.Names,s.length<=1073741824)
  (hR:R a.Body (gf dC a.Names sc u).2.1 (gf dC a.Names sc u).2.2=some (xt io dC a.Body (gf dC a.Names sc u).2.1 (gf dC a.Names sc u).2.2)):
  cC R a sc u=some (KT io dC a sc u):=by
 unfold cC
 rw[pk _ (by omega),vaa,VF _ _ _ hu hc hs]
 simp only[vaa]
 rw[hR]
 simp only[vaa]
 rw[VX]
theorem Wv{R:ag->List af->List ai->Option (ag×List ai)}(ks:List ag)(o:Int)(sc S1:List af)(u:List ai)(hk:ks.length<=100000000)
  (hR:∀(i:Nat) (h:i<ks.length) (s:List af) (v:List ai),s=sc\/s=S1->v.length<=u.length+qk (ks.take i)->R ks[i] s v=some (xt io dC ks[i] s v)):
  d6 R sc ks (ks.length:Int) o S1 [] 0 u=some (vQ io dC ks (if(o==7)=true then sc else S1) S1 u):=by
 generalize hS0:(if(o==7)=true then sc else S1)=S0
 have h7:(o==7)=true->S0=sc:=λh=>by rw[<-hS0,vah h]
 have h6:¬(o==7)=true->S0=S1:=λh=>by rw[<-hS0,van h]
 unfold d6
 have g:=cZ ks.length (λ(zz:(List ag)×Int×(List ai))=>bw R sc ks (ks.length:Int) o S1 zz.1 zz.2.1 zz.2.2) (λi=>((vQ io dC (ks.take i) S0 S1 u).1,(i:Int),(vQ io dC (ks.take i) S0 S1 u).2)) (vQ io dC ks S0 S1 u) (λi hi=>?_) ?_
 ·simp only[List.take_zero,pH]at g
  rw[show((0:Nat):Int)=0 from rfl]at g
  exact g
 ·have t3:=G5 (fe:=io) (fr:=dC) sO (ks.take i) S0 S1 u
  have t4:=OZ (fe:=io) (fr:=dC) (ks.take i) S0 S1 u
  have t5:=KR io dC ks i hi S0 S1 u
  rw[vaQ]at t4
  show bw R sc ks (ks.length:Int) o S1 (vQ io dC (ks.take i) S0 S1 u).1 (i:Int) (vQ io dC (ks.take i) S0 S1 u).2=some (.inl ((vQ io dC (ks.take (i+1)) S0 S1 u).1,((i+1:Nat):Int),(vQ io dC (ks.take (i+1)) S0 S1 u).2))
  rw[t5]
  generalize vQ io dC (ks.take i) S0 S1 u=K at t3 t4
  unfold bw d5
  rw[vah (by simpa using hi),bE _ _ hi,vaa]
  by_cases ho:(o==7)=true
  ·rw[vah ho,vaa]
   cases i with
   |zero=>
    rw[vah (by decide),van (by decide),h7 ho,hR 0 hi sc K.2 (.inl rfl) t3]
    simp only[vaa]
    rw[b9 (by simp only[vau,List.length_nil];omega),vaa,bR (by omega) (by omega)]
    rfl
   |succ k=>
    rw[van (by simp;omega),vah (Nat.succ_pos k),hR (k+1) hi S1 K.2 (.inr rfl) t3]
    simp only[vaa]
    rw[b9 (by simp only[vau,List.length_nil];omega),vaa,bR (by omega) (by omega)]
    rfl
  ·rw[van ho,vaa,van (by decide),h6 ho,ite_self,hR i hi S1 K.2 (.inr rfl) t3]
   simp only[vaa]
   rw[b9 (by simp only[vau,List.length_nil];omega),vaa,bR (by omega) (by omega)]
   rfl
 ·show bw R sc ks (ks.length:Int) o S1 _ (ks.length:Int) _=_
  unfold bw
  rw[van (by simp),vaG]
theorem VK{R:ag->List af->List ai->Option (ag×List ai)}(as1:List az)(sc:List af)(v:List ai)(hk:as1.length<=100000000)
  (hR:∀(i:Nat) (h:i<as1.length) (u:List ai),u.length<=v.length+sT (as1.take i)->cC R as1[i] sc u=some (KT io dC as1[i] sc u)):
  ca R as1 sc v=some (ws io dC as1 sc v):=by
 unfold ca eE
 have g:=cZ as1.length (λ(zz:(List az)×Int×(List ai))=>aT R sc as1 (as1.length:Int) zz.1 zz.2.1 zz.2.2) (λi=>((ws io dC (as1.take i) sc v).1,(i:Int),(ws io dC (as1.take i) sc v).2)) (ws io dC as1 sc v) (λi hi=>?_) ?_
 ·simp only[List.take_zero,pG]at g
  rw[show((0:Nat):Int)=0 from rfl]at g
  rw[g,vaa]
 ·have t3:=RS (fe:=io) (fr:=dC) sO (as1.take i) sc v
  have t4:=OQ (fe:=io) (fr:=dC) (as1.take i) sc v
  have t5:=KQ io dC as1 i hi sc v
  rw[vaQ]at t4
  show aT R sc as1 (as1.length:Int) (ws io dC (as1.take i) sc v).1 (i:Int) (ws io dC (as1.take i) sc v).2=some (.inl ((ws io dC (as1.take (i+1)) sc v).1,((i+1:Nat):Int),(ws io dC (as1.take (i+1)) sc v).2))
  rw[t5]
  generalize ws io dC (as1.take i) sc v=K at t3 t4
  unfold aT
  rw[vah (by simpa using hi),bE _ _ hi,vaa,hR i hi K.2 t3]
  simp only[vaa]
  rw[b9 (by simp only[vau,List.length_nil];omega),vaa,bR (by omega) (by omega)]
  rfl
 ·show aT R sc as1 (as1.length:Int) _ (as1.length:Int) _=_
  unfold aT
  rw[van (by simp),vaG]
theorem YS(e:ag)(sc:List af)(u:List ai)(he:Ca e)(hc:sc.length+nE e<=100000000)(hu:u.length+nE e<=100000000):eC e sc u=some (xt io dC e sc u):=by
 refine nF (F:=ec) (λx=>nE x.1) (λx=>Ca x.1/\x.2.1.length+nE x.1<=100000000/\x.2.2.length+nE x.1<=100000000) (λx=>xt io dC x.1 x.2.1 x.2.2) (λR x hx ih=>?_) (e,sc,u) ⟨he,hc,hu⟩ (mL (C8 he))
 obtain⟨e,sc,u⟩:=x
 obtain⟨he,hc,hu⟩:=hx
 simp only[]at he hc hu ih ⊢
 have hn:=uM e
 have lk:=rB e.Kids
 have la:=rA e.Alts
 have hpm:=jV e
 have hB:fN (ae e)<=1073741824:=he
 have hR:∀(x:ag) (s:List af) (v:List ai),nE x<nE e->Ca x->s.length+nE x<=100000000->v.length+nE x<=100000000->R (x,s,v)=some (xt io dC x s v):=λx s v h1 h2 h3 h4=>ih (x,s,v) h1 ⟨h2,h3,h4⟩
 show de (λe scope k0=>R (e,scope,k0)) e sc u=some (xt io dC e sc u)
 have hN:=O0 (fe:=io) (fr:=dC) sO e.Op e.Name sc u
 have hNs:=Qq (fe:=io) (fr:=dC) e.Op e.Name sc u
 have hP:=O2 (fr:=dC) sO (e.Op==6) e.Params (kQ io dC e.Op e.Name sc u).2.1 (kQ io dC e.Op e.Name sc u).2.2
 have hPs:=EY (fr:=dC) (e.Op==6) e.Params (kQ io dC e.Op e.Name sc u).2.1 (kQ io dC e.Op e.Name sc u).2.2
 unfold de
 rw[Ok he,vaa,pk _ (by omega),vaa,WK _ _ _ _ (by omega) (by omega) (by omega)]
 simp only[vaa]
 rw[Uo _ _ _ _ _ (by omega) (by omega) (λp hp=>⟨by have:=Rh hp;have:=pq p;omega,BL he hp⟩)]
 simp only[vaa]
 rw[Wv e.Kids e.Op sc (lz dC (e.Op==6) e.Params (kQ io dC e.Op e.Name sc u).2.1 (kQ io dC e.Op e.Name sc u).2.2).2.1 (lz dC (e.Op==6) e.Params (kQ io dC e.Op e.Name sc u).2.1 (kQ io dC e.Op e.Name sc u).2.2).2.2 (by omega) (λi hi s v hs hv=>by
  have hm:=vaC hi
  have t1:=Q2 e.Kids i hi
  have t2:=Im e.Kids (i+1)
  refine hR _ _ _ (ye hm) (JW he hm) ?_ (by omega)
  rcases hs with rfl|rfl<;>omega)]
 simp only[vaa]
 have hC:(ND io dC e.Op e.Name e.Params e.Kids sc u).2.length<=(lz dC (e.Op==6) e.Params (kQ io dC e.Op e.Name sc u).2.1 (kQ io dC e.Op e.Name sc u).2.2).2.2.length+qk e.Kids:=G5 (fe:=io) (fr:=dC) sO e.Kids (Vn io dC e.Op e.Name e.Params sc u) (uA io dC e.Op e.Name e.Params sc u).2.1 (uA io dC e.Op e.Name e.Params sc u).2.2
 have g3:=VK (R:=λe scope k0=>R (e,scope,k0)) e.Alts sc (ND io dC e.Op e.Name e.Params e.Kids sc u).2 (by omega) (λi hi v hv=>by
  have hm:=vaC hi
  have t1:=NY e.Alts i hi
  have t2:=Q0 e.Alts (i+1)
  have t5:=Il e.Alts[i]
  have t6:=DH (fr:=dC) sO e.Alts[i].Names sc v
  have t7:=Af (fr:=dC) e.Alts[i].Names sc v
  have t8:=Xe hm
  have t9:=uS e.Alts[i]
  exact VI _ _ _ (by omega) (by omega) (λs hs=>by have:=Rg hs;omega) (hR _ _ _ (xY hm) (BK he hm) (by omega) (by omega)))
 show(ca (λe scope k0=>R (e,scope,k0)) e.Alts sc (ND io dC e.Op e.Name e.Params e.Kids sc u).2).bind _=_
 rw[g3]
 simp only[vaa]
 rw[VQ]
theorem Ud(e:ag)(he:Ca e)(hn:nE e<=50000000):kl e=some (xt io dC e [] (D3 (Aq e))).1:=by
 have h1:=wX (Aq e)
 have h2:=wA e
 unfold kl
 rw[W2 e (C8 he),vaa,YS e [] _ he (by simp;omega) (by omega)]
 rfl
end Go.Proofs.YtkdahfeiedaahaaGreatDoor
