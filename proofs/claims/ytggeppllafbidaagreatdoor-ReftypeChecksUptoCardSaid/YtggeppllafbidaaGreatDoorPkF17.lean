/- PROVED: a part of the proof. Conditions: none. -/
import Derived.Test.YtggeppllafbidaaGreatDoorPkF16
import Derived.Test.YtggeppllafbidaaGreatDoorPkF15
import Derived.Test.YtggeppllafbidaaGreatDoorPkF12
noncomputable section
namespace Go.Proofs.YtggeppllafbidaaGreatDoor
open Go
set_option linter.unusedSimpArgs false
set_option linter.unusedVariables false
theorem SO(b:UInt8):((b.toNat:Int)==46)=(b==46):=by
 rw[vb6]
 simp only[vaT]
 constructor
 ·intro h
  have:b.toNat=46:=by omega
  exact UInt8.toNat_inj.1 this
 ·rintro rfl;rfl
def kr:ag->List ag
 |[]=>[[]]
 |c::r=>if(c==46)=true then[]::kr r else match kr r with
  |[]=>[[c]]
  |h::t=>(c::h)::t
def DN(p:ag):List ag->List ag
 |[]=>[p]
 |h::t=>(p++h)::t
theorem Ax:∀(s:ag),kr s≠[]
 |[]=>by simp[kr]
 | c :: r => by
  unfold kr
  split
  ·simp
  ·split<;>simp
theorem EM(c:UInt8)(r:ag)(h:¬(c==46)=true):kr (c::r)=DN [c] (kr r):=by
 conv=>lhs;unfold kr
 rw[vaj h]
 cases kr r<;>rfl
theorem LS(p q:ag)(l:List ag):DN p (DN q l)=DN (p++q) l:=by cases l<;>simp[DN]
theorem JI{l:List ag}(h:l≠[]):DN [] l=l:=by cases l with
 |nil=>exact absurd rfl h
 |cons=>rfl
theorem IT:∀(p s:ag),p.all (fun c=>!(c==46))=true->kr (p++s)=DN p (kr s)
 |[],s,_=>(JI (Ax s)).symm
 |c::p,s,h=>by
  rw[List.all_cons,vad]at h
  rw[vbk,EM _ _ (by simpa using h.1),IT p s h.2,LS]
  rfl
theorem IU:∀(s:ag),(kr s).length<=s.length+1/\∀x∈kr s,x.length<=s.length
 |[]=>by simp[kr]
 | c :: r => by
  obtain⟨h1,h2⟩:=IU r
  by_cases h:(c==46)=true
  ·unfold kr
   rw[vai h]
   refine⟨by simp;omega,fun x hx=>?_⟩
   rw[vaE]at hx
   rcases hx with rfl|hx
   ·simp
   ·have:=h2 x hx;simp;omega
  ·rw[EM c r h]
   cases hd:kr r with
   |nil=>exact absurd hd (Ax r)
   | cons a t =>
    rw[hd]at h1 h2
    refine⟨by simpa[DN]using Nat.le_succ_of_le h1,fun x hx=>?_⟩
    simp only[DN,vaE]at hx
    rcases hx with rfl|hx
    ·have:=h2 a (by simp);simp;omega
    ·have:=h2 x (by simp[hx]);simp;omega
def kK(s:ag):ag×ag×Bool:=match s.findIdx? (fun c=>c==46)with
 |some j=>(s.take j,s.drop (j+1),true)
 |none=>(s,[],false)
theorem DB(s:ag)(hs:Mi s):wl s=some (kK s):=by
 unfold wl xL
 have:=AD s hs (fun zz=>j3 s zz) (fun c=>c==46) (fun j=>Sum.inl (s.take j,s.drop (j+1))) (Sum.inr ()) (fun i h=>by
  simp only[j3]
  rw[vai (by simp;omega),jY s i h]
  simp only[vaa,SO]
  by_cases hd:(s[i]==46)=true
  ·rw[vai hd,vai hd,Qf s i (by omega)]
   have hs':s.length<9223372036854775808:=hs
   have e:bA ((i:Int)+1)=((i+1:Nat):Int):=by rw[il (by omega) (by omega)];omega
   rw[e]
   simp only[vaa,wG s (i+1) (by omega)]
  ·rw[vaj hd,vaj hd]) (by simp only[j3];rw[vaj (by simp)])
 rw[this]
 unfold kK
 cases s.findIdx? (fun c=>c==46)<;>rfl
theorem N8(s:ag):kr s=if(kK s).2.2=true then(kK s).1::kr (kK s).2.1 else[(kK s).1]:=by
 unfold kK
 cases h:s.findIdx? (fun c=>c==46)with
 |none=>
  rw[vbv]at h
  have:=IT s [] (by simp only[vat,vaQ];exact h)
  rw[vbs]at this
  simp only[vaz,if_false]
  rw[this]
  simp[kr,DN]
 | some j =>
  rw[vba]at h
  obtain⟨hj,h1,h2⟩:=h
  have e:s=s.take j++s[j]::s.drop (j+1):=by
   conv=>lhs;rw[<-vbX j s]
   rw[va6 hj]
  have:=IT (s.take j) (s[j]::s.drop (j+1)) (by
   simp only[vat,vaQ]
   intro x hx
   obtain⟨i,hi,rfl⟩:=vcD hx
   rw[List.getElem_take]
   have hi':i<j:=by simp at hi;omega
   simpa using h2 i hi')
  rw[<-e]at this
  simp only[if_true]
  rw[this]
  conv=>lhs;arg 2;unfold kr
  rw[vai h1]
  simp[DN]
theorem N6(s:ag):(kK s).1.length<=s.length/\(kK s).2.1.length<=s.length/\((kK s).2.2=true->(kK s).2.1.length<s.length):=by
 unfold kK
 cases h:s.findIdx? (fun c=>c==46)with
 |none=>simp
 |some j=>
  rw[vba]at h
  obtain⟨hj,_⟩:=h
  simp
  omega
def QY(p:ag):Bool:=(p.isEmpty||jt cE p)&&p.all gW
def mz(p:ag):Bool:=kf p&&(p.all fm||QY p)
theorem L0{α X:Type}(p:Nat->α->Bool)(q:α->Bool)(y e:X)(k:Nat)(h:∀i x,k<=i->p i x=q x):∀(l:List α) (i:Nat),k<=i->gH (fun i x (_:Unit)=>if p i x=true then Sum.inr y else .inl ()) (fun _=>e) l i ()=if l.any q=true then y else e
 |[],i,_=>by simp[gH]
 | x :: l,i,hk => by
  have ih:=L0 p q y e k h l (i+1) (by omega)
  unfold gH
  rw[h i x hk]
  by_cases hq:q x=true
  ·simp[hq]
  ·simp only[hq,if_false,ih,List.any_cons,vcj,vaz]
theorem Fe(s:ag)(i:Nat)(h:i<s.length):pr s i=some (if i=0 then !cE s[i].toNat else !gW s[i]):=by
 unfold pr gW
 simp only[jY s i h,vaa,nF,sU]
 by_cases h0:i=0
 ·subst h0
  cases cE ((s[0]).toNat:Int)<;>simp
 ·have:((i:Int)==0)=false:=by simp;omega
  simp only[this,vaj h0]
  cases cE (s[i].toNat:Int)<;>cases Bt (s[i].toNat:Int)<;>simp[bne]
theorem K2(s:ag)(hs:Mi s):xM s=some (QY s):=by
 unfold xM vo
 have:=ir s hs (fun i (_:Unit)=>i) (fun zz=>iB s zz) (fun _ _=>True) (fun i x _=>if(if i=0 then !cE x.toNat else !gW x)=true then .inr (.inl ())else .inl ()) (fun _=>.inr ()) (fun i h t _=>⟨by
  simp only[iB]
  rw[vai (by simp;omega),Fe s i h]
  simp only[vaa]
  cases(if i=0 then !cE s[i].toNat else !gW s[i])<;>rfl,fun _ _=>trivial⟩) (fun t _=>by simp only[iB];rw[vaj (by simp)]) 0 () (vaB _) trivial
 simp only[Int.ofNat_zero,vaU]at this
 rw[this]
 cases s with
 |nil=>rfl
 | cons c r =>
  unfold gH QY jt
  simp only[if_true,List.isEmpty_cons,vcj,List.all_cons]
  by_cases hc:cE c.toNat=true
  ·have:=L0 (X:=Unit⊕Unit) (fun i (x:UInt8)=>if i=0 then !cE x.toNat else !gW x) (fun x=>!gW x) (.inl ()) (.inr ()) 1 (fun i x hi=>by rw[vaj (by omega)]) r 1 (vam _)
   simp only[hc,vck,vaz,if_false,L5 hc,vaX,vaH]
   rw[this,vbj]
   simp only[vbY]
   cases r.all gW<;>rfl
  ·simp[hc]
theorem E2(p:ag)(hs:Mi p):pl p=some (!mz p):=by
 unfold pl mz
 rw[sX,oh p hs,K2 p hs]
 cases kf p<;>cases p.all fm<;>simp
theorem qI(r:ag):eP r false=some (.inr ()):=oK rfl
theorem sT:∀(k:Nat) (r:ag),r.length<k->Mi r->eP r true=some (if(!(kr r).all mz)=true then .inl ()else .inr ())
 |0,r,hk,_=>absurd hk (by omega)
 | k + 1,r,hk,hs => by
  obtain⟨c1,c2,c3⟩:=N6 r
  have hs':r.length<9223372036854775808:=hs
  have hb:fx r true=some (if(!mz (kK r).1)=true then .inr (.inl ())else .inl ((kK r).2.1,(kK r).2.2)):=by
   simp only[fx,if_true,DB r hs,vaa]
   rw[E2 _ (show _<_ by omega)]
   simp only[vaa]
   cases mz (kK r).1<;>rfl
  rw[N8 r]
  unfold eP
  by_cases hp:mz (kK r).1=true
  ·rw[hp]at hb
   refine(EY (body:=fun zz:ag×Bool=>fx zz.1 zz.2) (s:=(r,true)) (s':=((kK r).2.1,(kK r).2.2)) hb).trans ?_
   cases hm:(kK r).2.2 with
   |false=>
    have:=qI (kK r).2.1
    unfold eP at this
    rw[this]
    simp[hp]
   |true=>
    have c4:=c3 hm
    have:=sT k (kK r).2.1 (by omega) (show _<_ by omega)
    unfold eP at this
    rw[this]
    simp[hp]
  ·have hp':mz (kK r).1=false:=by simpa using hp
   rw[hp']at hb
   refine(oK (body:=fun zz:ag×Bool=>fx zz.1 zz.2) (s:=(r,true)) hb).trans ?_
   cases(kK r).2.2<;>simp[hp']
theorem E4(r:ag)(more:Bool)(hs:Mi r):eP r more=some (if(more&&!(kr r).all mz)=true then .inl ()else .inr ()):=by
 cases more with
 |false=>exact qI r
 |true=>exact sT (r.length+1) r (by omega) hs
def jZ(s:ag):Bool:=decide (s.length<=120)&&match kr s with
 |[]=>false
 |f::r=>(nC f||kv f||(f==[118]&&!r.isEmpty))&&r.all mz
theorem E0(f:ag)(hf:Mi f)(more:Bool):pk f more=some (!(nC f||kv f||(f==[118]&&more))):=by
 unfold pk
 rw[By f hf,Jp f hf]
 simp only[vaa]
 cases nC f<;>cases kv f<;>cases(f==[118])<;>simp
theorem Bv(s:ag):sS s=some (sN (jZ s)):=by
 unfold sS jZ sN
 by_cases h:s.length<=120
 ·have h1:¬((s.length:Int)>120):=by omega
  obtain⟨c1,c2,c3⟩:=N6 s
  simp only[h1,h,decide_false,decide_true,vaz,if_false,vaX,DB s (show _<_ by omega),vaa]
  rw[E0 _ (show _<_ by omega),E4 _ _ (show _<_ by omega),N8 s]
  simp only[vaa]
  cases hm:(kK s).2.2 with
  |false=>
   by_cases hn:nC (kK s).1=true<;>by_cases ht:kv (kK s).1=true<;>simp[hn,ht]
  | true =>
   have:(kr (kK s).2.1).isEmpty=false:=by
    cases hd:kr (kK s).2.1 with
    |nil=>exact absurd hd (Ax _)
    |cons=>rfl
   simp only[this,if_true,vbT,Bool.and_true,vaX]
   cases(nC (kK s).1||kv (kK s).1||(kK s).1==[118])<;>cases(kr (kK s).2.1).all mz<;>simp
 ·have h1:((s.length:Int)>120):=by omega
  simp[h1,h]
theorem uR(s:ag):∀(r:ag) (i b:Nat) (out o:List ag) (b':Nat),s.drop i=r->i+r.length=s.length->b<=i->((s.take i).drop b).all (fun c=>!(c==46))=true->
  gH (fun i x (t:List ag×Nat)=>if(x==46)=true then(Sum.inl (t.1++[(s.take i).drop t.2],i+1):(List ag×Nat)⊕(List ag×Nat))else .inl t) (fun t=>t) r i (out,b)=(o,b')->
  b'<=s.length/\o++[s.drop b']=out++DN ((s.take i).drop b) (kr r)
 |[],i,b,out,o,b',h1,h2,h3,h4,h=>by
  simp only[gH,Prod.mk.injEq]at h
  obtain⟨rfl,rfl⟩:=h
  have:i=s.length:=by simpa using h2
  subst this
  simp[kr,DN,h3]
 | c :: r,i,b,out,o,b',h1,h2,h3,h4,h => by
  have hi:i<s.length:=by simp at h2;omega
  rw[va6 hi]at h1
  injection h1 with h1a h1b
  unfold gH at h
  by_cases hc:(c==46)=true
  ·simp only[hc,if_true]at h
   have ih:=uR s r (i+1) (i+1) _ o b' h1b (by simp at h2;omega) (vam _) (by simp) h
   refine⟨ih.1,?_⟩
   rw[ih.2]
   have e:(s.take (i+1)).drop (i+1)=[]:=by simp
   rw[e,JI (Ax r)]
   conv=>rhs;arg 2;arg 2;unfold kr
   rw[vai hc]
   simp[DN]
  ·simp only[hc,if_false,vaz]at h
   have e:(s.take (i+1)).drop b=(s.take i).drop b++[c]:=by
    rw[vaK hi,List.drop_append_of_le_length (by simp;omega),h1a]
   have ih:=uR s r (i+1) b _ o b' h1b (by simp at h2;omega) (by omega) (by rw[e,List.all_append,h4];simpa using hc) h
   refine⟨ih.1,?_⟩
   rw[ih.2,e,EM c r hc,LS]
theorem UH{α:Type}(l:List α)(a b:Nat)(h:a<=b)(h2:b<=l.length):Hy l (some (a:Int)) (some (b:Int))=some ((l.take b).drop a):=by
 simp[Hy,bd,h,h2]
theorem Ml(s:ag)(hs:s.length<=1000000):rG s=some (kr s):=by
 unfold rG qT
 have:=ir s (by omega) (fun i (t:List ag×Nat)=>(t.1,(t.2:Int),i)) (fun zz=>dw s s.length zz.1 zz.2.1 zz.2.2) (fun i t=>t.2<=i/\t.1.length<=i)
  (fun i x (t:List ag×Nat)=>if(x==46)=true then(Sum.inl (t.1++[(s.take i).drop t.2],i+1):(List ag×Nat)⊕(List ag×Int))else .inl t) (fun t=>(t.1,(t.2:Int))) (fun i h t hI=>by
   refine⟨?_,fun t' ht=>?_⟩
   ·simp only[dw]
    rw[vai (by simp;omega),jY s i h]
    simp only[vaa,SO]
    by_cases hd:(s[i]==46)=true
    ·rw[vai hd,vai hd,UH s _ _ hI.1 (by omega)]
     simp only[vaa]
     rw[eJ (by simp;omega)]
     have e:bA ((i:Int)+1)=((i+1:Nat):Int):=by rw[il (by omega) (by omega)];omega
     rw[e]
     rfl
    ·rw[vaj hd,vaj hd]
   ·by_cases hd:(s[i]==46)=true
    ·rw[vai hd]at ht;cases ht;simp;omega
    ·rw[vaj hd]at ht;cases ht;omega) (fun t _=>by simp only[dw];rw[vaj (by simp)]) 0 ([],0) (vaB _) ⟨vam _,vam _⟩
 simp only[Int.ofNat_zero,vaU]at this
 rw[this]
 obtain⟨o,b',hr⟩:∃o b',gH (fun i x (t:List ag×Nat)=>if(x==46)=true then(Sum.inl (t.1++[(s.take i).drop t.2],i+1):(List ag×Nat)⊕(List ag×Nat))else .inl t) (fun t=>t) s 0 ([],0)=(o,b'):=⟨_,_,rfl⟩
 have key:∀(l:ag) (i:Nat) (t:List ag×Nat),gH (fun i x (t:List ag×Nat)=>if(x==46)=true then(Sum.inl (t.1++[(s.take i).drop t.2],i+1):(List ag×Nat)⊕(List ag×Int))else .inl t) (fun t=>(t.1,(t.2:Int))) l i t=
   ((gH (fun i x (t:List ag×Nat)=>if(x==46)=true then(Sum.inl (t.1++[(s.take i).drop t.2],i+1):(List ag×Nat)⊕(List ag×Nat))else .inl t) (fun t=>t) l i t).1,
    ((gH (fun i x (t:List ag×Nat)=>if(x==46)=true then(Sum.inl (t.1++[(s.take i).drop t.2],i+1):(List ag×Nat)⊕(List ag×Nat))else .inl t) (fun t=>t) l i t).2:Int)):=by
  intro l
  induction l with
  |nil=>intro i t;rfl
  | cons x l ih =>
   intro i t
   unfold gH
   by_cases hx:(x==46)=true
   ·simp only[hx,if_true,ih]
   ·simp only[hx,if_false,ih,vaz]
 rw[key,hr]
 obtain⟨h1,h2⟩:=uR s s 0 0 [] o b' rfl (by simp) (vam _) (by simp) hr
 simp only[vaa]
 rw[wG s b' h1]
 simp only[vaa]
 have hd:=(IU s).1
 have h3:o++[s.drop b']=kr s:=by rw[h2];simp[JI (Ax s)]
 have h4:o.length+1=(kr s).length:=by rw[<-h3];simp
 rw[eJ (by simp;omega),h3]
 rfl
theorem H9(p:ag)(plain:Bool)(i:Nat)(h:i<p.length):mN p plain i=some (plain&&fm p[i]):=by
 unfold mN fm
 simp only[jY p i h,vaa,kj,sh,qR]
 cases plain<;>cases cE (p[i].toNat:Int)<;>cases lI (p[i].toNat:Int)<;>simp
theorem C2:∀(l:ag) (i:Nat) (a b:Bool),gH (fun _ (x:UInt8) (t:Bool×Bool)=>(Sum.inl (t.1&&fm x,t.2&&gW x):(Bool×Bool)⊕(Bool×Bool))) (fun t=>t) l i (a,b)=(a&&l.all fm,b&&l.all gW)
 |[],i,a,b=>by simp[gH]
 |x::l,i,a,b=>by
  unfold gH
  simp only[C2 l,List.all_cons,Bool.and_assoc]
theorem Ib(p:ag)(hp:Mi p)(a b:Bool):pJ p p.length a b 0=some (a&&p.all fm,b&&p.all gW):=by
 unfold pJ
 have:=ir p hp (fun i (t:Bool×Bool)=>(t.1,t.2,i)) (fun zz=>dY p p.length zz.1 zz.2.1 zz.2.2) (fun _ _=>True) (fun _ x t=>.inl (t.1&&fm x,t.2&&gW x)) (fun t=>t) (fun i h t _=>⟨by
  simp only[dY]
  rw[vai (by simp;omega),H9 p _ i h]
  simp only[vaa,jY p i h,kj,qR,gW]
  cases t.2<;>cases cE (p[i].toNat:Int)<;>cases Bt (p[i].toNat:Int)<;>simp,fun _ _=>trivial⟩) (fun t _=>by simp only[dY];rw[vaj (by simp)]) 0 (a,b) (vaB _) trivial
 simp only[Int.ofNat_zero,vaU]at this
 rw[this,C2]
theorem NH(p:ag)(hp:Mi p):vK p=some (mz p):=by
 unfold vK tO mz kf
 cases p with
 |nil=>simp
 | cons c r =>
  have h1:¬(((c::r).length:Int)<1):=by simp;omega
  have h2:(((c::r).length:Int)>=1):=by omega
  simp only[h1,h2,decide_false,decide_true,vaX,vaz,if_false,oI,vaa,kj,Ib _ hp,QY,jt,List.isEmpty_cons,vcj]
  by_cases h:(((c::r).length:Int)>24)
  ·have h':¬(((c::r).length:Int)<=24):=by omega
   simp only[h,h',decide_true,decide_false,if_true]
   simp
  ·have h':(((c::r).length:Int)<=24):=by omega
   simp only[h,h',decide_true,decide_false,if_false,vaz,vaX]
   cases(c::r).all fm<;>simp
theorem H1(f:ag)(r:List ag)(hf:Mi f):mL (f::r)=some (!(nC f||kv f||(f==[118]&&!r.isEmpty))):=by
 unfold mL
 simp only[Ds,vaa,C0 f hf,Mj f hf]
 have e:(((f::r).length:Int)==1)=r.isEmpty:=by
  cases r with
  |nil=>rfl
  |cons a r=>simp;omega
 rw[e]
 unfold sN
 cases nC f<;>cases kv f<;>cases(f==[118])<;>simp
theorem Om{s f:ag}{r:List ag}(h:s.length<=120)(hd:kr s=f::r):jZ s=((nC f||kv f||(f==[118]&&!r.isEmpty))&&r.all fun x=>mz x):=by
 unfold jZ
 rw[hd]
 simp only[h,decide_true,vaX]
theorem FT(s:ag):kO s=some (sN (jZ s)):=by
 unfold kO
 by_cases h:s.length<=120
 ·have h1:¬((s.length:Int)>120):=by omega
  simp only[h1,h,decide_false,decide_true,vaz,if_false,vaX,Ml s (by omega),vaa]
  obtain⟨d1,d2⟩:=IU s
  cases hd:kr s with
  |nil=>exact absurd hd (Ax s)
  | cons f r =>
   rw[hd]at d1 d2
   rw[Om h hd]
   rw[H1 f r (show _<_ by have:=d2 f (by simp);omega)]
   have hl:r.length<9223372036854775808:=by simp at d1;omega
   have:=lL r hl (fun zz=>kR r r.length zz) (fun x=>!mz x) (.inl ()) (.inr ()) (fun j hj=>by
    simp only[kR]
    have hm:r[j]∈f::r:=by simp
    rw[vai (by simp;omega),bP r j hj]
    simp only[vaa]
    rw[NH _ (show _<_ by have:=d2 _ hm;omega)]
    simp only[vaa]
    split<;>simp_all) (by simp only[kR];rw[vaj (by simp)]) 0 (vaB _)
   have e1:Hy (f::r) (some 1) none=some r:=by
    have:=wG (f::r) 1 (by simp)
    simpa using this
   simp only[Int.ofNat_zero,vaU]at this
   simp only[vaa,e1,tK,this,vbj,vbY]
   unfold sN
   cases(nC f||kv f||(f==[118]&&!r.isEmpty))<;>cases r.all (fun x=>mz x)<;>rfl
 ·have h1:((s.length:Int)>120):=by omega
  have h2:jZ s=false:=by unfold jZ;simp[h]
  simp[h1,h2,sN]
theorem O0{X:Type}(n:Nat)(hn:n<9223372036854775808){body:Int->Option (Int⊕X)}(k:Int->Option (Int⊕X))(e:X)(hb:∀i:Int,body i=if decide (i<(n:Int))=true then k i else some (.inr e))
  (hk:∀i:Nat,i<n->fZ (k (i:Int)) (fun r=>match r with|.inl t=>t=bA ((i:Int)+1)|.inr _=>True)):fZ (loop body 0) (fun _=>True):=by
 have e1:(List.replicate n ()).length=n:=List.length_replicate
 refine AQ (List.replicate n ()) (by omega) (fun i (_:Unit)=>i) (fun _ _=>True) (fun i hi s _=>?_) (fun s _=>?_) () trivial
 ·rw[e1]at hi
  rw[hb,vai (vau (by omega))]
  exact(hk i hi).mono fun r hr=>by
   cases r with
   |inl t=>exact⟨(),hr,trivial⟩
   |inr _=>trivial
 ·rw[hb,vaj (by rw[e1];simp)]
  exact al trivial
theorem rV(c:Int):fZ (gp c) (fun _=>True):=by unfold gp;exact aE (fun _=>al trivial) (fun _=>al trivial)
theorem Aw(c:Int):fZ (ki c) (fun _=>True):=by unfold ki;exact aE (fun _=>al trivial) (fun _=>al trivial)
theorem zG(c:Int):fZ (gN c) (fun _=>True):=by unfold gN;exact aE (fun _=>al trivial) (fun _=>al trivial)
theorem fL{s:ag}{i:Nat}(h:i<s.length):fZ (hX s (i:Int)) (fun _=>True):=Qh (jY s i h) trivial
theorem v6{s:ag}(h:0<s.length):fZ (hX s 0) (fun _=>True):=fL (i:=0) h
theorem Oq(s:ag):fZ (mM s) (fun _=>True):=by
 unfold mM
 exact ay (R:=fun l=>l.length<9223372036854775808) ⟨_,rfl,by decide⟩ (fun l hl=>co (pI l s hl) (al trivial))
theorem Px{s:ag}{i:Nat}(h:i<s.length):fZ (gX s i) (fun _=>True):=by
 unfold gX
 exact ay (fL h) fun _ _=>ay (rV _) fun _ _=>aE (fun _=>ay (fL h) fun _ _=>ay (Aw _) fun _ _=>aE (fun _=>ay (fL h) fun _ _=>al trivial) fun _=>al trivial) fun _=>al trivial
theorem Lj(s:ag):fZ (oq s) (fun _=>True):=by
 unfold oq
 refine ay (R:=fun o=>o=true\/s.length<=24) ?_ fun o ho=>aE (fun _=>al trivial) fun hn=>?_
 ·unfold nc
  refine aE (fun _=>al (.inl rfl)) fun h1=>aE (fun _=>al (.inl rfl)) fun h2=>?_
  rw[vak]at h1 h2
  exact ay (v6 (by omega)) fun _ _=>ay (rV _) fun _ _=>aE (fun _=>al (.inl rfl)) fun _=>ay (Oq s) fun _ _=>al (.inr (by omega))
 ·have hs:s.length<=24:=ho.resolve_left hn
  unfold nf
  refine ay (O0 s.length (by omega) (fun i=>(gX s i).bind fun o=>if o=true then some (.inr (.inl ()))else some (.inl (bA (i+1)))) (.inr ()) (fun i=>rfl) fun i hi=>ay (Px hi) fun _ _=>aE (fun _=>al trivial) fun _=>al rfl) fun o _=>?_
  cases o<;>exact al trivial
theorem Qg{s:ag}{i:Nat}(h:i<s.length):fZ (gZ s i) (fun _=>True):=by
 unfold gZ
 exact ay (fL h) fun _ _=>ay (rV _) fun _ _=>aE (fun _=>ay (fL h) fun _ _=>ay (zG _) fun _ _=>aE (fun _=>ay (fL h) fun _ _=>ay (Aw _) fun _ _=>al trivial) fun _=>al trivial) fun _=>al trivial
theorem Q7(s:ag):fZ (rF s) (fun _=>True):=by
 unfold rF
 refine ay (R:=fun o=>o=true\/s.length<=24) ?_ fun o ho=>aE (fun _=>al trivial) fun hn=>?_
 ·unfold ng
  refine aE (fun _=>al (.inl rfl)) fun h1=>aE (fun _=>al (.inl rfl)) fun h2=>?_
  rw[vak]at h1 h2
  have h3:s.length<=24:=by omega
  exact ay (v6 (by omega)) fun _ _=>ay (zG _) fun _ _=>aE (fun _=>al (.inl rfl)) fun _=>aE (fun _=>al (.inl rfl)) fun _=>aE (fun _=>al (.inl rfl)) fun _=>aE (fun _=>al (.inl rfl)) fun _=>al (.inr h3)
 ·have hs:s.length<=24:=ho.resolve_left hn
  unfold ni
  refine ay (O0 s.length (by omega) (fun i=>(gZ s i).bind fun o=>if o=true then some (.inr (.inl ()))else some (.inl (bA (i+1)))) (.inr ()) (fun i=>rfl) fun i hi=>ay (Qg hi) fun _ _=>aE (fun _=>al trivial) fun _=>al rfl) fun o _=>?_
  cases o<;>exact al trivial
theorem RK{s:ag}(b:Bool){i:Nat}(h:i<s.length):fZ (mN s b i) (fun _=>True):=by
 unfold mN
 exact aE (fun _=>ay (fL h) fun _ _=>ay (rV _) fun _ _=>aE (fun _=>al trivial) fun _=>ay (fL h) fun _ _=>ay (zG _) fun _ _=>aE (fun _=>al trivial) fun _=>ay (fL h) fun _ _=>ay (Aw _) fun _ _=>al trivial) fun _=>al trivial
theorem Tf(s:ag):fZ (vK s) (fun _=>True):=by
 unfold vK
 refine ay (R:=fun o=>o=true\/(0<s.length/\s.length<=24)) ?_ fun o ho=>aE (fun _=>al trivial) fun hn=>?_
 ·unfold tO
  refine aE (fun _=>al (.inl rfl)) fun h1=>al ?_
  rw[vak]at h1
  by_cases h2:(s.length:Int)>24
  ·exact .inl (vau h2)
  ·exact .inr ⟨by omega,by omega⟩
 ·obtain⟨h0,hs⟩:=ho.resolve_left hn
  refine ay (v6 h0) fun _ _=>ay (rV _) fun r6 _=>?_
  unfold pJ
  refine ay (R:=fun _=>True) (AQ s (by omega) (fun i (z:Bool×Bool)=>(z.1,z.2,i)) (fun _ _=>True) (fun i hi z _=>?_) (fun z _=>?_) (true,r6) trivial) fun o _=>aE (fun _=>al trivial) fun _=>al trivial
  ·show fZ (dY s s.length z.1 z.2 i) _
   unfold dY
   rw[vai (vau (by omega))]
   exact ay (RK _ hi) fun o _=>aE (fun _=>ay (fL hi) fun _ _=>ay (rV _) fun _ _=>aE (fun _=>al ⟨(o,true),rfl,trivial⟩) fun _=>ay (fL hi) fun _ _=>ay (Aw _) fun _ _=>aE (fun _=>al ⟨(o,true),rfl,trivial⟩) fun _=>ay (fL hi) fun c _=>al ⟨(o,c==95),rfl,trivial⟩) fun _=>al ⟨(o,false),rfl,trivial⟩
  ·show fZ (dY s s.length z.1 z.2 s.length) _
   unfold dY
   rw[vaj (by simp)]
   exact al trivial
theorem OY{α:Type}(l:List α)(a b:Nat)(h:a<=b)(h2:b<=l.length):Hy l (some (a:Int)) (some (b:Int))=some ((l.take b).drop a):=by
 simp[Hy,bd,h,h2]
theorem RL(s:ag)(hs:s.length<=120):fZ (rG s) (fun l=>l≠[]/\l.length<=121):=by
 unfold rG qT
 refine ay (R:=fun o=>o.1.length<=s.length/\∃b:Nat,o.2=(b:Int)/\b<=s.length) (AQ s (by omega) (fun i (z:List ag×Int)=>(z.1,z.2,i)) (fun i z=>z.1.length<=i/\∃b:Nat,z.2=(b:Int)/\b<=i) (fun i hi z hz=>?_) (fun z hz=>?_) ([],0) ⟨vam _,0,rfl,vam _⟩) fun o ho=>?_
 ·obtain⟨out,bg⟩:=z
  obtain⟨h1,b,hb,hbi⟩:=hz
  simp only at h1 hb
  subst hb
  show fZ (dw s s.length out b i) _
  unfold dw
  rw[vai (vau (by omega))]
  refine ay (fL hi) fun c _=>aE (fun _=>?_) fun _=>al ⟨(out,b),rfl,by simp only;omega,b,rfl,by omega⟩
  refine co (OY s b i hbi (by omega)) (co (eJ (by simp;omega)) (al ⟨(_,bA ((i:Int)+1)),rfl,by simp;omega,i+1,?_,vam _⟩))
  simp only
  rw[il (by omega) (by omega)]
  omega
 ·obtain⟨out,bg⟩:=z
  show fZ (dw s s.length out bg s.length) _
  unfold dw
  rw[vaj (by simp)]
  exact al hz
 ·obtain⟨h1,b,hb,hbi⟩:=ho
  rw[hb]
  exact co (wG s b hbi) (co (eJ (by simp;omega)) (al ⟨by simp,by simp;omega⟩))
theorem Rk{v:List ag}(h:v≠[]):fZ (mL v) (fun _=>True):=by
 obtain⟨x,r,rfl⟩:=List.exists_cons_of_ne_nil h
 unfold mL
 exact co (Ds x r) (ay (Lj x) fun _ _=>aE (fun _=>co (Ds x r) (ay (Q7 x) fun _ _=>aE (fun _=>co (Ds x r) (aE (fun _=>al trivial) fun _=>al trivial)) fun _=>al trivial)) fun _=>al trivial)
theorem SK:kO []=some 3:=by kernel_rfl
theorem NF(s:ag):fZ (kO s) (fun r=>(r==0)=true->0<s.length):=by
 by_cases hs:s=[]
 ·subst hs
  exact Qh SK fun h=>by simp at h
 have hp:0<s.length:=vcE.2 hs
 unfold kO
 refine aE (fun _=>al fun _=>hp) fun h1=>?_
 rw[vak]at h1
 refine ay (RL s (by omega)) fun l hl=>ay (Rk hl.1) fun _ _=>aE (fun _=>al fun _=>hp) fun _=>?_
 have h2:1<=l.length:=vcE.2 hl.1
 refine co (wG l 1 h2) ?_
 unfold tK
 refine ay (kG (l.drop 1) (by simp;omega) _ (fun _=>True) (fun _=>True) (fun i=>rfl) (fun x hx i=>ay (Tf x) fun _ _=>aE (fun _=>al trivial) fun _=>al ⟨rfl,trivial⟩)) fun o _=>?_
 cases o<;>exact al fun _=>hp
theorem Mg(l:List ag)(hl:l.length<9223372036854775808):fZ (gY l) (fun _=>True):=by
 unfold gY ma
 refine ay (kG l hl _ (fun _=>True) (fun _=>True) (fun i=>rfl) (fun x hx i=>co (pI l x hl) (aE (fun _=>al trivial) fun _=>al ⟨rfl,trivial⟩))) fun o _=>?_
 cases o<;>exact al trivial
theorem N5(s:ag)(b:Bool):fZ (pR s b) (fun _=>True):=by
 unfold pR
 exact ay (NF s) fun r hr=>aE (fun h=>ay (v6 (hr h)) fun _ _=>aE (fun _=>ay (v6 (hr h)) fun _ _=>al trivial) fun _=>al trivial) fun _=>al trivial
theorem PE(t:ae)(ht:dJ t<=aW):fZ (vO t) (fun _=>True):=by
 refine tA (F:=tW) dJ (fun x=>dJ x<=aW) (fun _ _=>True) (fun R x hx ih=>?_) t ht (fo ht)
 show fZ (tV (fun t=>R t) x) _
 unfold tV xm
 have h1:=jW x
 refine ay (R:=fun _=>True) (FE x.Args (by unfold aW at hx;omega) (fun i s=>(s,i)) (fun i s y=>(R y).bind fun r=>some (.inl ((if r>s then r else s),bA (i+1)))) id (fun _ _=>True) (fun i s=>rfl) (fun i hi s _=>?_) (fun _ _=>trivial) 0 trivial) (fun a _=>al trivial)
 exact ay (ih _ (hO (vav hi)) (by have:=hO (vav hi);omega)) (fun a _=>al ⟨_,rfl,trivial⟩)
theorem PV(t:ae):fZ (zl t) (fun _=>True):=by
 unfold zl
 refine ay (R:=fun _=>True) ?_ fun _ _=>aE (fun _=>al trivial) fun _=>ay (R:=fun _=>True) ?_ fun _ _=>aE (fun _=>al trivial) fun _=>ay (R:=fun _=>True) ?_ fun _ _=>aE (fun _=>al trivial) fun _=>ay (R:=fun _=>True) ?_ fun _ _=>aE (fun _=>al trivial) fun _=>al trivial
 ·unfold gP
  repeat' first|exact al trivial|refine aE (fun _=>?_) (fun _=>?_)
 ·unfold gQ
  repeat' first|exact al trivial|refine aE (fun _=>?_) (fun _=>?_)
 ·unfold gR
  repeat' first|exact al trivial|refine aE (fun _=>?_) (fun _=>?_)
 ·unfold gS
  repeat' first|exact al trivial|refine aE (fun _=>?_) (fun _=>?_)|refine ay (N5 _ _) fun _ _=>?_
theorem PL(t:ae)(ht:dJ t<=aW):fZ (zj t) (fun _=>True):=by
 refine tA (F:=xn) dJ (fun x=>dJ x<=aW) (fun _ _=>True) (fun R x hx ih=>?_) t ht (fo ht)
 show fZ (oD (fun t=>R t) x) _
 unfold oD tX
 have h1:=jW x
 refine ay (PV x) fun _ _=>aE (fun _=>al trivial) fun _=>ay (kG x.Args (by unfold aW at hx;omega) _ (fun _=>True) (fun _=>True) (fun i=>rfl) (fun y hy i=>ay (ih _ (hO hy) (by have:=hO hy;omega)) fun _ _=>aE (fun _=>al trivial) fun _=>al ⟨rfl,trivial⟩)) fun o _=>?_
 cases o<;>exact al trivial
theorem ND(t:ae)(ht:dJ t<=aW):fZ (rJ t) (fun _=>True):=by
 unfold rJ
 exact ay (PE t ht) fun _ _=>aE (fun _=>al trivial) fun _=>ay (PL t ht) fun _ _=>al trivial
theorem S7(op n:Int):fZ (jQ op n) (fun r=>r=true->op=8->n=2):=by
 by_cases h:op=8
 ·subst h
  refine Qh (a:=n==2) ?_ fun h _=>by simpa using h
  simp[jQ,pL,pM,pN]
 ·unfold jQ
  refine ay (R:=fun _=>True) ?_ fun _ _=>aE (fun _=>al fun _ e=>absurd e h) fun _=>ay (R:=fun _=>True) ?_ fun _ _=>aE (fun _=>aE (fun _=>al fun _ e=>absurd e h) fun _=>al fun _ e=>absurd e h) fun _=>ay (R:=fun _=>True) ?_ fun _ _=>aE (fun _=>al fun _ e=>absurd e h) fun _=>al fun _ e=>absurd e h
  ·unfold pL
   repeat' first|exact al trivial|refine aE (fun _=>?_) (fun _=>?_)
  ·unfold pM
   repeat' first|exact al trivial|refine aE (fun _=>?_) (fun _=>?_)
  ·unfold pN
   repeat' first|exact al trivial|refine aE (fun _=>?_) (fun _=>?_)
theorem IQ(p:aa):fZ (mt p) (fun _=>True):=by
 unfold mt
 have hc:=fun s=>(NF s).mono (R:=fun _=>True) fun _ _=>trivial
 repeat' first|exact al trivial|refine aE (fun _=>?_) (fun _=>?_)|refine ay (hc _) fun _ _=>?_
theorem Js(p:aa):fZ (vN p) (fun _=>True):=by
 unfold vN
 have hk:fZ (jQ p.Op (p.Kids.length:Int)) (fun r=>r=true->p.Op=8->0<p.Kids.length):=(S7 _ _).mono fun r hr h1 h2=>by have:=hr h1 h2;omega
 have hn:∀r:Bool,(r=true->p.Op=8->0<p.Kids.length)->fZ (some (!r)) (fun o=>o=true\/(p.Op=8->0<p.Kids.length)):=fun r hr=>by
  cases r with
  |false=>exact al (.inl rfl)
  |true=>exact al (.inr (hr rfl))
 refine ay (R:=fun _=>True) ?_ fun o3 _=>ay (R:=fun o=>o=true\/(p.Op=8->0<p.Kids.length)) ?_ fun o ho=>aE (fun _=>al trivial) fun hno=>ay (R:=fun _=>True) ?_ fun _ _=>aE (fun _=>al trivial) fun _=>ay (IQ p) fun _ _=>aE (fun _=>al trivial) fun _=>ay (R:=fun _=>True) ?_ fun _ _=>aE (fun _=>al trivial) fun _=>al trivial
 ·unfold pO
  repeat' first|exact al trivial|refine aE (fun _=>?_) (fun _=>?_)
 ·unfold pP
  have hm:fZ (rI p.Op) (fun _=>True):=by
   unfold rI
   repeat' first|exact al trivial|refine aE (fun _=>?_) (fun _=>?_)
  repeat' first|exact al (.inl rfl)|refine aE (fun _=>?_) (fun _=>?_)|refine ay hm fun _ _=>?_|exact ay hk hn
 ·have hi:fZ (HX p.N) (fun _=>True):=by
   unfold HX
   repeat' first|exact al trivial|refine aE (fun _=>?_) (fun _=>?_)
  unfold pQ
  repeat' first|exact al trivial|refine aE (fun _=>?_) (fun _=>?_)|refine ay hi fun _ _=>?_
 ·unfold tU
  refine aE (fun h=>?_) fun _=>al trivial
  exact co (bP p.Kids 0 (ho.resolve_left hno (by simpa using h))) (al trivial)
theorem PJ(p:aa)(hp:nP p<=aW):fZ (C7 p) (fun _=>True):=by
 refine tA (F:=xl) nP (fun x=>nP x<=aW) (fun _ _=>True) (fun R x hx ih=>?_) p hp (fo hp)
 show fZ (oC (fun t=>R t) x) _
 unfold oC pK
 have h1:=lJ x
 refine ay (Js x) fun _ _=>aE (fun _=>al trivial) fun _=>ay (kG x.Kids (by unfold aW at hx;omega) _ (fun _=>True) (fun _=>True) (fun i=>rfl) (fun y hy i=>ay (ih _ (mA hy) (by have:=mA hy;omega)) fun _ _=>aE (fun _=>al trivial) fun _=>al ⟨rfl,trivial⟩)) fun o _=>?_
 cases o<;>exact al trivial
theorem FQ(p:aa)(hp:nP p<=aW):fZ (rH p) (fun _=>True):=by
 unfold rH
 exact co (DJ p hp) (aE (fun _=>al trivial) fun _=>co (N7 p hp) (aE (fun _=>al trivial) fun _=>ay (PJ p hp) fun _ _=>al trivial))
theorem AS(p:aa):zy p=some (decide (p=qQ)):=by
 unfold zy
 have h1:gq p (⟨0,([]:ag),0,([]:List aa)⟩:aa)=some (decide (p=qQ)):=Ac p qQ QI
 rw[h1];rfl
theorem PW(t:ae)(ht:dJ t<=aW)(hp:nP t.Pred<=aW)(hq:∀q∈t.Preds,nP q<=aW):fZ (vP t) (fun _=>True):=by
 unfold vP
 have h1:=rS t
 have h2:=kC t
 have hb:aW=1073741824:=rfl
 refine ay (R:=fun _=>True) ?_ fun _ _=>aE (fun _=>al trivial) fun _=>?_
 ·unfold pV
  repeat' first|exact al trivial|refine aE (fun _=>?_) (fun _=>?_)|refine co (AS _) ?_
 unfold pW
 refine ay (kG t.Names (by omega) _ (fun _=>True) (fun _=>True) (fun i=>rfl) (fun x hx i=>ay (Lj x) fun _ _=>aE (fun _=>al trivial) fun _=>al ⟨rfl,trivial⟩)) fun o _=>?_
 cases o with
 |inl _=>exact al trivial
 | inr _ =>
  refine ay (Mg t.Names (by omega)) fun _ _=>aE (fun _=>al trivial) fun _=>co (eJ (by simp;omega)) ?_
  unfold pX
  refine ay (kG ([t.Pred]++t.Preds) (by simp;omega) _ (fun _=>True) (fun _=>True) (fun i=>rfl) (fun x hx i=>?_)) fun o _=>?_
  ·have hxn:nP x<=aW:=by
    rcases vaF.1 hx with h|h
    ·rw[va9.1 h];exact hp
    ·exact hq x h
   refine ay (FQ x hxn) fun e _=>ay (R:=fun _=>True) ?_ fun _ _=>aE (fun _=>al trivial) fun _=>al ⟨rfl,trivial⟩
   unfold tZ
   exact co (AS _) (aE (fun _=>al trivial) fun _=>al trivial)
  ·cases o<;>exact al trivial
theorem PM(t:ae)(ht:dJ t<=aW)(hp:sH (fun p=>nP p<=aW) t):fZ (C8 t) (fun _=>True):=by
 refine tA (F:=xq) dJ (fun x=>dJ x<=aW/\sH (fun p=>nP p<=aW) x) (fun _ _=>True) (fun R x hx ih=>?_) t ⟨ht,hp⟩ (fo ht)
 obtain⟨hx,hq⟩:=hx
 show fZ (oE (fun t=>R t) x) _
 unfold oE pU
 have h1:=jW x
 have hq':=(vW _ _).1 hq
 refine ay (PW x hx hq'.1 hq'.2.1) fun _ _=>aE (fun _=>al trivial) fun _=>ay (kG x.Args (by unfold aW at hx;omega) _ (fun _=>True) (fun _=>True) (fun i=>rfl) (fun y hy i=>ay (ih _ (hO hy) ⟨by have:=hO hy;omega,(oH _ _).1 hq'.2.2 y hy⟩) fun _ _=>aE (fun _=>al trivial) fun _=>al ⟨rfl,trivial⟩)) fun o _=>?_
 cases o<;>exact al trivial
theorem NE(t:ae)(ht:dJ t<=aW)(hp:sH (fun p=>nP p<=aW) t):fZ (rK t) (fun _=>True):=by
 unfold rK
 exact ay (ND t ht) fun _ _=>aE (fun _=>al trivial) fun _=>ay (PM t ht hp) fun _ _=>al trivial
theorem I9:jZ []=false:=by kernel_rfl
theorem Oa(b:Bool):(sN b !=0)= !b:=by cases b<;>rfl
theorem Lz(b:Bool):(sN b==0)=b:=by cases b<;>rfl
theorem Sb(t:ae):uJ t=vO t:=by
 have h:vH=tW:=rfl
 unfold uJ vO
 rw[h]
theorem TH(t:ae):pB t=some (t.Op==4||t.Op==5):=by
 unfold pB
 by_cases h:t.Op=4<;>simp[h]
theorem TI(t:ae):pC t=some (t.Op==4||t.Op==6):=by
 unfold pC
 by_cases h:t.Op=4<;>simp[h]
theorem TJ(t:ae):pD t (t.Op==4||t.Op==5) (t.Op==4||t.Op==6)=gP t:=by
 unfold pD gP
 by_cases h4:t.Op=4
 ·simp[h4]
 by_cases h5:t.Op=5
 ·simp[h5]
 by_cases h6:t.Op=6
 ·simp[h6]
 ·simp[h4,h5,h6]
theorem V7(t:ae):uI t=(gQ t).bind fun a=>if a=true then some 13 else(gR t).bind fun b=>if b=true then some 13 else some 0:=by
 unfold uI gQ gR tB
 by_cases h4:t.Op=4
 ·simp[h4]
 by_cases h6:t.Op=6
 ·have hn:((t.Names.length:Int)!=0)=decide ((t.Names.length:Int)>0):=by
   by_cases h:t.Names.length=0
   ·rw[h];rfl
   ·have h1:((t.Names.length:Int))≠0:=by omega
    have h2:((t.Names.length:Int))>0:=by omega
    rw[vau h2];simpa using h
  rw[hn]
  simp[h6]
 ·simp[h4,h6]
theorem VQ(s:ag)(b:Bool):pR s b=some (jZ s&&(jt lI s==b)):=by
 unfold pR
 rw[FT]
 simp only[vaa,Lz]
 by_cases h:jZ s=true
 ·cases s with
  |nil=>rw[I9]at h;cases h
  | cons c r =>
   rw[vai h,h]
   simp only[oI,vaa,jt,lI,vaX]
   by_cases hc:(c.toNat:Int)>=65
   ·have hc':(65:Int)<=c.toNat:=hc
    rw[vai (vau hc),vau hc',vaX]
   ·have hc':¬(65:Int)<=c.toNat:=hc
    rw[vaj (by simpa using hc),decide_eq_false hc',vbU]
 ·rw[vaj h]
  have:jZ s=false:=by simpa using h
  rw[this];rfl
theorem TK(t:ae):pE t (t.Op==4||t.Op==5)=(gS t).bind fun b=>if b=true then some (.inl ())else some (.inr ()):=by
 unfold pE gS
 simp only[VQ,vaa,Bv,Oa]
 have hJ5:jZ t.Name=true->pF t=some (jt lI t.Name):=fun h=>by
  unfold pF
  cases hn:t.Name with
  |nil=>rw[hn,I9]at h;cases h
  | cons c r =>
   simp only[oI,vaa,jt,lI]
   by_cases hc:(c.toNat:Int)>=65
   ·have hc':(65:Int)<=c.toNat:=hc
    rw[vai (vau hc),vau hc',vaX]
   ·have hc':¬(65:Int)<=c.toNat:=hc
    rw[vaj (by simpa using hc),decide_eq_false hc',vbU]
 by_cases h4:t.Op=4
 ·by_cases h:jZ t.Name=true
  ·rw[hJ5 h]
   cases jt lI t.Name<;>simp[h4,h]
  ·simp[h4,h]
 by_cases h5:t.Op=5
 ·by_cases h:jZ t.Name=true
  ·rw[hJ5 h]
   cases jt lI t.Name<;>simp[h5,h]
  ·simp[h5,h]
 ·simp[h4,h5]
theorem Oy(t:ae):∃b1 b2 b3 b4,gP t=some b1/\gQ t=some b2/\gR t=some b3/\gS t=some b4:=by
 have h1:fZ (gP t) (fun _=>True):=by
  unfold gP
  repeat' first|exact al trivial|refine aE (fun _=>?_) (fun _=>?_)
 have h2:fZ (gQ t) (fun _=>True):=by
  unfold gQ
  repeat' first|exact al trivial|refine aE (fun _=>?_) (fun _=>?_)
 have h3:fZ (gR t) (fun _=>True):=by
  unfold gR
  repeat' first|exact al trivial|refine aE (fun _=>?_) (fun _=>?_)
 have h4:fZ (gS t) (fun _=>True):=by
  unfold gS
  repeat' first|exact al trivial|refine aE (fun _=>?_) (fun _=>?_)|refine ay (N5 _ _) fun _ _=>?_
 obtain⟨b1,e1,_⟩:=h1
 obtain⟨b2,e2,_⟩:=h2
 obtain⟨b3,e3,_⟩:=h3
 obtain⟨b4,e4,_⟩:=h4
 exact⟨b1,b2,b3,b4,e1,e2,e3,e4⟩
theorem UM(R:ae->Option Int)(t:ae):rE R t=oD R t:=by
 obtain⟨b1,b2,b3,b4,e1,e2,e3,e4⟩:=Oy t
 have ea:=V7 t
 have e5:=TK t
 have hL:vI R t.Args (t.Args.length:Int) 0=tX R t.Args (t.Args.length:Int) 0:=rfl
 rw[e2,e3]at ea
 rw[e4]at e5
 unfold rE oD zl
 rw[TH,TI]
 simp only[vaa]
 rw[TJ,e1,e2,e3,e4,ea,hL]
 rw[e5]
 cases b1<;>cases b2<;>cases b3<;>cases b4<;>rfl
theorem Sa(t:ae):uG t=rJ t:=by
 have h:yr=xn:=by
  funext R x
  exact UM (fun t=>R t) x
 have h2:yq t=zj t:=by
  unfold yq zj
  rw[h]
 unfold uG rJ
 rw[Sb,h2]
def Ga(op:Int)(n:Int):Bool:=if op=1\/op=2\/op=3 then n==0 else if op=4\/op=5 then decide (n>=1)&&decide (n<=24)else if op=9\/op=14 then n==1 else n==2
theorem TD(op n:Int):jQ op n=some (Ga op n):=by
 unfold jQ pL pM pN Ga
 by_cases h1:op=1
 ·simp[h1]
 by_cases h2:op=2
 ·simp[h2]
 by_cases h3:op=3
 ·simp[h3]
 by_cases h4:op=4
 ·subst h4
  by_cases hn:n>=1<;>simp[hn]
 by_cases h5:op=5
 ·subst h5
  by_cases hn:n>=1<;>simp[hn]
 by_cases h9:op=9
 ·simp[h9]
 by_cases h14:op=14
 ·simp[h14]
 ·simp[h1,h2,h3,h4,h5,h9,h14]
theorem Tq(op:Int)(n:Nat):∃l m,AL op=some (l,m)/\(if decide ((n:Int)<l)=true then some true else some (decide ((n:Int)>m)))=some (!Ga op (n:Int)):=by
 unfold AL xX xY xZ Ga
 have e0:(if decide ((n:Int)<0)=true then some true else some (decide ((n:Int)>0)))=some (!((n:Int)==0)):=by
  rw[vaj (by simp)]
  by_cases h:n=0
  ·subst h;rfl
  ·have h1:(n:Int)>0:=by omega
   rw[vau h1];simp[h]
 have e1:(if decide ((n:Int)<1)=true then some true else some (decide ((n:Int)>24)))=some (!(decide ((n:Int)>=1)&&decide ((n:Int)<=24))):=by
  by_cases h:(n:Int)<1
  ·rw[vai (vau h),decide_eq_false (by omega:¬(n:Int)>=1)];rfl
  ·rw[vaj (by simpa using h),vau (by omega:(n:Int)>=1)]
   by_cases h2:(n:Int)>24
   ·rw[vau h2,decide_eq_false (by omega:¬(n:Int)<=24)];rfl
   ·rw[decide_eq_false h2,vau (by omega:(n:Int)<=24)];rfl
 have ek:∀k:Nat,(if decide ((n:Int)<(k:Int))=true then some true else some (decide ((n:Int)>(k:Int))))=some (!((n:Int)==(k:Int))):=fun k=>by
  by_cases h:(n:Int)<k
  ·rw[vai (vau h)]
   have:((n:Int)==(k:Int))=false:=by rw[beq_eq_false_iff_ne];omega
   rw[this];rfl
  ·rw[vaj (by simpa using h)]
   by_cases h2:(n:Int)>k
   ·have:((n:Int)==(k:Int))=false:=by rw[beq_eq_false_iff_ne];omega
    rw[this,vau h2];rfl
   ·have:((n:Int)==(k:Int))=true:=by rw[vaT];omega
    rw[this,decide_eq_false h2];rfl
 by_cases h1:op=1
 ·exact⟨0,0,by simp[h1],by simpa[h1]using e0⟩
 by_cases h2:op=2
 ·exact⟨0,0,by simp[h2],by simpa[h2]using e0⟩
 by_cases h3:op=3
 ·exact⟨0,0,by simp[h3],by simpa[h3]using e0⟩
 by_cases h4:op=4
 ·exact⟨1,24,by simp[h4],by rw[e1];simp[h4]⟩
 by_cases h5:op=5
 ·exact⟨1,24,by simp[h5],by rw[e1];simp[h5]⟩
 by_cases h9:op=9
 ·exact⟨1,1,by simp[h9],by have:=ek 1;rw[show((1:Nat):Int)=1 from rfl]at this;rw[this];simp[h9]⟩
 by_cases h14:op=14
 ·exact⟨1,1,by simp[h14],by have:=ek 1;rw[show((1:Nat):Int)=1 from rfl]at this;rw[this];simp[h14]⟩
 ·exact⟨2,2,by simp[h1,h2,h3,h4,h5,h9,h14],by have:=ek 2;rw[show((2:Nat):Int)=2 from rfl]at this;rw[this];simp[h1,h2,h3,h4,h5,h9,h14]⟩
theorem LV(op:Int):rI op=some (op==3||op==4||op==5):=by
 unfold rI
 by_cases h3:op=3
 ·simp[h3]
 by_cases h4:op=4<;>simp[h3,h4]
theorem LR(op:Int):ya op=some (op==3||op==4||op==5):=LV op
theorem qaH(p:aa):pO p=some (p.Op==1||p.Op==2):=by
 unfold pO
 by_cases h:p.Op=1<;>simp[h]
def Kb(p:aa):Bool:=!(p.Name==([]:ag))&&!(p.Op==3||p.Op==4||p.Op==5)||((p.N !=0)&&!(p.Op==1||p.Op==2))||!Ga p.Op (p.Kids.length:Int)
theorem qaI(p:aa):pP p (p.Op==1||p.Op==2)=some (decide (p.Op<1)||decide (p.Op>18)||Kb p):=by
 unfold pP Kb
 simp only[LV,TD,vaa]
 cases decide (p.Op<1)
 ·cases decide (p.Op>18)
  ·cases(p.Name==([]:ag))<;>cases(p.Op==3||p.Op==4||p.Op==5)<;>cases(p.N !=0)<;>cases(p.Op==1||p.Op==2)<;>cases Ga p.Op (p.Kids.length:Int)<;>rfl
  ·rfl
 ·rfl
theorem qaC(p:aa)(l m:Int)(h:(if decide ((p.Kids.length:Int)<l)=true then some true else some (decide ((p.Kids.length:Int)>m)))=some (!Ga p.Op (p.Kids.length:Int))):ru p l m=some (Kb p):=by
 unfold ru Kb
 simp only[LR,vaa,h]
 by_cases h1:p.Op=1
 ·cases(p.Name==([]:ag))<;>cases(p.N !=0)<;>simp[h1]
 by_cases h2:p.Op=2
 ·cases(p.Name==([]:ag))<;>cases(p.N !=0)<;>simp[h2]
 have e1:(p.Op !=1)=true:=by simpa using h1
 have e2:(p.Op !=2)=true:=by simpa using h2
 have e3:(p.Op==1)=false:=by simpa using h1
 have e4:(p.Op==2)=false:=by simpa using h2
 rw[e1,e2,e3,e4]
 cases(p.Name==([]:ag))<;>cases(p.Op==3||p.Op==4||p.Op==5)<;>cases(p.N !=0)<;>cases Ga p.Op (p.Kids.length:Int)<;>rfl
theorem Xs(n:Int):PX n=HX n:=rfl
theorem qaD(p:aa):rv p=pQ p:=by
 unfold rv pQ
 rw[Xs]
 have hN:(if(p.N !=0)=true then some (p.N !=1)else some false)=(if decide (p.N<0)=true then some true else some (decide (p.N>1))):=by
  by_cases h0:p.N=0
  ·rw[h0];rfl
  by_cases h1:p.N=1
  ·rw[h1];rfl
  ·have:(p.N !=0)=true:=by simpa using h0
   have h2:(p.N !=1)=true:=by simpa using h1
   rw[vai this,h2]
   by_cases h3:p.N<0
   ·rw[vai (vau h3)]
   ·rw[vaj (by simpa using h3),vau (by omega:p.N>1)]
 rw[hN]
theorem qaE(p:aa):rx p=(mt p).bind fun r=>if(!r)=true then some (.inl ())else some (.inr ()):=by
 unfold rx yb yc yd ye mt
 simp only[LR,vaa,Bv,FT,Oa,Lz]
 by_cases h3:p.Op=3
 ·cases hc:jZ p.Name<;>cases(p.Name==([118]:ag))<;>simp[h3,hc]
 by_cases h4:p.Op=4
 ·cases hc:jZ p.Name<;>cases(p.Name==([116,97,103]:ag))<;>cases(p.Name==([118,97,108]:ag))<;>simp[h4,hc]
 by_cases h5:p.Op=5
 ·cases hc:jZ p.Name<;>simp[h5,hc]
 ·simp[h3,h4,h5]
theorem qaF(p:aa):yf p=tU p:=rfl
theorem qaB(p:aa):rt p=some (decide (p.Op<1)||decide (p.Op>18)):=by
 unfold rt
 cases decide (p.Op<1)<;>rfl
theorem Pw(p:aa):∃b,mt p=some b:=by
 obtain⟨b,e,_⟩:=IQ p
 exact⟨b,e⟩
theorem Tt(p:aa):AM p=vN p:=by
 obtain⟨l,m,e1,e2⟩:=Tq p.Op p.Kids.length
 obtain⟨c,ec⟩:=Pw p
 have e4:=qaE p
 rw[ec]at e4
 unfold AM vN
 rw[qaB,qaH,e1]
 simp only[vaa]
 rw[qaI,qaC p l m e2,qaD,e4,ec,qaF]
 simp only[vaa]
 cases(decide (p.Op<1)||decide (p.Op>18))
 ·cases Kb p
  ·cases c<;>rfl
  ·rfl
 ·rfl
def Oz(r:Int)(s:Int):Bool×Int:=if(r !=0)=true then(false,r)else(true,s)
theorem Rv(R:aa->Option Int)(l:List aa)(hl:l.length<9223372036854775808)(ih:∀x∈l,∃r,R x=some r/\∀s,Eo cD x s=some (Oz r s)):fZ (pK R l (l.length:Int) 0) (fun o=>o.elim (fun r=>(r !=0)=true/\∀s,tD cD l s=some (false,r)) (fun _=>∀s,tD cD l s=some (true,s))):=by
 unfold pK
 have key:∀k i,k+i=l.length->fZ (loop (fun zz=>eM R l (l.length:Int) zz) (i:Int)) (fun o=>o.elim (fun r=>(r !=0)=true/\∀s,tD cD (l.drop i) s=some (false,r)) (fun _=>∀s,tD cD (l.drop i) s=some (true,s))):=by
  intro k
  induction k with
  | zero =>
   intro i hi
   have hi:i=l.length:=by omega
   subst hi
   have hb:(fun zz=>eM R l (l.length:Int) zz) ((l.length:Nat):Int)=some (.inr (.inr ())):=by
    show eM R l (l.length:Int) (l.length:Int)=_
    unfold eM
    rw[vaj (by simp)]
   rw[oK hb]
   exact al (fun s=>by rw[vcO,tD])
  | succ k ihk =>
   intro i hi
   have hil:i<l.length:=by omega
   obtain⟨r,e,hv⟩:=ih _ (vav hil)
   rw[mf]
   have hb:eM R l (l.length:Int) (i:Int)=if(r !=0)=true then some (.inr (.inl r))else some (.inl (bA ((i:Int)+1))):=by
    unfold eM
    rw[vai (vau (by omega)),bP _ i hil]
    simp only[vaa]
    rw[e]
    rfl
   rw[hb]
   have hd:=va6 hil
   by_cases hr:(r !=0)=true
   ·rw[vai hr]
    refine al ⟨hr,fun s=>?_⟩
    rw[hd,tD,hv s]
    unfold Oz
    rw[vai hr]
    rfl
   ·rw[vaj hr]
    simp only
    rw[il (by omega) (by omega),show((i:Int)+1)=((i+1:Nat):Int) by omega]
    have hn:∀s,tD cD (l.drop i) s=tD cD (l.drop (i+1)) s:=fun s=>by
     rw[hd,tD,hv s]
     unfold Oz
     rw[vaj hr]
     rfl
    refine(ihk (i+1) (by omega)).mono fun o ho=>?_
    cases o with
    |inl r'=>
     have ho:(r' !=0)=true/\∀s,tD cD (l.drop (i+1)) s=some (false,r'):=ho
     exact⟨ho.1,fun s=>by rw[hn];exact ho.2 s⟩
    |inr _=>
     have ho:∀s,tD cD (l.drop (i+1)) s=some (true,s):=ho
     exact fun s=>by rw[hn];exact ho s
 exact key l.length 0 (by omega)
theorem PK(p:aa)(hp:nP p<=aW):fZ (C7 p) (fun r=>∀s,Eo cD p s=some (Oz r s)):=by
 refine tA (F:=xl) nP (fun x=>nP x<=aW) (fun x r=>∀s,Eo cD x s=some (Oz r s)) (fun R x hx ih=>?_) p hp (fo hp)
 show fZ (oC (fun t=>R t) x) _
 have h1:=lJ x
 unfold aW at hx
 obtain⟨r0,e0,_⟩:=Js x
 unfold oC
 rw[e0]
 simp only[vaa]
 have hs:∀s,cD s x=some (if(r0 !=0)=true then(false,r0)else(true,s)):=fun s=>by
  unfold cD
  rw[Tt,e0]
  simp only[vaa]
  split<;>rfl
 by_cases hr:(r0 !=0)=true
 ·rw[vai hr]
  refine al fun s=>?_
  rw[Nv,hs,vai hr]
  unfold Oz
  rw[vai hr]
  rfl
 ·rw[vaj hr]
  have hv:∀s,Eo cD x s=tD cD x.Kids s:=fun s=>by
   rw[Nv,hs,vaj hr]
   simp only[vaa]
   rw[vai (by omega)]
  refine ay (Rv (fun t=>R t) x.Kids (by omega) (fun y hy=>ih _ (mA hy) (by have:=mA hy;unfold aW;omega))) fun o ho=>?_
  cases o with
  |inl r=>
   obtain⟨h2,h3⟩:(r !=0)=true/\∀s,tD cD x.Kids s=some (false,r):=ho
   exact al fun s=>by rw[hv,h3];unfold Oz;rw[vai h2]
  |inr _=>
   have h3:∀s,tD cD x.Kids s=some (true,s):=ho
   exact al fun s=>by rw[hv,h3];rfl
theorem RX(p:aa):oQ p=oz p:=by
 have h:xU=tS:=rfl
 unfold oQ oz
 rw[h]
theorem RN(p:aa):oP p=vM p:=by
 have h:xS=tQ:=rfl
 unfold oP vM
 rw[h]
theorem RI(p:aa)(hp:nP p<=aW):s9 p=rH p:=by
 obtain⟨r,e,hv⟩:=PK p hp
 unfold s9 rH
 rw[RX,DJ p hp,RN,N7 p hp,e,hv 0]
 simp only[vaa]
 split
 ·rfl
 split
 ·rfl
 unfold Oz
 by_cases hr:(r !=0)=true
 ·rw[vai hr];rfl
 ·rw[vaj hr]
  have:r=0:=by simpa using hr
  rw[this];rfl
theorem Qi{A:Type}(n:Nat)(hn:n<9223372036854775808){body:Int->Option (Int⊕(A⊕Unit))}(P:Nat->Prop)(B:A->Prop)
  (hin:∀i:Nat,i<n->fZ (body (i:Int)) (fun r=>r.elim (fun t=>t=bA ((i:Int)+1)/\P i) (fun y=>y.elim B (fun _=>False)))) (hend:body (n:Int)=some (.inr (.inr ()))):fZ (loop body 0) (fun r=>r.elim B (fun _=>∀i,i<n->P i)):=by
 have key:∀k i,k+i=n->(∀j,j<i->P j)->fZ (loop body (i:Int)) (fun r=>r.elim B (fun _=>∀i,i<n->P i)):=by
  intro k
  induction k with
  |zero=>
   intro i hi hP
   have:i=n:=by omega
   subst this
   rw[oK hend]
   exact al hP
  | succ k ih =>
   intro i hi hP
   obtain⟨r,e,hr⟩:=hin i (by omega)
   rw[mf,e]
   cases r with
   | inl t =>
    obtain⟨rfl,hp⟩:=hr
    simp only
    rw[il (by omega) (by omega),show((i:Int)+1)=((i+1:Nat):Int) by omega]
    exact ih (i+1) (by omega) fun j hj=>by
     by_cases he:j=i
     ·subst he;exact hp
     ·exact hP j (by omega)
   |inr y=>
    cases y with
    |inl a=>exact⟨_,rfl,hr⟩
    |inr u=>exact hr.elim
 exact key n 0 (by omega) fun j hj=>absurd hj (vaM _)
theorem SS{l:List ag}{i:Nat}(h:i<l.length)(hf:zJ l l[i]=(i:Int)):∀k (hk:k<l.length),k<i->l[i]≠l[k]:=by
 intro k hk hki he
 unfold zJ at hf
 cases hx:l.findIdx? (fun x=>x==l[i])with
 |none=>
  rw[vbv]at hx
  have:=hx _ (vav h)
  simp at this
 | some j =>
  obtain⟨hj,_,hj3⟩:=vba.1 hx
  rw[hx]at hf
  have hji:j=i:=by
   have:(j:Int)=(i:Int):=by simpa using hf
   omega
  subst hji
  have:=hj3 k hki
  rw[he]at this
  simp at this
theorem RB{l:List ag}(h:∀i (hi:i<l.length),∀k (hk:k<l.length),k<i->l[i]≠l[k]):l.Nodup:=by
 unfold List.Nodup
 rw[vbw]
 intro i j hi hj hij he
 exact h j hj i hi hij he.symm
theorem EW{X:Type}(n:Nat)(hn:n<9223372036854775808){b1 b2:Int->Option (Int⊕X)}(h:∀i:Nat,i<n->b1 (i:Int)=b2 (i:Int)/\∀t,b2 (i:Int)=some (.inl t)->t=bA ((i:Int)+1))(he:b1 (n:Int)=b2 (n:Int))(hx:∀t,b2 (n:Int)≠some (.inl t)):loop b1 0=loop b2 0:=by
 have key:∀k i:Nat,k+i=n->loop b1 (i:Int)=loop b2 (i:Int):=by
  intro k
  induction k with
  | zero =>
   intro i hi
   have hi:i=n:=by omega
   subst hi
   rw[mf b1,mf b2,he]
   cases hb:b2 (i:Int)with
   |none=>rfl
   |some y=>
    cases y with
    |inl t=>exact absurd hb (hx t)
    |inr _=>rfl
  | succ k ihk =>
   intro i hi
   obtain⟨h1,h2⟩:=h i (by omega)
   rw[mf b1,mf b2,h1]
   cases hb:b2 (i:Int)with
   |none=>rfl
   | some y =>
    cases y with
    |inl t=>
     have ht:=h2 t hb
     simp only
     rw[ht,il (by omega) (by omega),show((i:Int)+1)=((i+1:Nat):Int) by omega]
     exact ihk (i+1) (by omega)
    |inr _=>rfl
 exact key n 0 (by omega)
theorem Oe{l:List ag}(h:l.Nodup){i:Nat}(hi:i<l.length):zJ l l[i]=(i:Int):=by
 have hx:l.findIdx? (fun x=>x==l[i])=some i:=by
  rw[vba]
  refine⟨hi,by simp,fun k hk=>?_⟩
  unfold List.Nodup at h
  rw[vbw]at h
  simpa using h k i (by omega) hi hk
 unfold zJ
 rw[hx]
theorem No(l:List ag)(hl:l.length<9223372036854775808):gY l=some (decide l.Nodup):=by
 have:fZ (gY l) (fun r=>r=decide l.Nodup):=by
  unfold gY ma
  refine ay (Qi l.length hl (fun i=>∀(hi:i<l.length),zJ l l[i]=(i:Int)) (fun _=>¬l.Nodup) (fun i hi=>?_) ?_) (fun o ho=>?_)
  ·unfold jp
   rw[vai (vau (by omega)),bP _ i hi]
   simp only[vaa]
   refine co (pI l _ hl) (aE (fun hne=>al (fun hd=>?_)) (fun hne=>al ⟨rfl,fun _=>by simpa using hne⟩))
   rw[Oe hd hi]at hne
   simp at hne
  ·unfold jp
   rw[vaj (by simp)]
  ·cases o with
   |inl _=>
    have ho:¬l.Nodup:=ho
    exact al (decide_eq_false ho).symm
   |inr _=>
    have ho:∀i,i<l.length->∀(hi:i<l.length),zJ l l[i]=(i:Int):=ho
    exact al (vau (RB (fun i hi=>SS hi (ho i hi hi)))).symm
 exact UN.1 this
def CP(l:List ag):List (ag×Bool):=l.foldl (fun m x=>Co m x true) []
theorem L4(l:List ag)(x:ag):CP (l++[x])=Co (CP l) x true:=by unfold CP;rw[vbI];rfl
theorem OX(x:ag):∀(n:Nat) (l:List ag),l.length=n->(xJ (CP l) x).getD false=decide (x∈l)
 |0,l,h=>by
  have:l=[]:=List.length_eq_zero_iff.1 h
  subst this
  simp[CP,xJ]
 | n + 1,l,h => by
  obtain⟨l',y,rfl⟩:∃l' y,l=l'++[y]:=by
   have hne:l≠[]:=fun hc=>by rw[hc]at h;cases h
   exact⟨l.dropLast,l.getLast hne,(List.dropLast_concat_getLast hne).symm⟩
  rw[L4,LK]
  have ih:=OX x n l' (by simpa using h)
  by_cases hxy:x=y
  ·subst hxy;simp
  ·have:(x==y)=false:=by simpa using hxy
   rw[this]
   simp only[vaz,if_false]
   rw[ih]
   simp[hxy]
theorem Nf(l:List ag)(hl:l.length<9223372036854775808):nD l=some (decide l.Nodup):=by
 unfold nD nE
 have key:∀k i:Nat,k+i=l.length->(l.take i).Nodup->fZ (loop (fun(zz:Int×(List (ag×Bool)))=>bM l (l.length:Int) zz.1 zz.2) ((i:Int),CP (l.take i))) (fun o=>o.elim (fun _=>¬l.Nodup) (fun _=>l.Nodup)):=by
  intro k
  induction k with
  | zero =>
   intro i hi hn
   have hi:i=l.length:=by omega
   subst hi
   rw[vbe]at hn ⊢
   have hb:(fun(zz:Int×(List (ag×Bool)))=>bM l (l.length:Int) zz.1 zz.2) ((l.length:Int),CP l)=some (.inr (.inr (CP l))):=by
    show bM l (l.length:Int) (l.length:Int) (CP l)=_
    unfold bM
    rw[vaj (by simp)]
   rw[oK hb]
   exact al hn
  | succ k ihk =>
   intro i hi hn
   have hil:i<l.length:=by omega
   have hg:=OX l[i] _ (l.take i) rfl
   have ht:=vaK hil
   by_cases hm:l[i]∈l.take i
   ·have hb:(fun(zz:Int×(List (ag×Bool)))=>bM l (l.length:Int) zz.1 zz.2) ((i:Int),CP (l.take i))=some (.inr (.inl (CP (l.take i)))):=by
     show bM l (l.length:Int) (i:Int) (CP (l.take i))=_
     unfold bM
     rw[vai (vau (by omega)),bP _ i hil]
     simp only[vaa]
     rw[hg,vau hm,vai rfl]
    rw[oK hb]
    refine al (fun hd=>?_)
    have h2:=(List.take_sublist (i+1) l).nodup hd
    rw[ht,vcJ]at h2
    exact h2.2.2 _ hm _ (va9.2 rfl) rfl
   ·have hb:(fun(zz:Int×(List (ag×Bool)))=>bM l (l.length:Int) zz.1 zz.2) ((i:Int),CP (l.take i))=some (.inl (((i+1:Nat):Int),CP (l.take (i+1)))):=by
     show bM l (l.length:Int) (i:Int) (CP (l.take i))=_
     unfold bM
     rw[vai (vau (by omega)),bP _ i hil]
     simp only[vaa]
     rw[hg,decide_eq_false hm,vaj (by simp),il (by omega) (by omega),ht,L4,show((i:Int)+1)=((i+1:Nat):Int) by omega]
    rw[EY hb]
    refine ihk (i+1) (by omega) ?_
    rw[ht,vcJ]
    exact⟨hn,by simp,fun a ha b hb he=>hm (by rw[va9.1 hb]at he;exact he▸ha)⟩
 obtain⟨o,e,ho⟩:=key l.length 0 (by omega) (by simp)
 rw[List.take_zero]at e
 have e':loop (fun(zz:Int×(List (ag×Bool)))=>bM l (l.length:Int) zz.1 zz.2) (0,[])=some o:=e
 rw[e']
 simp only[vaa]
 cases o with
 |inl _=>
  have ho:¬l.Nodup:=ho
  simp[ho]
 |inr _=>
  have ho:l.Nodup:=ho
  simp[ho]
theorem J0(p:aa)(hp:nP p<=aW):ii p=some (decide (p=qQ)):=by
 unfold ii
 have h:fD p (⟨0,([]:ag),0,([]:List aa)⟩:aa)=some (decide (p=qQ)):=HS p qQ hp
 rw[h];rfl
theorem PZ(t:ae)(hp:nP t.Pred<=aW):mm t=pV t:=by
 unfold mm pV
 rw[J0 _ hp,AS]
 by_cases h6:t.Op=6
 ·by_cases hz:t.Pred=qQ<;>by_cases hl:(t.Preds.length:Int)>0<;>simp[h6,hz,hl]
 ·have e6:(t.Op==6)=false:=by simpa using h6
  simp only[e6,vaz,if_false]
theorem UB(t:ae)(ht:dJ t<=aW)(hp:nP t.Pred<=aW)(hq:∀q∈t.Preds,nP q<=aW)(hs:∀s∈t.Names,s.length<=aW):rA t=vP t:=by
 have h1:=rS t
 have h2:=kC t
 have hb:aW=1073741824:=rfl
 have hL2:mn t.Names (t.Names.length:Int) 0=pW t.Names (t.Names.length:Int) 0:=by
  unfold mn pW
  refine EW t.Names.length (by omega) (fun i hi=>?_) (by unfold jz lz;rw[vaj (by simp),vaj (by simp)]) (fun t'=>by unfold lz;rw[vaj (by simp)];simp)
  have hsi:t.Names[i].length<9223372036854775808:=by have:=hs _ (vav hi);omega
  unfold jz lz
  rw[vai (vau (by omega)),vai (vau (by omega)),bP _ i hi]
  simp only[vaa]
  rw[Jk _ hsi,C0 _ hsi]
  refine⟨rfl,fun t' h=>?_⟩
  simp only[vaa]at h
  split at h
  ·cases h
  ·injection h with h;injection h with h;exact h.symm
 have hL3:∀l:List aa,l.length<9223372036854775808->(∀q∈l,nP q<=aW)->mo l (l.length:Int) 0=pX l (l.length:Int) 0:=fun l hl hq=>by
  unfold mo pX
  refine EW l.length hl (fun i hi=>?_) (by unfold jA jd;rw[vaj (by simp),vaj (by simp)]) (fun t'=>by unfold jd;rw[vaj (by simp)];simp)
  have hqi:=hq _ (vav hi)
  obtain⟨r,er,_⟩:=FQ l[i] hqi
  have hR:jd l (l.length:Int) (i:Int)=if l[i]=qQ then some (.inl (bA ((i:Int)+1)))else if(r !=0)=true then some (.inr (.inl r))else some (.inl (bA ((i:Int)+1))):=by
   unfold jd tZ
   rw[vai (vau (by omega)),bP _ i hi]
   simp only[vaa]
   rw[er]
   simp only[vaa]
   rw[Ay,AS]
   simp only[vaa]
   by_cases hz:l[i]=qQ
   ·simp[hz]
   ·simp[hz]
  rw[hR]
  constructor
  ·unfold jA
   rw[vai (vau (by omega)),bP _ i hi]
   simp only[vaa]
   rw[J0 _ hqi,RI _ hqi,er]
   simp only[vaa]
   by_cases hz:l[i]=qQ
   ·simp[hz]
   ·simp[hz]
  ·intro t' h
   split at h
   ·injection h with h;injection h with h;exact h.symm
   ·split at h
    ·cases h
    ·injection h with h;injection h with h;exact h.symm
 have happ:app ([t.Pred]:List aa) t.Preds=some ([t.Pred]++t.Preds):=eJ (by simp;omega)
 unfold rA vP
 rw[PZ t hp,hL2,Nf _ (by omega),No _ (by omega),happ]
 simp only[vaa]
 rw[hL3 _ (by simp;omega) (fun q h=>by
  rcases vaF.1 h with h|h
  ·rw[va9.1 h];exact hp
  ·exact hq q h)]
 rfl
theorem Ru{X Y:Type}{F1 F2:(X->Option Y)->X->Option Y}(μ:X->Nat)(P:X->Prop)(h:∀(R1 R2:X->Option Y) x,P x->(∀y,μ y<μ x->P y->R1 y=R2 y)->F1 R1 x=F2 R2 x)(x:X)(hx:P x)(hm:μ x<Ul):ku F1 x=ku F2 x:=by
 have key:∀n x,μ x<n->P x->VW F1 n x=VW F2 n x:=by
  intro n
  induction n with
  |zero=>intro x hx;omega
  |succ n ih=>intro x hx hq;exact h _ _ x hq fun y hy hqy=>ih y (by omega) hqy
 exact key _ x hm hx
theorem Tg(t:ae)(ht:dJ t<=aW)(hp:sH (fun p=>nP p<=aW) t)(hs:Cb aW t):vF t=C8 t:=by
 refine Ru (F1:=qy) (F2:=xq) dJ (fun x=>dJ x<=aW/\sH (fun p=>nP p<=aW) x/\Cb aW x) (fun R1 R2 x hx ih=>?_) t ⟨ht,hp,hs⟩ (fo ht)
 obtain⟨hx,hq,hn⟩:=hx
 show mq (fun t=>R1 t) x=oE (fun t=>R2 t) x
 have hq':=(vW _ _).1 hq
 have hn':=(NY _ _).1 hn
 have h1:=jW x
 have hb:aW=1073741824:=rfl
 have hL:kD (fun t=>R1 t) x.Args (x.Args.length:Int) 0=pU (fun t=>R2 t) x.Args (x.Args.length:Int) 0:=by
  unfold kD pU
  refine EW x.Args.length (by omega) (fun i hi=>?_) (by unfold ig lw;rw[vaj (by simp),vaj (by simp)]) (fun t'=>by unfold lw;rw[vaj (by simp)];simp)
  have hm:=vav hi
  have hr:=ih _ (hO hm) ⟨by have:=hO hm;omega,(oH _ _).1 hq'.2.2 _ hm,Sw hn hm⟩
  unfold ig lw
  rw[vai (vau (by omega)),vai (vau (by omega)),bP _ i hi]
  simp only[vaa]
  rw[hr]
  refine⟨rfl,fun t' h=>?_⟩
  cases hR:R2 x.Args[i]with
  |none=>rw[hR]at h;cases h
  | some r =>
   rw[hR]at h
   simp only[vaa]at h
   split at h
   ·cases h
   ·injection h with h;injection h with h;exact h.symm
 unfold mq oE
 rw[UB x hx hq'.1 hq'.2.1 hn'.1,hL]
 rfl
theorem Qc(t:ae)(ht:dJ t<=aW)(hp:sH (fun p=>nP p<=aW) t)(hs:Cb aW t):lU t=rK t:=by
 unfold lU rK
 rw[Sa,Tg t ht hp hs]
theorem oJ{σ X:Type}(n:Nat)(body:σ->Option (σ⊕X))(S:Nat->σ)(e:X)(hin:∀i,i<n->body (S i)=some (.inl (S (i+1))))(hend:body (S n)=some (.inr e)):loop body (S 0)=some e:=by
 have key:∀k i,k+i=n->loop body (S i)=some e:=by
  intro k
  induction k with
  |zero=>
   intro i hi
   have:i=n:=by omega
   subst this
   exact oK hend
  |succ k ih=>
   intro i hi
   rw[EY (hin i (by omega))]
   exact ih (i+1) (by omega)
 exact key n 0 (by omega)
def F8(k:List ag)(h:aa):List ag:=if h.Name∈k then k else k++[h.Name]
theorem Rx(k:List ag)(h:aa):(F8 k h).length<=k.length+1:=by
 unfold F8
 split
 ·omega
 ·simp
def sP(l:List aa)(k:List ag):List ag:=l.foldl F8 k
theorem Do:∀(l:List aa) (k:List ag),(sP l k).length<=k.length+l.length
 |[],k=>vam _
 |h::l,k=>by
  have h1:=Do l (F8 k h)
  have h2:=Rx k h
  show(sP l (F8 k h)).length<=_
  rw[vaV];omega
theorem LC(l:List aa)(k:List ag)(i:Nat)(hi:i<l.length):sP (l.take (i+1)) k=F8 (sP (l.take i) k) l[i]:=by
 rw[vaK hi]
 unfold sP
 rw[vbI];rfl
def jB(l:List aa)(k:List ag):List ag:=l.foldl (fun k q=>sP (rm 5 q []) k) k
theorem Dp:∀(l:List aa) (k:List ag),(jB l k).length<=k.length+nL l
 |[],k=>vam _
 |q::l,k=>by
  have h1:=Dp l (sP (rm 5 q []) k)
  have h2:=Do (rm 5 q []) k
  have h3:=I7 5 q []
  show(jB l (sP (rm 5 q []) k)).length<=_
  rw[nL]
  simp at h3
  omega
theorem LD(l:List aa)(k:List ag)(i:Nat)(hi:i<l.length):jB (l.take (i+1)) k=sP (rm 5 l[i] []) (jB (l.take i) k):=by
 rw[vaK hi]
 unfold jB
 rw[vbI];rfl
mutual
def Dq:ae->List ag->List ag
 |⟨_,_,xs,_,p,ps⟩,k=>fK xs (jB (p::ps) k)
def fK:List ae->List ag->List ag
 |[],k=>k
 |a::xs,k=>fK xs (Dq a k)
end
theorem QA(t:ae)(k:List ag):Dq t k=fK t.Args (jB ([t.Pred]++t.Preds) k):=by obtain⟨o,n,xs,ns,p,ps⟩:=t;rw[Dq];rfl
mutual
theorem Oi:∀(t:ae) (k:List ag),(Dq t k).length<=k.length+wT t
 |⟨o,n,xs,ns,p,ps⟩,k=>by
  have h1:=EP xs (jB (p::ps) k)
  have h2:=Dp (p::ps) k
  rw[nL]at h2
  rw[Dq,wT]
  omega
theorem EP:∀(xs:List ae) (k:List ag),(fK xs k).length<=k.length+uK xs
 |[],k=>by rw[fK];omega
 |a::xs,k=>by
  have h1:=Oi a k
  have h2:=EP xs (Dq a k)
  rw[fK,uK];omega
end
theorem Ck(a:ae):∀(xs:List ae) (k:List ag),fK (xs++[a]) k=Dq a (fK xs k)
 |[],k=>by rw[va4,fK,fK,fK]
 |b::xs,k=>by rw[vbk,fK,fK,Ck a xs]
theorem Sf(l:List ae)(i:Nat)(hi:i<l.length):uK (l.take i)+wT l[i]<=uK l:=by
 induction l generalizing i with
 |nil=>simp at hi
 | cons a l ih =>
  cases i with
  |zero=>simp[uK]
  |succ i=>
   rw[List.take_succ_cons,uK,uK,List.getElem_cons_succ]
   have:=ih i (by simpa using hi)
   omega
theorem XF(l:List aa)(m:List ag)(h:l.length+m.length<=1000000000):ic l (l.length:Int) 0 m=some (sP l m):=by
 unfold ic
 refine oJ l.length (fun(zz:Int×(List ag))=>cO l (l.length:Int) zz.1 zz.2) (fun i=>((i:Int),sP (l.take i) m)) (sP l m) (fun i hi=>?_) ?_
 ·show cO l (l.length:Int) (i:Int) (sP (l.take i) m)=_
  have hl:=Do (l.take i) m
  rw[vaZ]at hl
  unfold cO
  rw[vai (vau (by omega)),bP _ i hi]
  simp only[vaa]
  rw[F3 _ _ (by omega),il (by omega) (by omega),LC l m i hi,show((i:Int)+1)=((i+1:Nat):Int) by omega]
  simp only[vaa]
  unfold F8
  by_cases hm:l[i].Name∈sP (l.take i) m
  ·simp[hm]
  ·rw[vai (by simp[hm]),vaj hm,eJ (by simp;omega)];rfl
 ·show cO l (l.length:Int) (l.length:Int) (sP (l.take l.length) m)=_
  unfold cO
  rw[vaj (by simp),vbe]
theorem XI(l:List aa)(m:List ag)(h:l.length+m.length<=1000000000):qV l (l.length:Int) m 0=some (sP l m):=by
 unfold qV
 refine oJ l.length (fun(zz:(List ag)×Int)=>eW l (l.length:Int) zz.1 zz.2) (fun i=>(sP (l.take i) m,(i:Int))) (sP l m) (fun i hi=>?_) ?_
 ·show eW l (l.length:Int) (sP (l.take i) m) (i:Int)=_
  have hl:=Do (l.take i) m
  rw[vaZ]at hl
  unfold eW
  rw[vai (vau (by omega)),bP _ i hi]
  simp only[vaa]
  rw[pI _ _ (by omega),il (by omega) (by omega),LC l m i hi,show((i:Int)+1)=((i+1:Nat):Int) by omega]
  simp only[vaa]
  rw[Rt]
  unfold F8
  have ha:((sP (l.take i) m).any fun k=>k==l[i].Name)=decide (l[i].Name∈sP (l.take i) m):=by
   rw[vb6]
   simp
  rw[ha]
  by_cases hm:l[i].Name∈sP (l.take i) m
  ·simp[hm]
  ·rw[vai (by simp[hm]),vaj hm,eJ (by simp;omega)];rfl
 ·show eW l (l.length:Int) (sP (l.take l.length) m) (l.length:Int)=_
  unfold eW
  rw[vaj (by simp),vbe]
theorem RJ(p:aa)(hp:nP p<=aW):xT p=some (rm 5 p []):=by
 unfold xT
 rw[S2 p 5 [] (by simpa using hp)];rfl
theorem RZ(p:aa)(hp:nP p<=aW):Ap p=some (rm 5 p []):=by
 unfold Ap
 rw[PC p 5 [] (by simpa using hp)];rfl
theorem I6(l:List aa)(m:List ag)(i:Nat)(hi:i<l.length):(rm 5 l[i] []).length+(jB (l.take i) m).length<=m.length+nL l:=by
 have h1:=Dp (l.take i) m
 have h2:=I7 5 l[i] []
 have h3:=uo l i hi
 have h4:=j1 l (i+1)
 simp at h2
 omega
theorem XE(l:List aa)(m:List ag)(h:nL l+m.length<=1000000000)(hl:l.length<=aW):ib l (l.length:Int) 0 m=some (jB l m):=by
 have hb:aW=1073741824:=rfl
 unfold ib
 refine oJ l.length (fun(zz:Int×(List ag))=>cN l (l.length:Int) zz.1 zz.2) (fun i=>((i:Int),jB (l.take i) m)) (jB l m) (fun i hi=>?_) ?_
 ·show cN l (l.length:Int) (i:Int) (jB (l.take i) m)=_
  have hq:=Jj (vav hi)
  have hB:=I6 l m i hi
  unfold cN
  rw[vai (vau (by omega)),bP _ i hi]
  simp only[vaa]
  rw[RJ _ (by omega)]
  simp only[vaa]
  rw[XF _ _ (by omega),il (by omega) (by omega),LD l m i hi,show((i:Int)+1)=((i+1:Nat):Int) by omega]
  rfl
 ·show cN l (l.length:Int) (l.length:Int) (jB (l.take l.length) m)=_
  unfold cN
  rw[vaj (by simp),vbe]
theorem XH(l:List aa)(m:List ag)(h:nL l+m.length<=1000000000)(hl:l.length<=aW):qU l (l.length:Int) m 0=some (jB l m):=by
 have hb:aW=1073741824:=rfl
 unfold qU
 refine oJ l.length (fun(zz:(List ag)×Int)=>eV l (l.length:Int) zz.1 zz.2) (fun i=>(jB (l.take i) m,(i:Int))) (jB l m) (fun i hi=>?_) ?_
 ·show eV l (l.length:Int) (jB (l.take i) m) (i:Int)=_
  have hq:=Jj (vav hi)
  have hB:=I6 l m i hi
  unfold eV
  rw[vai (vau (by omega)),bP _ i hi]
  simp only[vaa]
  rw[RZ _ (by omega)]
  simp only[vaa]
  rw[XI _ _ (by omega),il (by omega) (by omega),LD l m i hi,show((i:Int)+1)=((i+1:Nat):Int) by omega]
  rfl
 ·show eV l (l.length:Int) (jB (l.take l.length) m) (l.length:Int)=_
  unfold eV
  rw[vaj (by simp),vbe]
abbrev hC(x:ae×List ag):Prop:=dJ x.1<=aW/\x.2.length+wT x.1<=1000000000
theorem SY{x:ae}{k:List ag}(h:dJ x<=aW/\k.length+wT x<=1000000000)(i:Nat)(hi:i<x.Args.length):hC (x.Args[i],fK (x.Args.take i) (jB ([x.Pred]++x.Preds) k)):=by
 have hm:=vav hi
 have h1:=hO hm
 have h2:=EP (x.Args.take i) (jB ([x.Pred]++x.Preds) k)
 have h3:=Dp ([x.Pred]++x.Preds) k
 have h4:=Sf x.Args i hi
 have h5:=Mb x
 rw[List.singleton_append,nL]at h3
 refine⟨by show dJ x.Args[i]<=aW;omega,?_⟩
 show(fK (x.Args.take i) (jB ([x.Pred]++x.Preds) k)).length+wT x.Args[i]<=1000000000
 rw[List.singleton_append]at h2 ⊢
 omega
theorem XG(t:ae)(k:List ag)(h:hC (t,k)):qx t k=some (Dq t k):=by
 refine jr (F:=nU) (fun x=>dJ x.1) hC (fun x=>Dq x.1 x.2) (fun R x hx ih=>?_) (t,k) h (fo h.1)
 obtain⟨t,k⟩:=x
 have hx:dJ t<=aW/\k.length+wT t<=1000000000:=hx
 show jw (fun t k0=>R (t,k0)) t k=some (Dq t k)
 have hb:aW=1073741824:=rfl
 have h1:=jW t
 have h2:=kC t
 have h5:=Mb t
 have hq:nL ([t.Pred]++t.Preds)=nP t.Pred+nL t.Preds:=by rw[List.singleton_append,nL]
 unfold jw
 rw[eJ (by simp;omega)]
 simp only[vaa]
 rw[XE _ _ (by omega) (by simp;omega)]
 simp only[vaa]
 have hL:ie (fun t k0=>R (t,k0)) t.Args (t.Args.length:Int) 0 (jB ([t.Pred]++t.Preds) k)=some (fK t.Args (jB ([t.Pred]++t.Preds) k)):=by
  unfold ie
  have e:=oJ t.Args.length (fun(zz:Int×(List ag))=>cP (fun t k0=>R (t,k0)) t.Args (t.Args.length:Int) zz.1 zz.2) (fun i=>((i:Int),fK (t.Args.take i) (jB ([t.Pred]++t.Preds) k))) (fK t.Args (jB ([t.Pred]++t.Preds) k)) (fun i hi=>?_) ?_
  ·rw[List.take_zero,fK]at e
   exact e
  ·show cP (fun t k0=>R (t,k0)) t.Args (t.Args.length:Int) (i:Int) (fK (t.Args.take i) (jB ([t.Pred]++t.Preds) k))=_
   unfold cP
   rw[vai (vau (by omega)),bP _ i hi]
   simp only[vaa]
   rw[ih (t.Args[i],fK (t.Args.take i) (jB ([t.Pred]++t.Preds) k)) (hO (vav hi)) (SY hx i hi)]
   simp only[vaa]
   rw[il (by omega) (by omega),vaK hi,Ck,show((i:Int)+1)=((i+1:Nat):Int) by omega]
  ·show cP (fun t k0=>R (t,k0)) t.Args (t.Args.length:Int) (t.Args.length:Int) (fK (t.Args.take t.Args.length) (jB ([t.Pred]++t.Preds) k))=_
   unfold cP
   rw[vaj (by simp),vbe]
 rw[hL,QA]
 rfl
theorem XJ(t:ae)(k:List ag)(h:hC (t,k)):ED t k=some (Dq t k):=by
 refine jr (F:=zu) (fun x=>dJ x.1) hC (fun x=>Dq x.1 x.2) (fun R x hx ih=>?_) (t,k) h (fo h.1)
 obtain⟨t,k⟩:=x
 have hx:dJ t<=aW/\k.length+wT t<=1000000000:=hx
 show tY (fun t a=>R (t,a)) t k=some (Dq t k)
 have hb:aW=1073741824:=rfl
 have h1:=jW t
 have h2:=kC t
 have h5:=Mb t
 have hq:nL ([t.Pred]++t.Preds)=nP t.Pred+nL t.Preds:=by rw[List.singleton_append,nL]
 unfold tY
 rw[eJ (by simp;omega)]
 simp only[vaa]
 rw[XH _ _ (by omega) (by simp;omega)]
 simp only[vaa]
 have hL:qW (fun t a=>R (t,a)) t.Args (t.Args.length:Int) (jB ([t.Pred]++t.Preds) k) 0=some (fK t.Args (jB ([t.Pred]++t.Preds) k)):=by
  unfold qW
  have e:=oJ t.Args.length (fun(zz:(List ag)×Int)=>eX (fun t a=>R (t,a)) t.Args (t.Args.length:Int) zz.1 zz.2) (fun i=>(fK (t.Args.take i) (jB ([t.Pred]++t.Preds) k),(i:Int))) (fK t.Args (jB ([t.Pred]++t.Preds) k)) (fun i hi=>?_) ?_
  ·rw[List.take_zero,fK]at e
   exact e
  ·show eX (fun t a=>R (t,a)) t.Args (t.Args.length:Int) (fK (t.Args.take i) (jB ([t.Pred]++t.Preds) k)) (i:Int)=_
   unfold eX
   rw[vai (vau (by omega)),bP _ i hi]
   simp only[vaa]
   rw[ih (t.Args[i],fK (t.Args.take i) (jB ([t.Pred]++t.Preds) k)) (hO (vav hi)) (SY hx i hi)]
   simp only[vaa]
   rw[il (by omega) (by omega),vaK hi,Ck,show((i:Int)+1)=((i+1:Nat):Int) by omega]
  ·show eX (fun t a=>R (t,a)) t.Args (t.Args.length:Int) (fK (t.Args.take t.Args.length) (jB ([t.Pred]++t.Preds) k)) (t.Args.length:Int)=_
   unfold eX
   rw[vaj (by simp),vbe]
 rw[hL,QA]
 rfl
def M5(t:ae):List ag:=Dq t []
theorem P9(t:ae)(hl:dJ t<=aW)(hw:wT t<=1000000000):py t=some (M5 t):=by
 unfold py
 rw[XG t [] ⟨hl,by simpa using hw⟩];rfl
theorem Qd(t:ae)(hl:dJ t<=aW)(hw:wT t<=1000000000):Aq t=some (M5 t):=by
 unfold Aq
 rw[XJ t [] ⟨hl,by simpa using hw⟩];rfl
theorem PP(t:ae):(M5 t).length<=wT t:=by
 have:=Oi t []
 simpa[M5]using this
theorem LZ(p:aa)(hp:nP p<=aW):nY p=some (BM p):=by
 have h:fD p (⟨2,([]:ag),1,([]:List aa)⟩:aa)=some (decide (p=Ke)):=HS p Ke hp
 unfold nY BM
 rw[J0 p hp]
 simp only[vaa]
 rw[h]
 cases decide (p=qQ)<;>rfl
theorem J6(a b:aa)(ha:nP a<=aW)(hb:nP b<=aW):eT a b=some (Ly a b):=by
 unfold eT Ly
 rw[LZ a ha]
 simp only[vaa]
 rw[LZ b hb,HS a b ha]
 cases BM a<;>cases BM b<;>simp
theorem R6(a b:List ag)(ha:a.length<9223372036854775808):rD a b=some (decide (a=b)):=by
 unfold rD
 by_cases hl:a.length=b.length
 ·rw[vaj (by simp[hl])]
  unfold qA
  rw[rR hl ha (fun zz=>n9 a b (a.length:Int) zz) (fun i x z=>if(!(x==z))=true then some (.inr (.inl ()))else some (.inl (bA (i+1)))) (fun x y=>decide (x=y)) (.inl ()) (.inr ()) (fun i=>rfl) (fun x _ z _ i=>by by_cases h:x=z<;>simp[h]),MJ]
  by_cases h:a=b<;>simp[h]
 ·rw[vai (by simp;omega),decide_eq_false (fun he=>hl (by rw[he]))]
theorem Qe(a b:List aa)(hl:a.length<9223372036854775808)(ha:∀x∈a,nP x<=aW)(hb:∀x∈b,nP x<=aW):kE a b=some (lE Ly a b):=by
 unfold kE
 by_cases h4:a.length=b.length
 ·rw[vaj (by simp[h4])]
  unfold kN
  rw[rR h4 hl (fun zz=>jo b a (a.length:Int) zz) (fun i x z=>(eT x z).bind fun r=>if(!r)=true then some (.inr (.inl ()))else some (.inl (bA (i+1)))) Ly (.inl ()) (.inr ()) (fun i=>rfl) (fun x hx z hz i=>by
   rw[J6 _ _ (ha x hx) (hb z hz)]
   cases h:Ly x z<;>simp)]
  cases h:lE Ly a b<;>simp
 ·rw[vai (by simp;omega),HJ h4]
theorem LY(a b:ae)(ha:dJ a<=aW)(hpa:sH (fun p=>nP p<=aW) a)(hb:sH (fun p=>nP p<=aW) b):rz a b=some (mW a b):=by
 refine jr (F:=tn) (fun x=>dJ x.1) (fun x=>dJ x.1<=aW/\sH (fun p=>nP p<=aW) x.1/\sH (fun p=>nP p<=aW) x.2) (fun x=>mW x.1 x.2) (fun R x hx ih=>?_) (a,b) ⟨ha,hpa,hb⟩ (fo ha)
 obtain⟨u,v⟩:=x
 obtain⟨hu,hpu,hv⟩:=hx
 have hu:dJ u<=aW:=hu
 have hpu:sH (fun p=>nP p<=aW) u:=hpu
 have hv:sH (fun p=>nP p<=aW) v:=hv
 show nV (fun a a2=>R (a,a2)) u v=some (mW u v)
 obtain⟨v1,v2,v3⟩:=(vW _ v).1 hv
 obtain⟨u1,u2,u3⟩:=(vW _ u).1 hpu
 have l1:=jW u
 have l2:=rS u
 have l3:=kC u
 unfold aW at hu
 have hA:ij (fun a a2=>R (a,a2)) u.Args v.Args=some (lE mW u.Args v.Args):=by
  unfold ij
  by_cases h3:u.Args.length=v.Args.length
  ·rw[vaj (by simp[h3])]
   unfold jn
   rw[rR h3 (by omega) (fun zz=>gI (fun a a2=>R (a,a2)) v.Args u.Args (u.Args.length:Int) zz) (fun i x z=>(R (x,z)).bind fun r=>if(!r)=true then some (.inr (.inl ()))else some (.inl (bA (i+1)))) mW (.inl ()) (.inr ()) (fun i=>rfl) (fun x hx z hz i=>by
    rw[ih (x,z) (hO hx) ⟨by have:=hO hx;show dJ x<=aW;unfold aW;omega,(oH _ _).1 u3 x hx,(oH _ _).1 v3 z hz⟩]
    cases h:mW x z<;>simp)]
   cases h:lE mW u.Args v.Args<;>simp
  ·rw[vai (by simp;omega),HJ h3]
 unfold nV
 rw[OW,hA,R6 _ _ (by omega),J6 _ _ u1 v1,Qe _ _ (by omega) u2 v2]
 simp only[vaa]
 by_cases h1:u.Op=v.Op
 ·by_cases h2:u.Name=v.Name
  ·by_cases h5:u.Names=v.Names
   ·cases h6:Ly u.Pred v.Pred<;>cases h7:lE Ly u.Preds v.Preds<;>simp[h1,h2,h5]
   ·simp[h1,h2,h5]
  ·simp[h1,h2]
 ·simp[h1]
theorem Cw(s t:ae)(h:Er (af s)+(Er (af t)+0)<=1048576):nq s t=some true:=by
 have hb:aW=1073741824:=rfl
 have ws:=TP s
 have wt:=TP t
 have ls:=M9 s
 have lt:=M9 t
 have ps:sH (fun p=>nP p<=aW) s:=Pe aW s (by omega)
 have pt:sH (fun p=>nP p<=aW) t:=Pe aW t (by omega)
 have ns:Cb aW s:=Ln (by omega) _ (Qn 1048576 s (by omega))
 have hPL:vV (fun p=>nP p<=aW) [s,t]:=by rw[vV,vV];exact⟨ps,pt,trivial⟩
 obtain⟨f,ef,_⟩:=Ur [s,t] (by simp only[sR];omega) hPL
 have hfl:=rO s
 have hhl:=PP s
 unfold nq
 rw[ef]
 simp only[vaa]
 by_cases hf:(!f)=true
 ·rw[vai hf,IK];rfl
 rw[vaj hf]
 obtain⟨r,er,_⟩:=NE s (by omega) ps
 rw[Qc s (by omega) ps ns,er]
 simp only[vaa,beq_self_eq_true,if_true]
 rw[RT s (by omega) (by omega),R0 s (by omega) (by omega)]
 simp only[vaa]
 rw[FB _ _ (by omega)]
 simp only[vaa,decide_true,if_true]
 rw[P9 s (by omega) (by omega),Qd s (by omega) (by omega)]
 simp only[vaa]
 rw[FB _ _ (by omega)]
 simp only[vaa,decide_true,if_true]
 rw[LY s t (by omega) ps pt,R5 s t (by omega) pt]
 simp only[vaa,beq_self_eq_true,if_true]
 rw[LY s s (by omega) ps ps,Ka]
 simp only[vaa,if_true]
 rw[IK]
 rfl
end Go.Proofs.YtggeppllafbidaaGreatDoor
