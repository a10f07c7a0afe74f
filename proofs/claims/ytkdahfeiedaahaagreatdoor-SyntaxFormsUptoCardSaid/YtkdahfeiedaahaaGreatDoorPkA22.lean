/- PROVED: a part of the proof. Conditions: none. -/
import Derived.Test.YtkdahfeiedaahaaGreatDoorPkA21
import Derived.Test.YtkdahfeiedaahaaGreatDoorPkA20
noncomputable section
namespace Go.Proofs.YtkdahfeiedaahaaGreatDoor
open Go
set_option linter.unusedSimpArgs false
set_option linter.unusedVariables false
def eK(c:Int):Bool:=decide (97<=c)&&decide (c<=122)
def qX(c:Int):Bool:=decide (65<=c)&&decide (c<=90)
def F9(c:Int):Bool:=decide (48<=c)&&decide (c<=57)
theorem tq(c:Int):pw c=some (eK c):=by unfold pw eK;split<;>simp_all<;>omega
theorem Bz(c:Int):rb c=some (qX c):=by unfold rb qX;split<;>simp_all<;>omega
theorem yU(c:Int):su c=some (F9 c):=by unfold su F9;split<;>simp_all<;>omega
theorem pH(c:Int):ls c=some (eK c):=by unfold ls eK;split<;>simp_all<;>omega
theorem yt(c:Int):l8 c=some (qX c):=by unfold l8 qX;split<;>simp_all<;>omega
theorem xn(c:Int):pG c=some (F9 c):=by unfold pG F9;split<;>simp_all<;>omega
def mi(b:UInt8):Bool:=eK b.toNat||F9 b.toNat||(b.toNat:Int)==95
def j6(b:UInt8):Bool:=eK b.toNat||qX b.toNat||F9 b.toNat
def pz(s:ah):Bool:=decide ((s.length:Int)>=1)&&decide ((s.length:Int)<=24)
def YH(s:ah):Bool:=dJ.any fun k=>k==s
def od(p:Int->Bool)(s:ah):Bool:=match s with|[]=>false|c::_=>p c.toNat
abbrev Rb(s:ah):Prop:=s.length<9223372036854775808
theorem yW(s:ah):sw s=some (pz s):=by
 unfold sw pz
 by_cases h:(s.length:Int)>=1
 ·rw[vaq (va3 h),va3 h];rfl
 ·rw[vas (by simpa using h),decide_eq_false h];rfl
theorem Js(s:ah):vA s=some (YH s):=by
 unfold vA uH
 have h42:dJ.length=42:=rfl
 have:=pp dJ (by rw[h42];omega) (fun zz=>jK s zz) (fun k=>k==s) (Sum.inl ()) (Sum.inr ()) (fun i h=>by
  rw[h42]at h
  simp only[jK]
  rw[vaq (by simp;omega),bo _ i (by rw[h42];omega)]
  simp only[vaa]
  split<;>simp_all) (by simp only[jK];rw[vas (by rw[h42];simp)]) 0 (vaN _)
 simp only[Int.ofNat_zero,vbi]at this
 rw[this]
 unfold YH
 cases dJ.any (fun k=>k==s)<;>rfl
theorem KK:BY=some dJ:=rfl
theorem LX(s:ah):rZ s=some (YH s):=by
 unfold rZ
 have h42:dJ.length=42:=rfl
 rw[KK]
 simp only[vaa]
 rw[Dt _ _ (by rw[h42];omega)]
 simp only[vaa,Qt]
 rfl
def uE(s:ah):Bool:=pz s&&od eK s&&!YH s&&s.all mi
def pN(s:ah):Bool:=pz s&&od qX s&&s.all j6&&!(s==[73,110,116])&&!(s==[66,111,111,108])&&!(s==[67,101,108,108])&&!(s==[70,117,110])
def CS(b:Bool):Int:=if b then 0 else 3
theorem JS{s:ah}(h:pz s=true):∃c r,s=c::r:=by
 cases s with
 |nil=>simp[pz]at h
 |cons c r=>exact⟨c,r,rfl⟩
theorem Jx(s:ah)(i:Nat)(h:i<s.length):vC s i=some (!mi s[i]):=by
 unfold vC mi
 simp only[pl s i h,vaa,tq,yU]
 cases eK (s[i].toNat:Int)<;>cases F9 (s[i].toNat:Int)<;>simp[bne]
theorem KA(s:ah)(i:Nat)(h:i<s.length):ml s i=some (!mi s[i]):=by
 unfold ml mi
 simp only[pl s i h,vaa,pH,xn]
 cases eK (s[i].toNat:Int)<;>cases F9 (s[i].toNat:Int)<;>simp[bne]
theorem Jz(s:ah)(hs:Rb s)(i:Nat)(hi:i<=s.length):vD s i=some (if(s.drop i).any (fun b=>!mi b)=true then .inl ()else .inr ()):=by
 unfold vD
 refine pp s hs _ (fun b=>!mi b) _ _ (fun j h=>?_) ?_ i hi
 ·simp only[rA]
  rw[vaq (by simp;omega),Jx s j h]
  simp only[vaa]
  split<;>simp_all
 ·simp only[rA];rw[vas (by simp)]
theorem KC(s:ah)(hs:Rb s):sX s s.length 0=some (if s.any (fun b=>!mi b)=true then .inl ()else .inr ()):=by
 unfold sX
 have:=pp s hs (fun zz=>oH s s.length zz) (fun b=>!mi b) (.inl ()) (.inr ()) (fun j h=>by
  simp only[oH]
  rw[vaq (by simp;omega),KA s j h]
  simp only[vaa]
  split<;>simp_all) (by simp only[oH];rw[vas (by simp)]) 0 (vaN _)
 simpa using this
theorem PI{b:UInt8}(h:eK b.toNat=true):mi b=true:=by simp[mi,h]
theorem Jv(s:ah):vB s=some (!(pz s&&od eK s&&!YH s)):=by
 unfold vB
 rw[yW]
 simp only[vaa]
 by_cases h:pz s=true
 ·obtain⟨c,r,rfl⟩:=JS h
  simp only[h,uD,vaa,tq,Js,od]
  cases eK (c.toNat:Int)<;>simp
 ·simp[h]
theorem OB(s:ah)(hs:Rb s):Cq s=some (uE s):=by
 unfold Cq uE
 rw[Jv]
 simp only[vaa]
 by_cases h:(pz s&&od eK s&&!YH s)=true
 ·have hs1:pz s=true:=by revert h;cases pz s<;>simp
  obtain⟨c,r,rfl⟩:=JS hs1
  have hc:eK (c.toNat:Int)=true:=by revert h;simp[od];intro _ h _;exact h
  have hL:=Jz (c::r) hs 1 (by simp)
  simp only[Int.ofNat_one]at hL
  rw[h,hL]
  simp only[List.drop_succ_cons,vbi,List.all_cons,PI hc,vbb]
  rw[vbn]
  simp only[vb4]
  cases r.all mi<;>simp
 ·simp[h]
theorem Ky(s:ah):sV s=some (!(pz s&&od eK s&&!YH s)):=by
 unfold sV pz
 cases s with
 |nil=>simp
 | cons c r =>
  have h1:¬(((c::r).length:Int)<1):=by simp;omega
  have h2:(((c::r).length:Int)>=1):=by omega
  simp only[h1,h2,decide_false,decide_true,vbb,vaz,if_false,uD,vaa,pH,LX,od]
  by_cases h:(((c::r).length:Int)>24)
  ·have h':¬(((c::r).length:Int)<=24):=by omega
   simp only[h,h',decide_true,decide_false,if_true]
   simp
  ·have h':(((c::r).length:Int)<=24):=by omega
   simp only[h,h',decide_true,decide_false,if_false,vaz]
   cases eK (c.toNat:Int)<;>simp
theorem PT(s:ah)(hs:Rb s):yg s=some (CS (uE s)):=by
 unfold yg
 rw[Ky,KC s hs]
 unfold uE CS
 cases(pz s&&od eK s&&!YH s)with
 |false=>simp
 |true=>
  simp only[vaa,Bool.not_true,vaz,if_false,vbb]
  rw[vbn]
  simp only[vb4]
  cases s.all mi<;>simp
theorem AR(s:ah)(i:Nat)(h:i<s.length):jY s i=some (!j6 s[i]):=by
 unfold jY j6
 simp only[pl s i h,vaa,tq,Bz,yU]
 cases eK (s[i].toNat:Int)<;>cases qX (s[i].toNat:Int)<;>simp
theorem KH(s:ah)(i:Nat)(h:i<s.length):mn s i=some (!j6 s[i]):=by
 unfold mn j6
 simp only[pl s i h,vaa,pH,yt,xn]
 cases eK (s[i].toNat:Int)<;>cases qX (s[i].toNat:Int)<;>simp
theorem uq(s:ah)(hs:Rb s):jM s=some (s.all j6):=by
 unfold jM nS
 have:=pp s hs (fun zz=>fL s zz) (fun b=>!j6 b) (.inl ()) (.inr ()) (fun j h=>by
  simp only[fL]
  rw[vaq (by simp;omega),AR s j h]
  simp only[vaa]
  split<;>simp_all) (by simp only[fL];rw[vas (by simp)]) 0 (vaN _)
 simp only[Int.ofNat_zero,vbi]at this
 rw[this,vbn]
 simp only[vb4]
 cases s.all j6<;>rfl
theorem H6(s:ah)(hs:Rb s):tt s=some (!(pz s&&od qX s&&s.all j6)):=by
 unfold tt
 rw[yW]
 simp only[vaa]
 by_cases h:pz s=true
 ·obtain⟨c,r,rfl⟩:=JS h
  simp only[h,uD,vaa,Bz,uq _ hs,od]
  cases qX (c.toNat:Int)<;>simp
 ·simp[h]
theorem M5(s:ah)(hs:Rb s):Ag s=some (pN s):=by
 unfold Ag pN
 rw[H6 s hs]
 simp only[vaa]
 cases(pz s&&od qX s&&s.all j6)<;>cases(s==[73,110,116])<;>cases(s==[66,111,111,108])<;>cases(s==[67,101,108,108])<;>cases(s==[70,117,110])<;>rfl
theorem KF(s:ah):sY s=some (!(pz s&&od qX s&&!(s==[73,110,116])&&!(s==[66,111,111,108])&&!(s==[67,101,108,108])&&!(s==[70,117,110]))):=by
 unfold sY pz
 cases s with
 |nil=>simp
 | cons c r =>
  have h1:¬(((c::r).length:Int)<1):=by simp;omega
  have h2:(((c::r).length:Int)>=1):=by omega
  simp only[h1,h2,decide_false,decide_true,vbb,vaz,if_false,uD,vaa,yt,od]
  by_cases h:(((c::r).length:Int)>24)
  ·have h':¬(((c::r).length:Int)<=24):=by omega
   simp only[h,h',decide_true,decide_false,if_true]
   simp
  ·have h':(((c::r).length:Int)<=24):=by omega
   simp only[h,h',decide_true,decide_false,if_false,vaz]
   cases qX (c.toNat:Int)<;>cases(c::r==[73,110,116])<;>cases(c::r==[66,111,111,108])<;>cases(c::r==[67,101,108,108])<;>cases(c::r==[70,117,110])<;>rfl
theorem KJ(s:ah)(hs:Rb s):s4 s s.length 0=some (if s.any (fun b=>!j6 b)=true then .inl ()else .inr ()):=by
 unfold s4
 have:=pp s hs (fun zz=>oL s s.length zz) (fun b=>!j6 b) (.inl ()) (.inr ()) (fun j h=>by
  simp only[oL]
  rw[vaq (by simp;omega),KH s j h]
  simp only[vaa]
  split<;>simp_all) (by simp only[oL];rw[vas (by simp)]) 0 (vaN _)
 simpa using this
theorem PV(s:ah)(hs:Rb s):yh s=some (CS (pN s)):=by
 unfold yh
 rw[KF,KJ s hs]
 unfold pN CS
 rw[vbn]
 simp only[vb4]
 cases(pz s&&od qX s)<;>cases s.all j6<;>cases(s==[73,110,116])<;>cases(s==[66,111,111,108])<;>cases(s==[67,101,108,108])<;>cases(s==[70,117,110])<;>rfl
theorem Wp(b:UInt8):((b.toNat:Int)==46)=(b==46):=by
 rw[vbA]
 simp only[vaW]
 constructor
 ·intro h
  have:b.toNat=46:=by omega
  exact UInt8.toNat_inj.1 this
 ·rintro rfl;rfl
def pJ:ah->List ah
 |[]=>[[]]
 |c::r=>if(c==46)=true then[]::pJ r else match pJ r with
  |[]=>[[c]]
  |h::t=>(c::h)::t
def Ij(p:ah):List ah->List ah
 |[]=>[p]
 |h::t=>(p++h)::t
theorem E5:∀(s:ah),pJ s≠[]
 |[]=>by simp[pJ]
 | c :: r => by
  unfold pJ
  split
  ·simp
  ·split<;>simp
theorem Jg(c:UInt8)(r:ah)(h:¬(c==46)=true):pJ (c::r)=Ij [c] (pJ r):=by
 conv=>lhs;unfold pJ
 rw[vas h]
 cases pJ r<;>rfl
theorem Py(p q:ah)(l:List ah):Ij p (Ij q l)=Ij (p++q) l:=by cases l<;>simp[Ij]
theorem Ns{l:List ah}(h:l≠[]):Ij [] l=l:=by cases l with
 |nil=>exact absurd rfl h
 |cons=>rfl
theorem MG:∀(p s:ah),p.all (fun c=>!(c==46))=true->pJ (p++s)=Ij p (pJ s)
 |[],s,_=>(Ns (E5 s)).symm
 |c::p,s,h=>by
  rw[List.all_cons,vad]at h
  rw[va4,Jg _ _ (by simpa using h.1),MG p s h.2,Py]
  rfl
theorem MH:∀(s:ah),(pJ s).length<=s.length+1/\∀x∈pJ s,x.length<=s.length
 |[]=>by simp[pJ]
 | c :: r => by
  obtain⟨h1,h2⟩:=MH r
  by_cases h:(c==46)=true
  ·unfold pJ
   rw[vaq h]
   refine⟨by simp;omega,fun x hx=>?_⟩
   rw[vaC]at hx
   rcases hx with rfl|hx
   ·simp
   ·have:=h2 x hx;simp;omega
  ·rw[Jg c r h]
   cases hd:pJ r with
   |nil=>exact absurd hd (E5 r)
   | cons a t =>
    rw[hd]at h1 h2
    refine⟨by simpa[Ij]using Nat.le_succ_of_le h1,fun x hx=>?_⟩
    simp only[Ij,vaC]at hx
    rcases hx with rfl|hx
    ·have:=h2 a (by simp);simp;omega
    ·have:=h2 x (by simp[hx]);simp;omega
def qj(s:ah):ah×ah×Bool:=match s.findIdx? (fun c=>c==46)with
 |some j=>(s.take j,s.drop (j+1),true)
 |none=>(s,[],false)
theorem H1(s:ah)(hs:Rb s):BB s=some (qj s):=by
 unfold BB Cp
 have:=Pj s hs (fun zz=>pr s zz) (fun c=>c==46) (fun j=>Sum.inl (s.take j,s.drop (j+1))) (Sum.inr ()) (fun i h=>by
  simp only[pr]
  rw[vaq (by simp;omega),pl s i h]
  simp only[vaa,Wp]
  by_cases hd:(s[i]==46)=true
  ·rw[vaq hd,vaq hd,Zz s i (by omega)]
   have hs':s.length<9223372036854775808:=hs
   have e:bN ((i:Int)+1)=((i+1:Nat):Int):=by rw[cJ (by omega) (by omega)];omega
   rw[e]
   simp only[vaa,EB s (i+1) (by omega)]
  ·rw[vas hd,vas hd]) (by simp only[pr];rw[vas (by simp)])
 rw[this]
 unfold qj
 cases s.findIdx? (fun c=>c==46)<;>rfl
theorem RK(s:ah):pJ s=if(qj s).2.2=true then(qj s).1::pJ (qj s).2.1 else[(qj s).1]:=by
 unfold qj
 cases h:s.findIdx? (fun c=>c==46)with
 |none=>
  rw[vbs]at h
  have:=MG s [] (by simp only[vau,vaJ];exact h)
  rw[vbv]at this
  simp only[vaz,if_false]
  rw[this]
  simp[pJ,Ij]
 | some j =>
  rw[va7]at h
  obtain⟨hj,h1,h2⟩:=h
  have e:s=s.take j++s[j]::s.drop (j+1):=by
   conv=>lhs;rw[<-vb2 j s]
   rw[va2 hj]
  have:=MG (s.take j) (s[j]::s.drop (j+1)) (by
   simp only[vau,vaJ]
   intro x hx
   obtain⟨i,hi,rfl⟩:=vcO hx
   rw[List.getElem_take]
   have hi':i<j:=by simp at hi;omega
   simpa using h2 i hi')
  rw[<-e]at this
  simp only[if_true]
  rw[this]
  conv=>lhs;arg 2;unfold pJ
  rw[vaq h1]
  simp[Ij]
theorem RH(s:ah):(qj s).1.length<=s.length/\(qj s).2.1.length<=s.length/\((qj s).2.2=true->(qj s).2.1.length<s.length):=by
 unfold qj
 cases h:s.findIdx? (fun c=>c==46)with
 |none=>simp
 |some j=>
  rw[va7]at h
  obtain⟨hj,_⟩:=h
  simp
  omega
def Ut(p:ah):Bool:=(p.isEmpty||od eK p)&&p.all mi
def rQ(p:ah):Bool:=pz p&&(p.all j6||Ut p)
theorem PF{α X:Type}(p:Nat->α->Bool)(q:α->Bool)(y e:X)(k:Nat)(h:∀i x,k<=i->p i x=q x):∀(l:List α) (i:Nat),k<=i->xZ (fun i x (_:Unit)=>if p i x=true then Sum.inr y else .inl ()) (fun _=>e) l i ()=if l.any q=true then y else e
 |[],i,_=>by simp[xZ]
 | x :: l,i,hk => by
  have ih:=PF p q y e k h l (i+1) (by omega)
  unfold xZ
  rw[h i x hk]
  by_cases hq:q x=true
  ·simp[hq]
  ·simp only[hq,if_false,ih,List.any_cons,vbT,vaz]
theorem JB(s:ah)(i:Nat)(h:i<s.length):vE s i=some (if i=0 then !eK s[i].toNat else !mi s[i]):=by
 unfold vE mi
 simp only[pl s i h,vaa,tq,yU]
 by_cases h0:i=0
 ·subst h0
  cases eK ((s[0]).toNat:Int)<;>simp
 ·have:((i:Int)==0)=false:=by simp;omega
  simp only[this,vas h0]
  cases eK (s[i].toNat:Int)<;>cases F9 (s[i].toNat:Int)<;>simp[bne]
theorem OC(s:ah)(hs:Rb s):Cr s=some (Ut s):=by
 unfold Cr AT
 have:=Ei s hs (fun i (_:Unit)=>i) (fun zz=>mS s zz) (fun _ _=>True) (fun i x _=>if(if i=0 then !eK x.toNat else !mi x)=true then .inr (.inl ())else .inl ()) (fun _=>.inr ()) (fun i h t _=>⟨by
  simp only[mS]
  rw[vaq (by simp;omega),JB s i h]
  simp only[vaa]
  cases(if i=0 then !eK s[i].toNat else !mi s[i])<;>rfl,fun _ _=>trivial⟩) (fun t _=>by simp only[mS];rw[vas (by simp)]) 0 () (vaN _) trivial
 simp only[Int.ofNat_zero,vbi]at this
 rw[this]
 cases s with
 |nil=>rfl
 | cons c r =>
  unfold xZ Ut od
  simp only[if_true,List.isEmpty_cons,vbT,List.all_cons]
  by_cases hc:eK c.toNat=true
  ·have:=PF (X:=Unit⊕Unit) (fun i (x:UInt8)=>if i=0 then !eK x.toNat else !mi x) (fun x=>!mi x) (.inl ()) (.inr ()) 1 (fun i x hi=>by rw[vas (by omega)]) r 1 (vaj _)
   simp only[hc,Bool.not_true,vaz,if_false,PI hc,vbb,vaK]
   rw[this,vbn]
   simp only[vb4]
   cases r.all mi<;>rfl
  ·simp[hc]
theorem Jp(p:ah)(hs:Rb p):vw p=some (!rQ p):=by
 unfold vw rQ
 rw[yW,uq p hs,OC p hs]
 cases pz p<;>cases p.all j6<;>simp
theorem xj(r:ah):ji r false=some (.inr ()):=nM rfl
theorem yS:∀(k:Nat) (r:ah),r.length<k->Rb r->ji r true=some (if(!(pJ r).all rQ)=true then .inl ()else .inr ())
 |0,r,hk,_=>absurd hk (by omega)
 | k + 1,r,hk,hs => by
  obtain⟨c1,c2,c3⟩:=RH r
  have hs':r.length<9223372036854775808:=hs
  have hb:kh r true=some (if(!rQ (qj r).1)=true then .inr (.inl ())else .inl ((qj r).2.1,(qj r).2.2)):=by
   simp only[kh,if_true,H1 r hs,vaa]
   rw[Jp _ (show _<_ by omega)]
   simp only[vaa]
   cases rQ (qj r).1<;>rfl
  rw[RK r]
  unfold ji
  by_cases hp:rQ (qj r).1=true
  ·rw[hp]at hb
   refine(Bq (body:=fun zz:ah×Bool=>kh zz.1 zz.2) (s:=(r,true)) (s':=((qj r).2.1,(qj r).2.2)) hb).trans ?_
   cases hm:(qj r).2.2 with
   |false=>
    have:=xj (qj r).2.1
    unfold ji at this
    rw[this]
    simp[hp]
   |true=>
    have c4:=c3 hm
    have:=yS k (qj r).2.1 (by omega) (show _<_ by omega)
    unfold ji at this
    rw[this]
    simp[hp]
  ·have hp':rQ (qj r).1=false:=by simpa using hp
   rw[hp']at hb
   refine(nM (body:=fun zz:ah×Bool=>kh zz.1 zz.2) (s:=(r,true)) hb).trans ?_
   cases(qj r).2.2<;>simp[hp']
theorem Jr(r:ah)(more:Bool)(hs:Rb r):ji r more=some (if(more&&!(pJ r).all rQ)=true then .inl ()else .inr ()):=by
 cases more with
 |false=>exact xj r
 |true=>exact yS (r.length+1) r (by omega) hs
def cr(s:ah):Bool:=decide (s.length<=120)&&match pJ s with
 |[]=>false
 |f::r=>(uE f||pN f||(f==[118]&&!r.isEmpty))&&r.all rQ
theorem Jn(f:ah)(hf:Rb f)(more:Bool):vq f more=some (!(uE f||pN f||(f==[118]&&more))):=by
 unfold vq
 rw[OB f hf,M5 f hf]
 simp only[vaa]
 cases uE f<;>cases pN f<;>cases(f==[118])<;>simp
theorem Gc(s:ah):yR s=some (CS (cr s)):=by
 unfold yR cr CS
 by_cases h:s.length<=120
 ·have h1:¬((s.length:Int)>120):=by omega
  obtain⟨c1,c2,c3⟩:=RH s
  simp only[h1,h,decide_false,decide_true,vaz,if_false,vbb,H1 s (show _<_ by omega),vaa]
  rw[Jn _ (show _<_ by omega),Jr _ _ (show _<_ by omega),RK s]
  simp only[vaa]
  cases hm:(qj s).2.2 with
  |false=>
   by_cases hn:uE (qj s).1=true<;>by_cases ht:pN (qj s).1=true<;>simp[hn,ht]
  | true =>
   have:(pJ (qj s).2.1).isEmpty=false:=by
    cases hd:pJ (qj s).2.1 with
    |nil=>exact absurd hd (E5 _)
    |cons=>rfl
   simp only[this,if_true,Bool.not_false,Bool.and_true,vbb]
   cases(uE (qj s).1||pN (qj s).1||(qj s).1==[118])<;>cases(pJ (qj s).2.1).all rQ<;>simp
 ·have h1:((s.length:Int)>120):=by omega
  simp[h1,h]
theorem Ay(s:ah):∀(r:ah) (i b:Nat) (out o:List ah) (b':Nat),s.drop i=r->i+r.length=s.length->b<=i->((s.take i).drop b).all (fun c=>!(c==46))=true->
  xZ (fun i x (t:List ah×Nat)=>if(x==46)=true then(Sum.inl (t.1++[(s.take i).drop t.2],i+1):(List ah×Nat)⊕(List ah×Nat))else .inl t) (fun t=>t) r i (out,b)=(o,b')->
  b'<=s.length/\o++[s.drop b']=out++Ij ((s.take i).drop b) (pJ r)
 |[],i,b,out,o,b',h1,h2,h3,h4,h=>by
  simp only[xZ,Prod.mk.injEq]at h
  obtain⟨rfl,rfl⟩:=h
  have:i=s.length:=by simpa using h2
  subst this
  simp[pJ,Ij,h3]
 | c :: r,i,b,out,o,b',h1,h2,h3,h4,h => by
  have hi:i<s.length:=by simp at h2;omega
  rw[va2 hi]at h1
  injection h1 with h1a h1b
  unfold xZ at h
  by_cases hc:(c==46)=true
  ·simp only[hc,if_true]at h
   have ih:=Ay s r (i+1) (i+1) _ o b' h1b (by simp at h2;omega) (vaj _) (by simp) h
   refine⟨ih.1,?_⟩
   rw[ih.2]
   have e:(s.take (i+1)).drop (i+1)=[]:=by simp
   rw[e,Ns (E5 r)]
   conv=>rhs;arg 2;arg 2;unfold pJ
   rw[vaq hc]
   simp[Ij]
  ·simp only[hc,if_false,vaz]at h
   have e:(s.take (i+1)).drop b=(s.take i).drop b++[c]:=by
    rw[vav hi,List.drop_append_of_le_length (by simp;omega),h1a]
   have ih:=Ay s r (i+1) b _ o b' h1b (by simp at h2;omega) (by omega) (by rw[e,List.all_append,h4];simpa using hc) h
   refine⟨ih.1,?_⟩
   rw[ih.2,e,Jg c r hc,Py]
theorem Yv{α:Type}(l:List α)(a b:Nat)(h:a<=b)(h2:b<=l.length):Rd l (some (a:Int)) (some (b:Int))=some ((l.take b).drop a):=by
 simp[Rd,bd,h,h2]
theorem PX(s:ah)(hs:s.length<=1000000):yi s=some (pJ s):=by
 unfold yi xp
 have:=Ei s (by omega) (fun i (t:List ah×Nat)=>(t.1,(t.2:Int),i)) (fun zz=>fU s s.length zz.1 zz.2.1 zz.2.2) (fun i t=>t.2<=i/\t.1.length<=i)
  (fun i x (t:List ah×Nat)=>if(x==46)=true then(Sum.inl (t.1++[(s.take i).drop t.2],i+1):(List ah×Nat)⊕(List ah×Int))else .inl t) (fun t=>(t.1,(t.2:Int))) (fun i h t hI=>by
   refine⟨?_,fun t' ht=>?_⟩
   ·simp only[fU]
    rw[vaq (by simp;omega),pl s i h]
    simp only[vaa,Wp]
    by_cases hd:(s[i]==46)=true
    ·rw[vaq hd,vaq hd,Yv s _ _ hI.1 (by omega)]
     simp only[vaa]
     rw[th (by simp;omega)]
     have e:bN ((i:Int)+1)=((i+1:Nat):Int):=by rw[cJ (by omega) (by omega)];omega
     rw[e]
     rfl
    ·rw[vas hd,vas hd]
   ·by_cases hd:(s[i]==46)=true
    ·rw[vaq hd]at ht;cases ht;simp;omega
    ·rw[vas hd]at ht;cases ht;omega) (fun t _=>by simp only[fU];rw[vas (by simp)]) 0 ([],0) (vaN _) ⟨vaj _,vaj _⟩
 simp only[Int.ofNat_zero,vbi]at this
 rw[this]
 obtain⟨o,b',hr⟩:∃o b',xZ (fun i x (t:List ah×Nat)=>if(x==46)=true then(Sum.inl (t.1++[(s.take i).drop t.2],i+1):(List ah×Nat)⊕(List ah×Nat))else .inl t) (fun t=>t) s 0 ([],0)=(o,b'):=⟨_,_,rfl⟩
 have key:∀(l:ah) (i:Nat) (t:List ah×Nat),xZ (fun i x (t:List ah×Nat)=>if(x==46)=true then(Sum.inl (t.1++[(s.take i).drop t.2],i+1):(List ah×Nat)⊕(List ah×Int))else .inl t) (fun t=>(t.1,(t.2:Int))) l i t=
   ((xZ (fun i x (t:List ah×Nat)=>if(x==46)=true then(Sum.inl (t.1++[(s.take i).drop t.2],i+1):(List ah×Nat)⊕(List ah×Nat))else .inl t) (fun t=>t) l i t).1,
    ((xZ (fun i x (t:List ah×Nat)=>if(x==46)=true then(Sum.inl (t.1++[(s.take i).drop t.2],i+1):(List ah×Nat)⊕(List ah×Nat))else .inl t) (fun t=>t) l i t).2:Int)):=by
  intro l
  induction l with
  |nil=>intro i t;rfl
  | cons x l ih =>
   intro i t
   unfold xZ
   by_cases hx:(x==46)=true
   ·simp only[hx,if_true,ih]
   ·simp only[hx,if_false,ih,vaz]
 rw[key,hr]
 obtain⟨h1,h2⟩:=Ay s s 0 0 [] o b' rfl (by simp) (vaj _) (by simp) hr
 simp only[vaa]
 rw[EB s b' h1]
 simp only[vaa]
 have hd:=(MH s).1
 have h3:o++[s.drop b']=pJ s:=by rw[h2];simp[Ns (E5 s)]
 have h4:o.length+1=(pJ s).length:=by rw[<-h3];simp
 rw[th (by simp;omega),h3]
 rfl
theorem L4(p:ah)(plain:Bool)(i:Nat)(h:i<p.length):sa p plain i=some (plain&&j6 p[i]):=by
 unfold sa j6
 simp only[pl p i h,vaa,pH,yt,xn]
 cases plain<;>cases eK (p[i].toNat:Int)<;>cases qX (p[i].toNat:Int)<;>simp
theorem Hj:∀(l:ah) (i:Nat) (a b:Bool),xZ (fun _ (x:UInt8) (t:Bool×Bool)=>(Sum.inl (t.1&&j6 x,t.2&&mi x):(Bool×Bool)⊕(Bool×Bool))) (fun t=>t) l i (a,b)=(a&&l.all j6,b&&l.all mi)
 |[],i,a,b=>by simp[xZ]
 |x::l,i,a,b=>by
  unfold xZ
  simp only[Hj l,List.all_cons,Bool.and_assoc]
theorem L6(p:ah)(hp:Rb p)(a b:Bool):vS p p.length a b 0=some (a&&p.all j6,b&&p.all mi):=by
 unfold vS
 have:=Ei p hp (fun i (t:Bool×Bool)=>(t.1,t.2,i)) (fun zz=>gV p p.length zz.1 zz.2.1 zz.2.2) (fun _ _=>True) (fun _ x t=>.inl (t.1&&j6 x,t.2&&mi x)) (fun t=>t) (fun i h t _=>⟨by
  simp only[gV]
  rw[vaq (by simp;omega),L4 p _ i h]
  simp only[vaa,pl p i h,pH,xn,mi]
  cases t.2<;>cases eK (p[i].toNat:Int)<;>cases F9 (p[i].toNat:Int)<;>simp,fun _ _=>trivial⟩) (fun t _=>by simp only[gV];rw[vas (by simp)]) 0 (a,b) (vaN _) trivial
 simp only[Int.ofNat_zero,vbi]at this
 rw[this,Hj]
theorem Rj(p:ah)(hp:Rb p):A9 p=some (rQ p):=by
 unfold A9 zH rQ pz
 cases p with
 |nil=>simp
 | cons c r =>
  have h1:¬(((c::r).length:Int)<1):=by simp;omega
  have h2:(((c::r).length:Int)>=1):=by omega
  simp only[h1,h2,decide_false,decide_true,vbb,vaz,if_false,uD,vaa,pH,L6 _ hp,Ut,od,List.isEmpty_cons,vbT]
  by_cases h:(((c::r).length:Int)>24)
  ·have h':¬(((c::r).length:Int)<=24):=by omega
   simp only[h,h',decide_true,decide_false,if_true]
   simp
  ·have h':(((c::r).length:Int)<=24):=by omega
   simp only[h,h',decide_true,decide_false,if_false,vaz,vbb]
   cases(c::r).all j6<;>simp
theorem LV(f:ah)(r:List ah)(hf:Rb f):rX (f::r)=some (!(uE f||pN f||(f==[118]&&!r.isEmpty))):=by
 unfold rX
 simp only[HS,vaa,PT f hf,PV f hf]
 have e:(((f::r).length:Int)==1)=r.isEmpty:=by
  cases r with
  |nil=>rfl
  |cons a r=>simp;omega
 rw[e]
 unfold CS
 cases uE f<;>cases pN f<;>cases(f==[118])<;>simp
theorem R0{s f:ah}{r:List ah}(h:s.length<=120)(hd:pJ s=f::r):cr s=((uE f||pN f||(f==[118]&&!r.isEmpty))&&r.all fun x=>rQ x):=by
 unfold cr
 rw[hd]
 simp only[h,decide_true,vbb]
theorem vR(s:ah):oJ s=some (CS (cr s)):=by
 unfold oJ
 by_cases h:s.length<=120
 ·have h1:¬((s.length:Int)>120):=by omega
  simp only[h1,h,decide_false,decide_true,vaz,if_false,vbb,PX s (by omega),vaa]
  obtain⟨d1,d2⟩:=MH s
  cases hd:pJ s with
  |nil=>exact absurd hd (E5 s)
  | cons f r =>
   rw[hd]at d1 d2
   rw[R0 h hd]
   rw[LV f r (show _<_ by have:=d2 f (by simp);omega)]
   have hl:r.length<9223372036854775808:=by simp at d1;omega
   have:=pp r hl (fun zz=>qy r r.length zz) (fun x=>!rQ x) (.inl ()) (.inr ()) (fun j hj=>by
    simp only[qy]
    have hm:r[j]∈f::r:=by simp
    rw[vaq (by simp;omega),bo r j hj]
    simp only[vaa]
    rw[Rj _ (show _<_ by have:=d2 _ hm;omega)]
    simp only[vaa]
    split<;>simp_all) (by simp only[qy];rw[vas (by simp)]) 0 (vaN _)
   have e1:Rd (f::r) (some 1) none=some r:=by
    have:=EB (f::r) 1 (by simp)
    simpa using this
   simp only[Int.ofNat_zero,vbi]at this
   simp only[vaa,e1,zG,this,vbn,vb4]
   unfold CS
   cases(uE f||pN f||(f==[118]&&!r.isEmpty))<;>cases r.all (fun x=>rQ x)<;>rfl
 ·have h1:((s.length:Int)>120):=by omega
  have h2:cr s=false:=by unfold cr;simp[h]
  simp[h1,h2,CS]
theorem Tc(t:ak)(ht:xN t<=fB):lW (Ba t) (fun _=>True):=by
 refine EM (F:=zJ) xN (fun x=>xN x<=fB) (fun _ _=>True) (fun R x hx ih=>?_) t ht (qk ht)
 show lW (zI (fun t=>R t) x) _
 unfold zI B3
 have h1:=HB x
 refine aQ (R:=fun _=>True) (PN x.Args (by unfold fB at hx;omega) (fun i s=>(s,i)) (fun i s y=>(R y).bind fun r=>some (.inl ((if r>s then r else s),bN (i+1)))) id (fun _ _=>True) (fun i s=>rfl) (fun i hi s _=>?_) (fun _ _=>trivial) 0 trivial) (fun a _=>aC trivial)
 exact aQ (ih _ (Gx (van hi)) (by have:=Gx (van hi);omega)) (fun a _=>aC ⟨_,rfl,trivial⟩)
theorem Tq(t:ak):lW (DB t) (fun _=>True):=by
 unfold DB
 refine aQ (R:=fun _=>True) ?_ fun _ _=>bL (fun _=>aC trivial) fun _=>aQ (R:=fun _=>True) ?_ fun _ _=>bL (fun _=>aC trivial) fun _=>aQ (R:=fun _=>True) ?_ fun _ _=>bL (fun _=>aC trivial) fun _=>aQ (R:=fun _=>True) ?_ fun _ _=>bL (fun _=>aC trivial) fun _=>aC trivial
 ·unfold ma
  repeat' first|exact aC trivial|refine bL (fun _=>?_) (fun _=>?_)
 ·unfold mb
  repeat' first|exact aC trivial|refine bL (fun _=>?_) (fun _=>?_)
 ·unfold mc
  repeat' first|exact aC trivial|refine bL (fun _=>?_) (fun _=>?_)
 ·unfold me
  repeat' first|exact aC trivial|refine bL (fun _=>?_) (fun _=>?_)|refine aQ (RG _ _) fun _ _=>?_
theorem Tf(t:ak)(ht:xN t<=fB):lW (Dz t) (fun _=>True):=by
 refine EM (F:=B4) xN (fun x=>xN x<=fB) (fun _ _=>True) (fun R x hx ih=>?_) t ht (qk ht)
 show lW (uw (fun t=>R t) x) _
 unfold uw zK
 have h1:=HB x
 refine aQ (Tq x) fun _ _=>bL (fun _=>aC trivial) fun _=>aQ (PM x.Args (by unfold fB at hx;omega) _ (fun _=>True) (fun _=>True) (fun i=>rfl) (fun y hy i=>aQ (ih _ (Gx hy) (by have:=Gx hy;omega)) fun _ _=>bL (fun _=>aC trivial) fun _=>aC ⟨rfl,trivial⟩)) fun o _=>?_
 cases o<;>exact aC trivial
theorem Di(t:ak)(ht:xN t<=fB):lW (uv t) (fun _=>True):=by
 unfold uv
 exact aQ (Tc t ht) fun _ _=>bL (fun _=>aC trivial) fun _=>aQ (Tf t ht) fun _ _=>aC trivial
theorem MU:cr []=false:=by kernel_rfl
theorem Bl(b:Bool):(CS b !=0)= !b:=by cases b<;>rfl
theorem UU(b:Bool):(CS b==0)=b:=by cases b<;>rfl
theorem Vz(t:ak):Au t=Ba t:=by
 have h:A5=zJ:=rfl
 unfold Au Ba
 rw[h]
theorem Xn(t:ak):vM t=some (t.Op==4||t.Op==5):=by
 unfold vM
 by_cases h:t.Op=4<;>simp[h]
theorem Xo(t:ak):vN t=some (t.Op==4||t.Op==6):=by
 unfold vN
 by_cases h:t.Op=4<;>simp[h]
theorem Xp(t:ak):vO t (t.Op==4||t.Op==5) (t.Op==4||t.Op==6)=ma t:=by
 unfold vO ma
 by_cases h4:t.Op=4
 ·simp[h4]
 by_cases h5:t.Op=5
 ·simp[h5]
 by_cases h6:t.Op=6
 ·simp[h6]
 ·simp[h4,h5,h6]
theorem ZH(t:ak):At t=(mb t).bind fun a=>if a=true then some 13 else(mc t).bind fun b=>if b=true then some 13 else some 0:=by
 unfold At mb mc zq
 by_cases h4:t.Op=4
 ·simp[h4]
 by_cases h6:t.Op=6
 ·have hn:((t.Names.length:Int)!=0)=decide ((t.Names.length:Int)>0):=by
   by_cases h:t.Names.length=0
   ·rw[h];rfl
   ·have h1:((t.Names.length:Int))≠0:=by omega
    have h2:((t.Names.length:Int))>0:=by omega
    rw[va3 h2];simpa using h
  rw[hn]
  simp[h6]
 ·simp[h4,h6]
theorem Zs(s:ah)(b:Bool):vT s b=some (cr s&&(od qX s==b)):=by
 unfold vT
 rw[vR]
 simp only[vaa,UU]
 by_cases h:cr s=true
 ·cases s with
  |nil=>rw[MU]at h;cases h
  | cons c r =>
   rw[vaq h,h]
   simp only[uD,vaa,od,qX,vbb]
   by_cases hc:(c.toNat:Int)>=65
   ·have hc':(65:Int)<=c.toNat:=hc
    rw[vaq (va3 hc),va3 hc',vbb]
   ·have hc':¬(65:Int)<=c.toNat:=hc
    rw[vas (by simpa using hc),decide_eq_false hc',vcJ]
 ·rw[vas h]
  have:cr s=false:=by simpa using h
  rw[this];rfl
theorem Xq(t:ak):vP t (t.Op==4||t.Op==5)=(me t).bind fun b=>if b=true then some (.inl ())else some (.inr ()):=by
 unfold vP me
 simp only[Zs,vaa,Gc,Bl]
 have hJ5:cr t.Name=true->vQ t=some (od qX t.Name):=fun h=>by
  unfold vQ
  cases hn:t.Name with
  |nil=>rw[hn,MU]at h;cases h
  | cons c r =>
   simp only[uD,vaa,od,qX]
   by_cases hc:(c.toNat:Int)>=65
   ·have hc':(65:Int)<=c.toNat:=hc
    rw[vaq (va3 hc),va3 hc',vbb]
   ·have hc':¬(65:Int)<=c.toNat:=hc
    rw[vas (by simpa using hc),decide_eq_false hc',vcJ]
 by_cases h4:t.Op=4
 ·by_cases h:cr t.Name=true
  ·rw[hJ5 h]
   cases od qX t.Name<;>simp[h4,h]
  ·simp[h4,h]
 by_cases h5:t.Op=5
 ·by_cases h:cr t.Name=true
  ·rw[hJ5 h]
   cases od qX t.Name<;>simp[h5,h]
  ·simp[h5,h]
 ·simp[h4,h5]
theorem Sf(t:ak):∃b1 b2 b3 b4,ma t=some b1/\mb t=some b2/\mc t=some b3/\me t=some b4:=by
 have h1:lW (ma t) (fun _=>True):=by
  unfold ma
  repeat' first|exact aC trivial|refine bL (fun _=>?_) (fun _=>?_)
 have h2:lW (mb t) (fun _=>True):=by
  unfold mb
  repeat' first|exact aC trivial|refine bL (fun _=>?_) (fun _=>?_)
 have h3:lW (mc t) (fun _=>True):=by
  unfold mc
  repeat' first|exact aC trivial|refine bL (fun _=>?_) (fun _=>?_)
 have h4:lW (me t) (fun _=>True):=by
  unfold me
  repeat' first|exact aC trivial|refine bL (fun _=>?_) (fun _=>?_)|refine aQ (RG _ _) fun _ _=>?_
 obtain⟨b1,e1,_⟩:=h1
 obtain⟨b2,e2,_⟩:=h2
 obtain⟨b3,e3,_⟩:=h3
 obtain⟨b4,e4,_⟩:=h4
 exact⟨b1,b2,b3,b4,e1,e2,e3,e4⟩
theorem Yy(R:ak->Option Int)(t:ak):yf R t=uw R t:=by
 obtain⟨b1,b2,b3,b4,e1,e2,e3,e4⟩:=Sf t
 have ea:=ZH t
 have e5:=Xq t
 have hL:A6 R t.Args (t.Args.length:Int) 0=zK R t.Args (t.Args.length:Int) 0:=rfl
 rw[e2,e3]at ea
 rw[e4]at e5
 unfold yf uw DB
 rw[Xn,Xo]
 simp only[vaa]
 rw[Xp,e1,e2,e3,e4,ea,hL]
 rw[e5]
 cases b1<;>cases b2<;>cases b3<;>cases b4<;>rfl
theorem PL(t:ak):wu t=uv t:=by
 have h:CJ=B4:=by
  funext R x
  exact Yy (fun t=>R t) x
 have h2:CI t=Dz t:=by
  unfold CI Dz
  rw[h]
 unfold wu uv
 rw[Vz,h2]
theorem TW{a b r:Bool}:(if a=true then some (b||r)else some r)=some ((a&&b)||r):=by cases a<;>rfl
structure qc0(op:Int)(sh:au)(ok:Bool)(u:ag):Prop where
 p:ri op=some (sh,ok)
 r:DU op=some u
 n:sh.n=u.n
 name:sh.name=u.name
 least:sh.least=u.least
 most:sh.most=u.most
 params:sh.params=u.params
 alts:sh.alts=u.alts
 types:sh.types=u.types
 ok:ok=u.ok
 t:∀k:Int,0<=k->k<=1073741824->(u.types=false->k=0)->(decide (k<sh.typesLeast)||decide (k>sh.typesMost))= !((!u.exactly||k==1)&&(op !=7||decide (k<=1)))
theorem Vv(op:Int):∃sh ok u,qc0 op sh ok u:=by
 by_cases h:1<=op/\op<=26
 ·have:op=1\/op=2\/op=3\/op=4\/op=5\/op=6\/op=7\/op=8\/op=9\/op=10\/op=11\/op=12\/op=13\/op=14\/op=15\/op=16\/op=17\/op=18\/op=19\/op=20\/op=21\/op=22\/op=23\/op=24\/op=25\/op=26:=by omega
  rcases this with h|h|h|h|h|h|h|h|h|h|h|h|h|h|h|h|h|h|h|h|h|h|h|h|h|h<;>subst h<;>
   exact⟨_,_,_,rfl,rfl,rfl,rfl,rfl,rfl,rfl,rfl,rfl,rfl,fun k h0 h1 h2=>by
    rw[vbA]
    simp at h2 ⊢
    omega⟩
 ·have hb:∀k:Int,1<=k->k<=26->(op==k)=false:=fun k h1 h2=>by rw[beq_eq_false_iff_ne];omega
  have e1:ri op=some ((⟨false,false,0,0,false,false,0,0,false⟩:au),false):=by
   unfold ri uY uZ u3
   simp[hb]
  have e2:DU op=some (⟨false,false,0,0,false,false,false,false,false⟩:ag):=by
   unfold DU DV DW DX
   simp[hb]
  refine⟨_,_,_,e1,e2,rfl,rfl,rfl,rfl,rfl,rfl,rfl,rfl,fun k h0 h1 h2=>?_⟩
  have:=h2 rfl
  subst this
  simp
theorem UG(l:List aT)(hl:l.length<9223372036854775808):fE l=some (l.any fun a=>decide ((a.Names.length:Int)>6)):=by
 unfold fE j7 iP
 rw[M2 l hl (fun i=>i) (fun zz=>dP l (l.length:Int) zz) (fun a=>decide ((a.Names.length:Int)>6)) (fun i=>.inl (i:Int)) (.inr ()) (fun i h=>?_) ?_]
 ·cases hf:l.findIdx? (fun a=>decide ((a.Names.length:Int)>6))with
  |none=>
   simp only[Option.elim,vaa]
   rw[vbs]at hf
   congr 1
   have:l.any (fun a=>decide ((a.Names.length:Int)>6))=false:=by rw[vbd];exact fun x hx=>by simpa using hf x hx
   rw[this];rfl
  |some j=>
   simp only[Option.elim,vaa]
   obtain⟨h1,h2,_⟩:=va7.1 hf
   congr 1
   have:l.any (fun a=>decide ((a.Names.length:Int)>6))=true:=by rw[vb6];exact⟨_,van h1,h2⟩
   rw[this,decide_eq_true_iff];omega
 ·unfold dP
  rw[vas (by simp)]
 ·unfold dP wS
  rw[vaq (by simpa using h),bo _ _ h]
  simp only[vaa]
  by_cases hc:((l[i].Names.length:Int)>6)<;>simp[hc]
theorem UR(e:af)(he:Dh e){sh:au}{ok:Bool}{u:ag}(hS:qc0 e.Op sh ok u)(ht:u.types=false->(e.Types.length:Int)=0):∃b,vL e sh=some b/\B7 e u=some b:=by
 have hB:nE e<=1073741824:=oe he
 have l2:=sq e
 have l4:=CK e
 have hT:=hS.t (e.Types.length:Int) (by omega) (by omega) ht
 have hL:va e 0=some (if(e.Alts.any fun a=>decide ((a.Names.length:Int)>6))=true then .inl ()else .inr ()):=by
  unfold va
  refine pp e.Alts (by omega) (fun zz=>mG e zz) (fun a=>decide ((a.Names.length:Int)>6)) (.inl ()) (.inr ()) (fun i h=>?_) ?_ 0 (vaN _)
  ·unfold mG
   rw[vaq (by simpa using h),bo _ _ h]
   simp only[vaa]
   by_cases hc:((e.Alts[i].Names.length:Int)>6)<;>simp[hc]
  ·unfold mG
   rw[vas (by simp)]
 unfold vL uR uS B7 AI AJ AK
 rw[UG _ (by omega),hL,hS.least,hS.most,hS.params,hS.alts]
 simp only[WZ,vaa]
 generalize (e.Alts.any fun a=>decide ((a.Names.length:Int)>6))=nb at *
 rw[hT]
 generalize u.exactly=ex at *
 generalize ((e.Types.length:Int)==1)=t1 at *
 generalize (e.Op !=7)=o7 at *
 generalize decide ((e.Types.length:Int)<=1)=t2 at *
 generalize decide ((e.Kids.length:Int)<u.least)=k1 at *
 generalize decide ((e.Kids.length:Int)>u.most)=k2 at *
 generalize decide ((e.Params.length:Int)<1)=p1 at *
 generalize decide ((e.Params.length:Int)>6)=p2 at *
 generalize decide ((e.Alts.length:Int)<1)=a1 at *
 generalize decide ((e.Alts.length:Int)>8)=a2 at *
 clear hT hL
 generalize u.params=up
 generalize u.alts=ua
 cases k1<;>cases k2<;>cases up<;>cases ua<;>cases nb<;>cases ex<;>cases t1<;>cases o7<;>cases t2<;>simp<;>(try (cases p1<;>cases p2<;>simp))<;>(try (cases a1<;>cases a2<;>simp))
theorem Wh(l:List aA)(hl:l.length<=1073741824):mz l=some (l.map (·.Name)):=by
 unfold mz
 have h:=mw l.length (fun zz:(List ah)×Int=>f7 l (l.length:Int) zz.1 zz.2) (fun i=>((l.take i).map (·.Name),(i:Int))) (l.map (·.Name)) (fun i hi=>?_) ?_
 ·have h':rG l (l.length:Int) ([]:List ah) 0=some (l.map (·.Name)):=by unfold rG;simpa using h
  rw[h'];rfl
 ·show f7 l (l.length:Int) _ (i:Int)=_
  unfold f7
  rw[vaq (by simpa using hi),bo _ _ hi,vaa,th (by simp;omega),vaa,cJ (by omega) (by omega),vav hi,vbg]
  rfl
 ·show f7 l (l.length:Int) _ (l.length:Int)=_
  unfold f7
  rw[vas (by simp),vaT]
theorem Ld(l:List aT)(hl:l.length<=1073741824):lk l=some (l.map (·.Con)):=by
 unfold lk
 have h:=mw l.length (fun zz:(List ah)×Int=>dt l (l.length:Int) zz.1 zz.2) (fun i=>((l.take i).map (·.Con),(i:Int))) (l.map (·.Con)) (fun i hi=>?_) ?_
 ·have h':i8 l (l.length:Int) ([]:List ah) 0=some (l.map (·.Con)):=by unfold i8;simpa using h
  rw[h'];rfl
 ·show dt l (l.length:Int) _ (i:Int)=_
  unfold dt
  rw[vaq (by simpa using hi),bo _ _ hi,vaa,th (by simp;omega),vaa,cJ (by omega) (by omega),vav hi,vbg]
  rfl
 ·show dt l (l.length:Int) _ (l.length:Int)=_
  unfold dt
  rw[vas (by simp),vaT]
theorem NH(l:List ah)(hl:l.length<9223372036854775808):pY l=some (!decide l.Nodup):=by
 unfold pY
 rw[QO l hl];rfl
def wJ(l:List aT):List ah:=l.flatMap fun a=>a.Con::a.Names
theorem GI:∀(l:List aT),(wJ l).length<=M3 l
 |[]=>by simp[wJ,M3]
 |a::l=>by
  have h1:=GI l
  have h2:=R9 a
  have h3:=QH a.Body
  unfold wJ at *
  rw[vcq,M3,vaS,vaL]
  omega
theorem Sc(l:List aT)(i:Nat)(h:i<l.length):wJ (l.take (i+1))=wJ (l.take i)++([l[i].Con]++l[i].Names):=by
 unfold wJ
 rw[vav h,vcM]
 simp
theorem WO(l:List aT)(i:Nat):M3 (l.take i)<=M3 l:=by
 have:∀(l:List aT) (i:Nat),M3 (l.take i)<=M3 l:=by
  intro l
  induction l with
  |nil=>intro i;simp
  |cons x l ih=>
   intro i
   cases i with
   |zero=>simp[M3]
   |succ i=>have:=ih i;simp only[List.take_succ_cons,M3];omega
 exact this l i
theorem Kn(l:List aT)(v:List ah)(d:Bool)(h:v.length+M3 l<=1073741824):rI l (l.length:Int) v d 0=some (v++wJ l,d||l.any fun a=>!decide a.Names.Nodup):=by
 have hl:=LJ l
 have g:=mw l.length (fun zz:(List ah)×Bool×Int=>ga l (l.length:Int) zz.1 zz.2.1 zz.2.2) (fun i=>(v++wJ (l.take i),d||(l.take i).any fun a=>!decide a.Names.Nodup,(i:Int))) (v++wJ l,d||l.any fun a=>!decide a.Names.Nodup) (fun i hi=>?_) ?_
 ·unfold rI;simpa[wJ]using g
 ·have h1:=GI (l.take (i+1))
  have h2:=WO l (i+1)
  have h3:=Sc l i hi
  have h4:=va9 List.length h3
  simp only[vaS,List.length_singleton]at h4
  show ga l (l.length:Int) _ _ (i:Int)=_
  unfold ga
  rw[vaq (by simpa using hi),bo _ _ hi,vaa,th (by simp only[vaS,List.length_singleton];omega),vaa,th (by simp only[vaS,List.length_singleton];omega),vaa,h3,vav hi,vcG,NH _ (by omega),cJ (by omega) (by omega)]
  by_cases hd:(d||(l.take i).any fun a=>!decide a.Names.Nodup)=true
  ·rw[vaq hd]
   rw[<-Bool.or_assoc,hd]
   simp[vbW]
  ·rw[vas hd]
   have hd':(d||(l.take i).any fun a=>!decide a.Names.Nodup)=false:=by simpa using hd
   rw[<-Bool.or_assoc,hd']
   simp[vbW]
 ·show ga l (l.length:Int) _ _ (l.length:Int)=_
  unfold ga
  rw[vas (by simp),vaT]
theorem OX(l:List ah)(hl:l.length<9223372036854775808):fP l=some (l.any fun s=>!cr s):=by
 unfold fP kZ i7
 rw[M2 l hl (fun i=>i) (fun zz=>d5 l (l.length:Int) zz) (fun s=>!cr s) (fun i=>.inl (i:Int)) (.inr ()) (fun i h=>?_) ?_]
 ·cases hf:l.findIdx? (fun s=>!cr s)with
  |none=>
   simp only[Option.elim,vaa]
   rw[vbs]at hf
   congr 1
   have:l.any (fun s=>!cr s)=false:=by rw[vbd];exact fun x hx=>by simpa using hf x hx
   rw[this];rfl
  |some j=>
   simp only[Option.elim,vaa]
   obtain⟨h1,h2,_⟩:=va7.1 hf
   congr 1
   have:l.any (fun s=>!cr s)=true:=by rw[vb6];exact⟨_,van h1,h2⟩
   rw[this,decide_eq_true_iff];omega
 ·unfold d5
  rw[vas (by simp)]
 ·unfold d5 zj
  rw[vaq (by simpa using h),bo _ _ h]
  simp only[vaa]
  rw[Gc]
  simp only[vaa,Bl]
  by_cases hc:cr l[i]=true<;>simp[hc]
def Wg(e:af)(nm:Bool):Bool:=(nm&&!cr e.Name)||(e.Params.any (fun p=>!cr p.Name)||e.Alts.any fun a=>!cr a.Con||a.Names.any fun s=>!cr s)
def Wq(e:af):Bool:=!decide (e.Params.map (·.Name)).Nodup||(!decide (e.Alts.map (·.Con)).Nodup||e.Alts.any fun a=>!decide a.Names.Nodup)
theorem WT(e:af)(he:Dh e)(sh:au):ye e sh=some (if Wg e sh.name=true then 3 else if Wq e=true then 4 else 0):=by
 have hB:nE e<=1073741824:=oe he
 have hn:=Ek e
 have l2:=sq e
 have l3:=px e
 have hA:=GI e.Alts
 have hany:∀v:List ah,((v++wJ e.Alts).any fun s=>!cr s)=(v.any (fun s=>!cr s)||e.Alts.any fun a=>!cr a.Con||a.Names.any fun s=>!cr s):=fun v=>by
  rw[vcG]
  congr 1
  unfold wJ
  rw[List.any_flatMap]
  rfl
 unfold ye wW wX
 rw[Wh _ (by omega),vaa,Ld _ (by omega),vaa,NH _ (by simp;omega)]
 simp only[vaa]
 rw[NH _ (by simp;omega)]
 simp only[vaa,WZ]
 unfold Wg Wq
 cases sh.name with
 |true=>
  rw[vaq rfl,th (by simp;omega)]
  simp only[vaa]
  rw[Kn _ _ _ (by simp;omega)]
  simp only[vaa]
  rw[OX _ (by simp;omega)]
  simp only[vaa,hany,vbb]
  have e1:((e.Params.map (·.Name)++[e.Name]).any fun s=>!cr s)=(e.Params.any (fun p=>!cr p.Name)||!cr e.Name):=by simp[vcG,List.any_map,Function.comp_def]
  rw[e1]
  generalize (e.Params.any fun p=>!cr p.Name)=b1
  generalize (!cr e.Name)=b2
  generalize (e.Alts.any fun a=>!cr a.Con||a.Names.any fun s=>!cr s)=b3
  generalize (!decide (e.Params.map (·.Name)).Nodup)=d1
  generalize (!decide (e.Alts.map (·.Con)).Nodup)=d2
  generalize (e.Alts.any fun a=>!decide a.Names.Nodup)=d3
  cases b1<;>cases b2<;>cases b3<;>cases d1<;>cases d2<;>cases d3<;>rfl
 |false=>
  rw[vas (by simp)]
  simp only[vaa]
  rw[Kn _ _ _ (by simp;omega)]
  simp only[vaa]
  rw[OX _ (by simp;omega)]
  simp only[vaa,hany,vcJ,vbT]
  have e1:((e.Params.map (·.Name)).any fun s=>!cr s)=(e.Params.any (fun p=>!cr p.Name)):=by simp[List.any_map,Function.comp_def]
  rw[e1]
  generalize (e.Params.any fun p=>!cr p.Name)=b1
  generalize (e.Alts.any fun a=>!cr a.Con||a.Names.any fun s=>!cr s)=b3
  generalize (!decide (e.Params.map (·.Name)).Nodup)=d1
  generalize (!decide (e.Alts.map (·.Con)).Nodup)=d2
  generalize (e.Alts.any fun a=>!decide a.Names.Nodup)=d3
  cases b1<;>cases b3<;>cases d1<;>cases d2<;>cases d3<;>rfl
theorem Vt(e:af)(he:Dh e)(u:ag):ET e u=some (!Wg e u.name):=by
 have hB:nE e<=1073741824:=oe he
 have l2:=sq e
 have l3:=px e
 have h1:xu e 0=some (if(e.Params.any fun p=>!cr p.Name)=true then .inl ()else .inr ()):=by
  unfold xu
  refine pp e.Params (by omega) (fun zz=>oR e zz) (fun p=>!cr p.Name) (.inl ()) (.inr ()) (fun i h=>?_) ?_ 0 (vaN _)
  ·unfold oR
   rw[vaq (by simpa using h),bo _ _ h]
   simp only[vaa]
   rw[vR]
   simp only[vaa,Bl]
   by_cases hc:cr e.Params[i].Name=true<;>simp[hc]
  ·unfold oR
   rw[vas (by simp)]
 have h2:xv e 0=some (if(e.Alts.any fun a=>!cr a.Con||a.Names.any fun s=>!cr s)=true then .inl ()else .inr ()):=by
  unfold xv
  refine pp e.Alts (by omega) (fun zz=>oU e zz) (fun a=>!cr a.Con||a.Names.any fun s=>!cr s) (.inl ()) (.inr ()) (fun i h=>?_) ?_ 0 (vaN _)
  ·have hm:=I8 (van h)
   have h3:xw e (i:Int) 0=some (if(e.Alts[i].Names.any fun s=>!cr s)=true then .inl ()else .inr ()):=by
    unfold xw
    refine pp e.Alts[i].Names (by omega) (fun zz=>oW e (i:Int) zz) (fun s=>!cr s) (.inl ()) (.inr ()) (fun k hk=>?_) ?_ 0 (vaN _)
    ·unfold oW
     rw[bo _ _ h]
     simp only[vaa]
     rw[vaq (by simpa using hk),bo _ _ hk]
     simp only[vaa]
     rw[vR]
     simp only[vaa,Bl]
     by_cases hc:cr e.Alts[i].Names[k]=true<;>simp[hc]
    ·unfold oW
     rw[bo _ _ h]
     simp only[vaa]
     rw[vas (by simp)]
   unfold oU
   rw[vaq (by simpa using h),bo _ _ h]
   simp only[vaa]
   rw[vR,h3]
   simp only[vaa,Bl]
   by_cases hc:cr e.Alts[i].Con=true
   ·by_cases hd:(e.Alts[i].Names.any fun s=>!cr s)=true<;>simp[hc,hd]
   ·simp[hc]
  ·unfold oU
   rw[vas (by simp)]
 unfold ET B9
 rw[h1,h2,vR]
 simp only[vaa,Bl]
 unfold Wg
 generalize (e.Params.any fun p=>!cr p.Name)=b1
 generalize (e.Alts.any fun a=>!cr a.Con||a.Names.any fun s=>!cr s)=b3
 generalize cr e.Name=b2
 cases u.name<;>cases b1<;>cases b2<;>cases b3<;>rfl
theorem QZ(e:af)(he:Dh e):xt e=some (!Wq e):=by
 have hB:nE e<=1073741824:=oe he
 have l2:=sq e
 have l3:=px e
 have h1:rq e ([]:List ah) 0=some (e.Params.map (·.Name)):=by
  have h:=mw e.Params.length (fun zz:(List ah)×Int=>fW e zz.1 zz.2) (fun i=>((e.Params.take i).map (·.Name),(i:Int))) (e.Params.map (·.Name)) (fun i hi=>?_) ?_
  ·unfold rq;simpa using h
  ·show fW e _ (i:Int)=_
   unfold fW
   rw[vaq (by simpa using hi),bo _ _ hi,vaa,th (by simp;omega),vaa,cJ (by omega) (by omega),vav hi,vbg]
   rfl
  ·show fW e _ (e.Params.length:Int)=_
   unfold fW
   rw[vas (by simp),vaT]
 have h2:iN e ([]:List ah) 0=some (if(e.Alts.any fun a=>!decide a.Names.Nodup)=true then .inl ()else .inr (e.Alts.map (·.Con))):=by
  have key:∀(k i:Nat),i+k=e.Alts.length->iN e ((e.Alts.take i).map (·.Con)) (i:Int)=some (if((e.Alts.drop i).any fun a=>!decide a.Names.Nodup)=true then .inl ()else .inr (e.Alts.map (·.Con))):=by
   intro k
   induction k with
   | zero =>
    intro i hi
    have:i=e.Alts.length:=by omega
    subst this
    unfold iN
    rw[nM (x:=.inr (e.Alts.map (·.Con))) ?_]
    ·simp
    ·show iy e _ (e.Alts.length:Int)=_
     unfold iy
     rw[vas (by simp),vaT]
   | succ k ih =>
    intro i hi
    have hlt:i<e.Alts.length:=by omega
    have hm:=I8 (van hlt)
    have hb:iy e ((e.Alts.take i).map (·.Con)) (i:Int)=some (if e.Alts[i].Names.Nodup then .inl ((e.Alts.take (i+1)).map (·.Con),((i+1:Nat):Int))else .inr (.inl ())):=by
     unfold iy
     rw[vaq (by simpa using hlt),bo _ _ hlt,vaa,th (by simp;omega)]
     simp only[vaa]
     rw[Cy _ (by omega)]
     simp only[vaa]
     rw[cJ (by omega) (by omega),vav hlt,vbg]
     by_cases hd:e.Alts[i].Names.Nodup<;>simp[hd]
    rw[va2 hlt,List.any_cons]
    by_cases hd:e.Alts[i].Names.Nodup
    ·rw[vaq hd]at hb
     have h:=ih (i+1) (by omega)
     unfold iN at h ⊢
     rw[Bq (s':=((e.Alts.take (i+1)).map (·.Con),((i+1:Nat):Int))) hb,h]
     simp[hd]
    ·rw[vas hd]at hb
     unfold iN
     rw[nM (x:=.inl ()) hb]
     simp[hd]
  have:=key e.Alts.length 0 (by omega)
  rw[vbi]at this
  exact this
 unfold xt
 rw[h1,h2]
 simp only[vaa]
 unfold Wq
 by_cases hd:(e.Alts.any fun a=>!decide a.Names.Nodup)=true
 ·simp[hd]
 ·have hd':(e.Alts.any fun a=>!decide a.Names.Nodup)=false:=by simpa using hd
  rw[hd']
  simp only[vaz,if_false]
  rw[Cy _ (by simp;omega),Cy _ (by simp;omega)]
  simp only[vaa,Qc]
  generalize decide (e.Params.map (·.Name)).Nodup=d1
  generalize decide (e.Alts.map (·.Con)).Nodup=d2
  cases d1<;>cases d2<;>rfl
abbrev SM:ak:=⟨0,[],[],[],⟨0,[],0,[]⟩,[]⟩
theorem WX:OE SM:=⟨by simp[xN,mK,fB],(Hx _ _).2 ⟨Yc,(fun q hq=>nomatch hq),trivial⟩⟩
theorem Yf(t:ak)(h:OE t):Ar t=some (decide (t=SM)):=by
 unfold Ar
 rw[JN _ _ h];rfl
theorem TR(t:ak)(h:OE t):Hp t=some (decide (t=SM)):=by
 unfold Hp
 rw[JQ _ _ h WX];rfl
theorem VD(e:af):tP e.Types (e.Types.length:Int) 0=tf e 0:=by
 unfold tP tf
 congr 1
 funext zz
 unfold uV pb
 simp only[PL]
theorem VE(e:af)(he:Dh e):tR e.Params (e.Params.length:Int) 0=tg e 0:=by
 have hB:nE e<=1073741824:=oe he
 have l3:=px e
 unfold tR tg
 have hin:∀i:Nat,i<e.Params.length->∃r,lP e.Params (e.Params.length:Int) (i:Int)=some r/\g9 e (i:Int)=some r/\∀t,r=.inl t->t=bN ((i:Int)+1):=fun i hi=>by
  have ho:=BF he (van hi)
  obtain⟨c,hc,_⟩:=Di _ ho.1
  unfold lP g9 xz zk
  rw[vaq (by simpa using hi),vaq (by simpa using hi),bo _ _ hi]
  simp only[vaa,UV,UW,PL]
  rw[hc,Yf _ ho,TR _ ho]
  simp only[vaa]
  by_cases hz:e.Params[i].Type_=SM
  ·by_cases h0:(c !=0)=true<;>simp[hz,h0]
  ·by_cases h0:(c !=0)=true<;>simp[hz,h0]
 refine U5 e.Params.length (by omega) (fun i hi=>?_) ?_ (fun t=>?_)
 ·obtain⟨r,h1,h2,h3⟩:=hin i hi
  exact⟨h1.trans h2.symm,fun t ht=>h3 t (vbh (h2.symm.trans ht))⟩
 ·unfold lP g9
  rw[vas (by simp),vas (by simp)]
 ·unfold g9
  rw[vas (by simp)]
  simp
theorem VF(e:af)(he:Dh e):lW (Bf e) (fun _=>True):=by
 have hB:nE e<=1073741824:=oe he
 have l3:=px e
 have l4:=CK e
 unfold Bf
 refine aQ (R:=fun _=>True) ?_ (fun o _=>?_)
 ·unfold tf
  refine(Hd e.Types.length (by omega) (fun _=>True) (fun _=>True) (fun i hi=>?_) ?_).mono (fun _ _=>trivial)
  ·unfold pb
   rw[vaq (by simpa using hi),bo _ _ hi]
   simp only[vaa]
   refine aQ (Di _ (Ia he (van hi)).1) (fun c _=>bL (fun _=>aC trivial) (fun _=>aC ⟨rfl,trivial⟩))
  ·unfold pb
   rw[vas (by simp)]
 ·cases o with
  |inl o=>exact aC trivial
  | inr o =>
   refine aQ (R:=fun _=>True) ?_ (fun o _=>by cases o<;>exact aC trivial)
   unfold tg
   refine(Hd e.Params.length (by omega) (fun _=>True) (fun _=>True) (fun i hi=>?_) ?_).mono (fun _ _=>trivial)
   ·have ho:=BF he (van hi)
    obtain⟨c,hc,_⟩:=Di _ ho.1
    unfold g9 xz
    rw[vaq (by simpa using hi),bo _ _ hi]
    simp only[vaa]
    rw[hc,TR _ ho]
    simp only[vaa]
    by_cases hz:e.Params[i].Type_=SM
    ·simp only[hz,decide_true,if_true,vaa];exact aC ⟨rfl,trivial⟩
    ·simp only[hz,decide_false,vaz,if_false]
     by_cases h0:(c !=0)=true
     ·simp only[h0,if_true,vaa];exact aC trivial
     ·simp only[h0,if_false,vaa];exact aC ⟨rfl,trivial⟩
   ·unfold g9
    rw[vas (by simp)]
theorem Ye(e:af)(he:Dh e):∃c,wr e=some c/\Be e=some c:=by
 have hB:nE e<=1073741824:=oe he
 obtain⟨sh,ok,u,hS⟩:=Vv e.Op
 obtain⟨c,hc,_⟩:=VF e he
 have hJ3:∃b,tO e=some b/\zS e=some b:=by
  unfold tO zS Ts SQ
  simp only[Qc,WZ,TW,vaa]
  exact⟨_,rfl,rfl⟩
 obtain⟨b3,h3,h3'⟩:=hJ3
 unfold wr Be
 rw[hS.p,hS.r]
 simp only[vaa]
 have hJ1:tM e sh.n sh.name sh.most sh.params sh.alts sh.types=some ((!u.n&&(e.N !=0))||((!u.name&&!(e.Name==([]:ah)))||((u.most==0&&decide ((e.Kids.length:Int)>0))||((!u.params&&decide ((e.Params.length:Int)>0))||((!u.alts&&decide ((e.Alts.length:Int)>0))||(!u.types&&decide ((e.Types.length:Int)>0))))))):=by
  unfold tM
  rw[hS.n,hS.name,hS.most,hS.params,hS.alts,hS.types]
  simp only[Qc,WZ,TW]
 have hR1:zQ e u.n u.name u.most u.ok=some (!u.ok||((!u.n&&(e.N !=0))||((!u.name&&!(e.Name==([]:ah)))||(u.most==0&&decide ((e.Kids.length:Int)>0))))):=by
  unfold zQ
  simp only[Qc,WZ,TW]
 have hR2:zR e u.params u.alts u.types=some ((!u.params&&decide ((e.Params.length:Int)>0))||((!u.alts&&decide ((e.Alts.length:Int)>0))||(!u.types&&decide ((e.Types.length:Int)>0)))):=by
  unfold zR
  simp only[Qc,WZ,TW]
 rw[hJ1,hR1,hR2]
 have hJ2:∀b,tN ok b=some (!u.ok||b):=fun b=>by
  unfold tN
  rw[hS.ok,WZ]
 simp only[vaa,hJ2]
 by_cases ht:u.types=false->(e.Types.length:Int)=0
 ·obtain⟨bc,hc1,hc2⟩:=UR e he hS ht
  rw[hc1,hc2,h3,h3',WT e he,Vt e he,QZ e he,VD,VE e he,hS.name]
  have hc':=hc
  unfold Bf at hc'
  rw[hc]
  simp only[vaa]
  generalize (!u.n&&(e.N !=0))=a1
  generalize (!u.name&&!(e.Name==([]:ah)))=a2
  generalize (u.most==0&&decide ((e.Kids.length:Int)>0))=a3
  generalize (!u.params&&decide ((e.Params.length:Int)>0))=a4
  generalize (!u.alts&&decide ((e.Alts.length:Int)>0))=a5
  generalize (!u.types&&decide ((e.Types.length:Int)>0))=a6
  generalize u.ok=a0
  generalize Wg e u.name=n1
  generalize Wq e=n2
  by_cases hU:(!a0||(a1||(a2||(a3||(a4||(a5||a6))))))=true
  ·rw[vaq hU]
   refine⟨1,rfl,?_⟩
   cases a0<;>cases a1<;>cases a2<;>cases a3<;>cases a4<;>cases a5<;>cases a6<;>first|rfl|simp at hU
  ·rw [vas hU]
   have hU':a0=true/\a1=false/\a2=false/\a3=false/\a4=false/\a5=false/\a6=false:=by
    revert hU
    cases a0<;>cases a1<;>cases a2<;>cases a3<;>cases a4<;>cases a5<;>cases a6<;>simp
   obtain⟨rfl,rfl,rfl,rfl,rfl,rfl,rfl⟩:=hU'
   cases bc with
   |false=>exact⟨13,rfl,rfl⟩
   | true =>
    cases b3 with
    |true=>exact⟨2,rfl,rfl⟩
    | false =>
     cases n1 with
     |true=>exact⟨3,rfl,rfl⟩
     |false=>
      cases n2 with
      |true=>exact⟨4,rfl,rfl⟩
      |false=>exact⟨c,hc',rfl⟩
 ·have h1:u.types=false:=Classical.byContradiction fun hx=>ht fun hy=>absurd hy hx
  have h2:¬(e.Types.length:Int)=0:=fun hx=>ht fun _=>hx
  have h3:decide ((e.Types.length:Int)>0)=true:=by simp;omega
  rw[h1,h3]
  generalize (!u.n&&(e.N !=0))=a1
  generalize (!u.name&&!(e.Name==([]:ah)))=a2
  generalize (u.most==0&&decide ((e.Kids.length:Int)>0))=a3
  generalize (!u.params&&decide ((e.Params.length:Int)>0))=a4
  generalize (!u.alts&&decide ((e.Alts.length:Int)>0))=a5
  generalize u.ok=a0
  refine⟨1,vaq (by simp),?_⟩
  cases a0<;>cases a1<;>cases a2<;>cases a3<;>cases a4<;>cases a5<;>rfl
def MJ(e:af):Int:=(Be e).getD 0
theorem PE{e:af}(he:Dh e):Be e=some (MJ e)/\wr e=some (MJ e):=by
 obtain⟨c,h1,h2⟩:=Ye e he
 unfold MJ
 rw[h2]
 exact⟨rfl,h1⟩
def nR:List af->Int
 |[]=>0
 |x::l=>if MJ x=0 then nR l else MJ x
theorem F8:∀(l m:List af),nR (l++m)=if nR l=0 then nR m else nR l
 |[],m=>by simp[nR]
 | x :: l,m => by
  rw[va4,nR,nR,F8 l m]
  by_cases h:MJ x=0
  ·simp[h]
  ·simp[h]
theorem VI(e:af)(he:Dh e):∃b,ll e 0=some (b,nR (df e)):=by
 rw[Lz e 0 (oe he)]
 have key:∀(l:List af),(∀x∈l,Dh x)->∃b,Df (fun s x=>jQ x s) l (0:Int)=some (b,nR l):=by
  intro l
  induction l with
  |nil=>intro _;exact⟨true,rfl⟩
  | cons x l ih =>
   intro h
   have hx:=(PE (h x (by simp))).2
   have e1:jQ x 0=some (MJ x==0,MJ x):=by unfold jQ;rw[hx];rfl
   rw[Df,e1,nR]
   by_cases h0:MJ x=0
   ·simp only[vaa,h0,beq_self_eq_true,if_true]
    exact ih fun y hy=>h y (by simp[hy])
   ·have h0':(MJ x==0)=false:=by simpa using h0
    simp only[vaa,h0',h0,if_false]
    exact⟨false,rfl⟩
 exact key _ fun x hx=>WV he hx
theorem X5(e:af)(he:Dh e):Mn e=some (nR (df e)):=by
 refine vo (F:=Gu) nE Dh (fun x=>nR (df x)) (fun R e he ih=>?_) e he (qk (oe he))
 have hB:nE e<=1073741824:=oe he
 have hlen:=z6 e
 show B8 (fun e=>R e) e=_
 unfold B8
 rw[(PE he).1,Jc e (oe he)]
 simp only[vaa]
 have key:∀(k i:Nat) (v:Int),i+k=(bB e).length->sd (fun e=>R e) (bB e) v (i:Int)=some (if v=0 then nR (((bB e).drop i).flatMap df)else v):=by
  intro k
  induction k with
  | zero =>
   intro i v hi
   have:i=(bB e).length:=by omega
   subst this
   unfold sd
   rw[nM (x:=v) ?_]
   ·rw[vb8]
    by_cases hv:v=0
    ·rw[vaq hv,hv];rfl
    ·rw[vas hv]
   ·show jc (fun e=>R e) (bB e) v ((bB e).length:Int)=_
    unfold jc vU
    rw[vas (by simp)]
    rfl
  | succ k ihk =>
   intro i v hi
   have hlt:i<(bB e).length:=by omega
   have hm:(bB e)[i]∈bB e:=van hlt
   by_cases hv:v=0
   ·have hb:jc (fun e=>R e) (bB e) v (i:Int)=some (.inl (nR (df (bB e)[i]),((i+1:Nat):Int))):=by
     unfold jc vU
     rw[vaq (by simpa using hlt),hv]
     simp only[vaa,beq_self_eq_true,if_true]
     rw[bo _ _ hlt]
     simp only[vaa]
     rw[ih _ (E0 hm) (WU he hm),cJ (by omega) (by omega)]
     rfl
    have h:=ihk (i+1) (nR (df (bB e)[i])) (by omega)
    unfold sd at h ⊢
    rw[Bq (s':=(nR (df (bB e)[i]),((i+1:Nat):Int))) hb,h,vaq hv,va2 hlt,vcq,F8]
   ·unfold sd
    rw[nM (x:=v) ?_,vas hv]
    show jc (fun e=>R e) (bB e) v (i:Int)=_
    unfold jc vU
    rw[vaq (by simpa using hlt)]
    simp only[vaa]
    rw[vas (by simpa using hv)]
 have h:=key (bB e).length 0 (MJ e) (by omega)
 rw[show((0:Nat):Int)=0 from rfl]at h
 rw[h,vbi,BE,nR]
 rfl
theorem VY(e:af)(he:Dh e):∃c,pT e=some c/\EQ e=some c:=by
 obtain⟨b,hw⟩:=VI e he
 unfold pT EQ
 rw[Ri e (oe he),PC e (oe he),Rh e (oe he),PA e (oe he),hw,X5 e he]
 simp only[vaa]
 by_cases h1:decide (((df e).length:Int)>400)=true
 ·rw[vaq h1];exact⟨_,rfl,rfl⟩
 ·rw[vas h1]
  by_cases h2:decide ((dE e:Int)>40)=true
  ·rw[vaq h2];exact⟨_,rfl,rfl⟩
  ·rw[vas h2];exact⟨_,rfl,rfl⟩
set_option maxRecDepth 100000
theorem SS:EW=some true:=by kernel_rfl
theorem Tz(x0 x1:af)(h:kX (ac x0)+(kX (ac x1)+0)<=1048576):wG x0 x1=some true:=by
 have h0:Dh x0:=by show _<=1073741824;omega
 have h1:Dh x1:=by show _<=1073741824;omega
 obtain⟨b0,s0,_⟩:=PJ x0 (by unfold HV;omega)
 obtain⟨b1,s1,_⟩:=PJ x1 (by unfold HV;omega)
 obtain⟨c,hc1,hc2⟩:=VY x0 h0
 unfold wG rN
 rw[s0,s1,hc1,hc2,Ri x0 (oe h0),PC x0 (oe h0),Rh x0 (oe h0),PA x0 (oe h0),TP x0 x1 h0,Xi x0 x1 h0 h1,TP x0 x0 h0,SS]
 cases b0<;>cases b1<;>simp
end Go.Proofs.YtkdahfeiedaahaaGreatDoor
