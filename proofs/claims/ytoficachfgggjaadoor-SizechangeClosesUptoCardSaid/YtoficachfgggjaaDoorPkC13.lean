/- PROVED: a part of the proof. Conditions: none. -/
import Derived.Test.YtoficachfgggjaaDoorPkC12
import Derived.Test.YtoficachfgggjaaDoorPkC8
import Derived.Test.YtoficachfgggjaaDoorPkC7
noncomputable section
namespace Go.Proofs.YtoficachfgggjaaDoor
open Go
set_option linter.unusedSimpArgs false
set_option linter.unusedVariables false
def bv(c:Int):Bool:=decide (97<=c)&&decide (c<=122)
def mD(c:Int):Bool:=decide (65<=c)&&decide (c<=90)
def sC(c:Int):Bool:=decide (48<=c)&&decide (c<=57)
theorem j8(c:Int):il c=some (bv c):=by unfold il bv;split<;>simp_all<;>omega
theorem oM(c:Int):jc c=some (mD c):=by unfold jc mD;split<;>simp_all<;>omega
theorem mG(c:Int):jC c=some (sC c):=by unfold jC sC;split<;>simp_all<;>omega
theorem iv(c:Int):iu c=some (bv c):=by unfold iu bv;split<;>simp_all<;>omega
theorem mi(c:Int):jw c=some (mD c):=by unfold jw mD;split<;>simp_all<;>omega
theorem lO(c:Int):ko c=some (sC c):=by unfold ko sC;split<;>simp_all<;>omega
def fP(b:UInt8):Bool:=bv b.toNat||sC b.toNat||(b.toNat:Int)==95
def dV(b:UInt8):Bool:=bv b.toNat||mD b.toNat||sC b.toNat
def it(s:ag):Bool:=decide ((s.length:Int)>=1)&&decide ((s.length:Int)<=24)
def GZ(s:ag):Bool:=a8.any fun k=>k==s
def kj(p:Int->Bool)(s:ag):Bool:=match s with|[]=>false|c::_=>p c.toNat
abbrev A4(s:ag):Prop:=s.length<9223372036854775808
theorem mI(s:ag):jD s=some (it s):=by
 unfold jD it
 by_cases h:(s.length:Int)>=1
 ·rw[vaf (decide_eq_true h),decide_eq_true h];rfl
 ·rw[vag (by simpa using h),decide_eq_false h];rfl
theorem u6(s:ag):kN s=some (GZ s):=by
 unfold kN kC
 have h42:a8.length=42:=rfl
 have:=j5 a8 (by rw[h42];omega) (fun zz=>d4 s zz) (fun k=>k==s) (Sum.inl ()) (Sum.inr ()) (fun i h=>by
  rw[h42]at h
  simp only[d4]
  rw[vaf (by simp;omega),eX _ i (by rw[h42];omega)]
  simp only[vaa]
  split<;>simp_all) (by simp only[d4];rw[vag (by rw[h42];simp)]) 0 (vaJ _)
 simp only[Int.ofNat_zero,vbf]at this
 rw[this]
 unfold GZ
 cases a8.any (fun k=>k==s)<;>rfl
theorem wn:pe=some a8:=rfl
theorem w0(s:ag):nn s=some (GZ s):=by
 unfold nn
 have h42:a8.length=42:=rfl
 rw[wn]
 simp only[vaa]
 rw[Be _ _ (by rw[h42];omega)]
 simp only[vaa,At]
 rfl
def j4(s:ag):Bool:=it s&&kj bv s&&!GZ s&&s.all fP
def gK(s:ag):Bool:=it s&&kj mD s&&s.all dV&&!(s==[73,110,116])&&!(s==[66,111,111,108])&&!(s==[67,101,108,108])&&!(s==[70,117,110])
def q5(b:Bool):Int:=if b then 0 else 3
theorem vK{s:ag}(h:it s=true):∃c r,s=c::r:=by
 cases s with
 |nil=>simp[it]at h
 |cons c r=>exact⟨c,r,rfl⟩
theorem vd(s:ag)(i:Nat)(h:i<s.length):kP s i=some (!fP s[i]):=by
 unfold kP fP
 simp only[ja s i h,vaa,j8,mG]
 cases bv (s[i].toNat:Int)<;>cases sC (s[i].toNat:Int)<;>simp[bne]
theorem wb(s:ag)(i:Nat)(h:i<s.length):lJ s i=some (!fP s[i]):=by
 unfold lJ fP
 simp only[ja s i h,vaa,iv,lO]
 cases bv (s[i].toNat:Int)<;>cases sC (s[i].toNat:Int)<;>simp[bne]
theorem vj(s:ag)(hs:A4 s)(i:Nat)(hi:i<=s.length):kQ s i=some (if(s.drop i).any (fun b=>!fP b)=true then .inl ()else .inr ()):=by
 unfold kQ
 refine j5 s hs _ (fun b=>!fP b) _ _ (fun j h=>?_) ?_ i hi
 ·simp only[jl]
  rw[vaf (by simp;omega),vd s j h]
  simp only[vaa]
  split<;>simp_all
 ·simp only[jl];rw[vag (by simp)]
theorem wd(s:ag)(hs:A4 s):lK s s.length 0=some (if s.any (fun b=>!fP b)=true then .inl ()else .inr ()):=by
 unfold lK
 have:=j5 s hs (fun zz=>gR s s.length zz) (fun b=>!fP b) (.inl ()) (.inr ()) (fun j h=>by
  simp only[gR]
  rw[vaf (by simp;omega),wb s j h]
  simp only[vaa]
  split<;>simp_all) (by simp only[gR];rw[vag (by simp)]) 0 (vaJ _)
 simpa using this
theorem zR{b:UInt8}(h:bv b.toNat=true):fP b=true:=by simp[fP,h]
theorem va(s:ag):kO s=some (!(it s&&kj bv s&&!GZ s)):=by
 unfold kO
 rw[mI]
 simp only[vaa]
 by_cases h:it s=true
 ·obtain⟨c,r,rfl⟩:=vK h
  simp only[h,oE,vaa,j8,u6,kj]
  cases bv (c.toNat:Int)<;>simp
 ·simp[h]
theorem zi(s:ag)(hs:A4 s):pH s=some (j4 s):=by
 unfold pH j4
 rw[va]
 simp only[vaa]
 by_cases h:(it s&&kj bv s&&!GZ s)=true
 ·have hs1:it s=true:=by revert h;cases it s<;>simp
  obtain⟨c,r,rfl⟩:=vK hs1
  have hc:bv (c.toNat:Int)=true:=by revert h;simp[kj];intro _ h _;exact h
  have hL:=vj (c::r) hs 1 (by simp)
  simp only[Int.ofNat_one]at hL
  rw[h,hL]
  simp only[List.drop_succ_cons,vbf,List.all_cons,zR hc,vbl]
  rw[vbh]
  simp only[vbY]
  cases r.all fP<;>simp
 ·simp[h]
theorem v8(s:ag):lI s=some (!(it s&&kj bv s&&!GZ s)):=by
 unfold lI it
 cases s with
 |nil=>simp
 | cons c r =>
  have h1:¬(((c::r).length:Int)<1):=by simp;omega
  have h2:(((c::r).length:Int)>=1):=by omega
  simp only[h1,h2,decide_false,decide_true,vbl,vas,if_false,oE,vaa,iv,w0,kj]
  by_cases h:(((c::r).length:Int)>24)
  ·have h':¬(((c::r).length:Int)<=24):=by omega
   simp only[h,h',decide_true,decide_false,if_true]
   simp
  ·have h':(((c::r).length:Int)<=24):=by omega
   simp only[h,h',decide_true,decide_false,if_false,vas]
   cases bv (c.toNat:Int)<;>simp
theorem zY(s:ag)(hs:A4 s):rA s=some (q5 (j4 s)):=by
 unfold rA
 rw[v8,wd s hs]
 unfold j4 q5
 cases(it s&&kj bv s&&!GZ s)with
 |false=>simp
 |true=>
  simp only[vaa,vbA,vas,if_false,vbl]
  rw[vbh]
  simp only[vbY]
  cases s.all fP<;>simp
theorem nX(s:ag)(i:Nat)(h:i<s.length):ed s i=some (!dV s[i]):=by
 unfold ed dV
 simp only[ja s i h,vaa,j8,oM,mG]
 cases bv (s[i].toNat:Int)<;>cases mD (s[i].toNat:Int)<;>simp
theorem wk(s:ag)(i:Nat)(h:i<s.length):lM s i=some (!dV s[i]):=by
 unfold lM dV
 simp only[ja s i h,vaa,iv,mi,lO]
 cases bv (s[i].toNat:Int)<;>cases mD (s[i].toNat:Int)<;>simp
theorem kl(s:ag)(hs:A4 s):d6 s=some (s.all dV):=by
 unfold d6 gA
 have:=j5 s hs (fun zz=>b8 s zz) (fun b=>!dV b) (.inl ()) (.inr ()) (fun j h=>by
  simp only[b8]
  rw[vaf (by simp;omega),nX s j h]
  simp only[vaa]
  split<;>simp_all) (by simp only[b8];rw[vag (by simp)]) 0 (vaJ _)
 simp only[Int.ofNat_zero,vbf]at this
 rw[this,vbh]
 simp only[vbY]
 cases s.all dV<;>rfl
theorem ul(s:ag)(hs:A4 s):ka s=some (!(it s&&kj mD s&&s.all dV)):=by
 unfold ka
 rw[mI]
 simp only[vaa]
 by_cases h:it s=true
 ·obtain⟨c,r,rfl⟩:=vK h
  simp only[h,oE,vaa,oM,kl _ hs,kj]
  cases mD (c.toNat:Int)<;>simp
 ·simp[h]
theorem yd(s:ag)(hs:A4 s):nG s=some (gK s):=by
 unfold nG gK
 rw[ul s hs]
 simp only[vaa]
 cases(it s&&kj mD s&&s.all dV)<;>cases(s==[73,110,116])<;>cases(s==[66,111,111,108])<;>cases(s==[67,101,108,108])<;>cases(s==[70,117,110])<;>rfl
theorem wh(s:ag):lL s=some (!(it s&&kj mD s&&!(s==[73,110,116])&&!(s==[66,111,111,108])&&!(s==[67,101,108,108])&&!(s==[70,117,110]))):=by
 unfold lL it
 cases s with
 |nil=>simp
 | cons c r =>
  have h1:¬(((c::r).length:Int)<1):=by simp;omega
  have h2:(((c::r).length:Int)>=1):=by omega
  simp only[h1,h2,decide_false,decide_true,vbl,vas,if_false,oE,vaa,mi,kj]
  by_cases h:(((c::r).length:Int)>24)
  ·have h':¬(((c::r).length:Int)<=24):=by omega
   simp only[h,h',decide_true,decide_false,if_true]
   simp
  ·have h':(((c::r).length:Int)<=24):=by omega
   simp only[h,h',decide_true,decide_false,if_false,vas]
   cases mD (c.toNat:Int)<;>cases(c::r==[73,110,116])<;>cases(c::r==[66,111,111,108])<;>cases(c::r==[67,101,108,108])<;>cases(c::r==[70,117,110])<;>rfl
theorem wm(s:ag)(hs:A4 s):lN s s.length 0=some (if s.any (fun b=>!dV b)=true then .inl ()else .inr ()):=by
 unfold lN
 have:=j5 s hs (fun zz=>gU s s.length zz) (fun b=>!dV b) (.inl ()) (.inr ()) (fun j h=>by
  simp only[gU]
  rw[vaf (by simp;omega),wk s j h]
  simp only[vaa]
  split<;>simp_all) (by simp only[gU];rw[vag (by simp)]) 0 (vaJ _)
 simpa using this
theorem z6(s:ag)(hs:A4 s):rC s=some (q5 (gK s)):=by
 unfold rC
 rw[wh,wm s hs]
 unfold gK q5
 rw[vbh]
 simp only[vbY]
 cases(it s&&kj mD s)<;>cases s.all dV<;>cases(s==[73,110,116])<;>cases(s==[66,111,111,108])<;>cases(s==[67,101,108,108])<;>cases(s==[70,117,110])<;>rfl
theorem Fb(b:UInt8):((b.toNat:Int)==46)=(b==46):=by
 rw[vbx]
 simp only[vaE]
 constructor
 ·intro h
  have:b.toNat=46:=by omega
  exact UInt8.toNat_inj.1 this
 ·rintro rfl;rfl
def fY:ag->List ag
 |[]=>[[]]
 |c::r=>if(c==46)=true then[]::fY r else match fY r with
  |[]=>[[c]]
  |h::t=>(c::h)::t
def uy(p:ag):List ag->List ag
 |[]=>[p]
 |h::t=>(p++h)::t
theorem ny:∀(s:ag),fY s≠[]
 |[]=>by simp[fY]
 | c :: r => by
  unfold fY
  split
  ·simp
  ·split<;>simp
theorem uT(c:UInt8)(r:ag)(h:¬(c==46)=true):fY (c::r)=uy [c] (fY r):=by
 conv=>lhs;unfold fY
 rw[vag h]
 cases fY r<;>rfl
theorem zN(p q:ag)(l:List ag):uy p (uy q l)=uy (p++q) l:=by cases l<;>simp[uy]
theorem yy{l:List ag}(h:l≠[]):uy [] l=l:=by cases l with
 |nil=>exact absurd rfl h
 |cons=>rfl
theorem xE:∀(p s:ag),p.all (fun c=>!(c==46))=true->fY (p++s)=uy p (fY s)
 |[],s,_=>(yy (ny s)).symm
 |c::p,s,h=>by
  rw[List.all_cons,vac]at h
  rw[vcl,uT _ _ (by simpa using h.1),xE p s h.2,zN]
  rfl
theorem xF:∀(s:ag),(fY s).length<=s.length+1/\∀x∈fY s,x.length<=s.length
 |[]=>by simp[fY]
 | c :: r => by
  obtain⟨h1,h2⟩:=xF r
  by_cases h:(c==46)=true
  ·unfold fY
   rw[vaf h]
   refine⟨by simp;omega,fun x hx=>?_⟩
   rw[vay]at hx
   rcases hx with rfl|hx
   ·simp
   ·have:=h2 x hx;simp;omega
  ·rw[uT c r h]
   cases hd:fY r with
   |nil=>exact absurd hd (ny r)
   | cons a t =>
    rw[hd]at h1 h2
    refine⟨by simpa[uy]using Nat.le_succ_of_le h1,fun x hx=>?_⟩
    simp only[uy,vay]at hx
    rcases hx with rfl|hx
    ·have:=h2 a (by simp);simp;omega
    ·have:=h2 x (by simp[hx]);simp;omega
def iI(s:ag):ag×ag×Bool:=match s.findIdx? (fun c=>c==46)with
 |some j=>(s.take j,s.drop (j+1),true)
 |none=>(s,[],false)
theorem uh(s:ag)(hs:A4 s):oO s=some (iI s):=by
 unfold oO pG
 have:=uV s hs (fun zz=>ij s zz) (fun c=>c==46) (fun j=>Sum.inl (s.take j,s.drop (j+1))) (Sum.inr ()) (fun i h=>by
  simp only[ij]
  rw[vaf (by simp;omega),ja s i h]
  simp only[vaa,Fb]
  by_cases hd:(s[i]==46)=true
  ·rw[vaf hd,vaf hd,Dd s i (by omega)]
   have hs':s.length<9223372036854775808:=hs
   have e:bA ((i:Int)+1)=((i+1:Nat):Int):=by rw[dC (by omega) (by omega)];omega
   rw[e]
   simp only[vaa,uG s (i+1) (by omega)]
  ·rw[vag hd,vag hd]) (by simp only[ij];rw[vag (by simp)])
 rw[this]
 unfold iI
 cases s.findIdx? (fun c=>c==46)<;>rfl
theorem BG(s:ag):fY s=if(iI s).2.2=true then(iI s).1::fY (iI s).2.1 else[(iI s).1]:=by
 unfold iI
 cases h:s.findIdx? (fun c=>c==46)with
 |none=>
  rw[vcb]at h
  have:=xE s [] (by simp only[van,vaM];exact h)
  rw[vbv]at this
  simp only[vas,if_false]
  rw[this]
  simp[fY,uy]
 | some j =>
  rw[vbR]at h
  obtain⟨hj,h1,h2⟩:=h
  have e:s=s.take j++s[j]::s.drop (j+1):=by
   conv=>lhs;rw[<-vcr j s]
   rw[vbb hj]
  have:=xE (s.take j) (s[j]::s.drop (j+1)) (by
   simp only[van,vaM]
   intro x hx
   obtain⟨i,hi,rfl⟩:=List.getElem_of_mem hx
   rw[List.getElem_take]
   have hi':i<j:=by simp at hi;omega
   simpa using h2 i hi')
  rw[<-e]at this
  simp only[if_true]
  rw[this]
  conv=>lhs;arg 2;unfold fY
  rw[vaf h1]
  simp[uy]
theorem BE(s:ag):(iI s).1.length<=s.length/\(iI s).2.1.length<=s.length/\((iI s).2.2=true->(iI s).2.1.length<s.length):=by
 unfold iI
 cases h:s.findIdx? (fun c=>c==46)with
 |none=>simp
 |some j=>
  rw[vbR]at h
  obtain⟨hj,_⟩:=h
  simp
  omega
def Cs(p:ag):Bool:=(p.isEmpty||kj bv p)&&p.all fP
def ie(p:ag):Bool:=it p&&(p.all dV||Cs p)
theorem zO{α X:Type}(p:Nat->α->Bool)(q:α->Bool)(y e:X)(k:Nat)(h:∀i x,k<=i->p i x=q x):∀(l:List α) (i:Nat),k<=i->lq (fun i x (_:Unit)=>if p i x=true then Sum.inr y else .inl ()) (fun _=>e) l i ()=if l.any q=true then y else e
 |[],i,_=>by simp[lq]
 | x :: l,i,hk => by
  have ih:=zO p q y e k h l (i+1) (by omega)
  unfold lq
  rw[h i x hk]
  by_cases hq:q x=true
  ·simp[hq]
  ·simp only[hq,if_false,ih,List.any_cons,vch,vas]
theorem vp(s:ag)(i:Nat)(h:i<s.length):kR s i=some (if i=0 then !bv s[i].toNat else !fP s[i]):=by
 unfold kR fP
 simp only[ja s i h,vaa,j8,mG]
 by_cases h0:i=0
 ·subst h0
  cases bv ((s[0]).toNat:Int)<;>simp
 ·have:((i:Int)==0)=false:=by simp;omega
  simp only[this,vag h0]
  cases bv (s[i].toNat:Int)<;>cases sC (s[i].toNat:Int)<;>simp[bne]
theorem zj(s:ag)(hs:A4 s):pI s=some (Cs s):=by
 unfold pI nZ
 have:=oG s hs (fun i (_:Unit)=>i) (fun zz=>gh s zz) (fun _ _=>True) (fun i x _=>if(if i=0 then !bv x.toNat else !fP x)=true then .inr (.inl ())else .inl ()) (fun _=>.inr ()) (fun i h t _=>⟨by
  simp only[gh]
  rw[vaf (by simp;omega),vp s i h]
  simp only[vaa]
  cases(if i=0 then !bv s[i].toNat else !fP s[i])<;>rfl,fun _ _=>trivial⟩) (fun t _=>by simp only[gh];rw[vag (by simp)]) 0 () (vaJ _) trivial
 simp only[Int.ofNat_zero,vbf]at this
 rw[this]
 cases s with
 |nil=>rfl
 | cons c r =>
  unfold lq Cs kj
  simp only[if_true,List.isEmpty_cons,vch,List.all_cons]
  by_cases hc:bv c.toNat=true
  ·have:=zO (X:=Unit⊕Unit) (fun i (x:UInt8)=>if i=0 then !bv x.toNat else !fP x) (fun x=>!fP x) (.inl ()) (.inr ()) 1 (fun i x hi=>by rw[vag (by omega)]) r 1 (vap _)
   simp only[hc,vbA,vas,if_false,zR hc,vbl,vaB]
   rw[this,vbh]
   simp only[vbY]
   cases r.all fP<;>rfl
  ·simp[hc]
theorem u3(p:ag)(hs:A4 p):kM p=some (!ie p):=by
 unfold kM ie
 rw[mI,kl p hs,zj p hs]
 cases it p<;>cases p.all dV<;>simp
theorem lC(r:ag):dO r false=some (.inr ()):=aX rfl
theorem mF:∀(k:Nat) (r:ag),r.length<k->A4 r->dO r true=some (if(!(fY r).all ie)=true then .inl ()else .inr ())
 |0,r,hk,_=>absurd hk (by omega)
 | k + 1,r,hk,hs => by
  obtain⟨c1,c2,c3⟩:=BE r
  have hs':r.length<9223372036854775808:=hs
  have hb:ez r true=some (if(!ie (iI r).1)=true then .inr (.inl ())else .inl ((iI r).2.1,(iI r).2.2)):=by
   simp only[ez,if_true,uh r hs,vaa]
   rw[u3 _ (show _<_ by omega)]
   simp only[vaa]
   cases ie (iI r).1<;>rfl
  rw[BG r]
  unfold dO
  by_cases hp:ie (iI r).1=true
  ·rw[hp]at hb
   refine(cW (body:=fun zz:ag×Bool=>ez zz.1 zz.2) (s:=(r,true)) (s':=((iI r).2.1,(iI r).2.2)) hb).trans ?_
   cases hm:(iI r).2.2 with
   |false=>
    have:=lC (iI r).2.1
    unfold dO at this
    rw[this]
    simp[hp]
   |true=>
    have c4:=c3 hm
    have:=mF k (iI r).2.1 (by omega) (show _<_ by omega)
    unfold dO at this
    rw[this]
    simp[hp]
  ·have hp':ie (iI r).1=false:=by simpa using hp
   rw[hp']at hb
   refine(aX (body:=fun zz:ag×Bool=>ez zz.1 zz.2) (s:=(r,true)) hb).trans ?_
   cases(iI r).2.2<;>simp[hp']
theorem u5(r:ag)(more:Bool)(hs:A4 r):dO r more=some (if(more&&!(fY r).all ie)=true then .inl ()else .inr ()):=by
 cases more with
 |false=>exact lC r
 |true=>exact mF (r.length+1) r (by omega) hs
def dy(s:ag):Bool:=decide (s.length<=120)&&match fY s with
 |[]=>false
 |f::r=>(j4 f||gK f||(f==[118]&&!r.isEmpty))&&r.all ie
theorem uY(f:ag)(hf:A4 f)(more:Bool):kL f more=some (!(j4 f||gK f||(f==[118]&&more))):=by
 unfold kL
 rw[zi f hf,yd f hf]
 simp only[vaa]
 cases j4 f<;>cases gK f<;>cases(f==[118])<;>simp
theorem sE(s:ag):mE s=some (q5 (dy s)):=by
 unfold mE dy q5
 by_cases h:s.length<=120
 ·have h1:¬((s.length:Int)>120):=by omega
  obtain⟨c1,c2,c3⟩:=BE s
  simp only[h1,h,decide_false,decide_true,vas,if_false,vbl,uh s (show _<_ by omega),vaa]
  rw[uY _ (show _<_ by omega),u5 _ _ (show _<_ by omega),BG s]
  simp only[vaa]
  cases hm:(iI s).2.2 with
  |false=>
   by_cases hn:j4 (iI s).1=true<;>by_cases ht:gK (iI s).1=true<;>simp[hn,ht]
  | true =>
   have:(fY (iI s).2.1).isEmpty=false:=by
    cases hd:fY (iI s).2.1 with
    |nil=>exact absurd hd (ny _)
    |cons=>rfl
   simp only[this,if_true,Bool.not_false,Bool.and_true,vbl]
   cases(j4 (iI s).1||gK (iI s).1||(iI s).1==[118])<;>cases(fY (iI s).2.1).all ie<;>simp
 ·have h1:((s.length:Int)>120):=by omega
  simp[h1,h]
theorem nO(s:ag):∀(r:ag) (i b:Nat) (out o:List ag) (b':Nat),s.drop i=r->i+r.length=s.length->b<=i->((s.take i).drop b).all (fun c=>!(c==46))=true->
  lq (fun i x (t:List ag×Nat)=>if(x==46)=true then(Sum.inl (t.1++[(s.take i).drop t.2],i+1):(List ag×Nat)⊕(List ag×Nat))else .inl t) (fun t=>t) r i (out,b)=(o,b')->
  b'<=s.length/\o++[s.drop b']=out++uy ((s.take i).drop b) (fY r)
 |[],i,b,out,o,b',h1,h2,h3,h4,h=>by
  simp only[lq,Prod.mk.injEq]at h
  obtain⟨rfl,rfl⟩:=h
  have:i=s.length:=by simpa using h2
  subst this
  simp[fY,uy,h3]
 | c :: r,i,b,out,o,b',h1,h2,h3,h4,h => by
  have hi:i<s.length:=by simp at h2;omega
  rw[vbb hi]at h1
  injection h1 with h1a h1b
  unfold lq at h
  by_cases hc:(c==46)=true
  ·simp only[hc,if_true]at h
   have ih:=nO s r (i+1) (i+1) _ o b' h1b (by simp at h2;omega) (vap _) (by simp) h
   refine⟨ih.1,?_⟩
   rw[ih.2]
   have e:(s.take (i+1)).drop (i+1)=[]:=by simp
   rw[e,yy (ny r)]
   conv=>rhs;arg 2;arg 2;unfold fY
   rw[vaf hc]
   simp[uy]
  ·simp only[hc,if_false,vas]at h
   have e:(s.take (i+1)).drop b=(s.take i).drop b++[c]:=by
    rw[List.take_succ_eq_append_getElem hi,List.drop_append_of_le_length (by simp;omega),h1a]
   have ih:=nO s r (i+1) b _ o b' h1b (by simp at h2;omega) (by omega) (by rw[e,List.all_append,h4];simpa using hc) h
   refine⟨ih.1,?_⟩
   rw[ih.2,e,uT c r hc,zN]
theorem GH{α:Type}(l:List α)(a b:Nat)(h:a<=b)(h2:b<=l.length):AW l (some (a:Int)) (some (b:Int))=some ((l.take b).drop a):=by
 simp[AW,bd,h,h2]
theorem z8(s:ag)(hs:s.length<=1000000):rD s=some (fY s):=by
 unfold rD pf
 have:=oG s (by omega) (fun i (t:List ag×Nat)=>(t.1,(t.2:Int),i)) (fun zz=>gW s s.length zz.1 zz.2.1 zz.2.2) (fun i t=>t.2<=i/\t.1.length<=i)
  (fun i x (t:List ag×Nat)=>if(x==46)=true then(Sum.inl (t.1++[(s.take i).drop t.2],i+1):(List ag×Nat)⊕(List ag×Int))else .inl t) (fun t=>(t.1,(t.2:Int))) (fun i h t hI=>by
   refine⟨?_,fun t' ht=>?_⟩
   ·simp only[gW]
    rw[vaf (by simp;omega),ja s i h]
    simp only[vaa,Fb]
    by_cases hd:(s[i]==46)=true
    ·rw[vaf hd,vaf hd,GH s _ _ hI.1 (by omega)]
     simp only[vaa]
     rw[pw (by simp;omega)]
     have e:bA ((i:Int)+1)=((i+1:Nat):Int):=by rw[dC (by omega) (by omega)];omega
     rw[e]
     rfl
    ·rw[vag hd,vag hd]
   ·by_cases hd:(s[i]==46)=true
    ·rw[vaf hd]at ht;cases ht;simp;omega
    ·rw[vag hd]at ht;cases ht;omega) (fun t _=>by simp only[gW];rw[vag (by simp)]) 0 ([],0) (vaJ _) ⟨vap _,vap _⟩
 simp only[Int.ofNat_zero,vbf]at this
 rw[this]
 obtain⟨o,b',hr⟩:∃o b',lq (fun i x (t:List ag×Nat)=>if(x==46)=true then(Sum.inl (t.1++[(s.take i).drop t.2],i+1):(List ag×Nat)⊕(List ag×Nat))else .inl t) (fun t=>t) s 0 ([],0)=(o,b'):=⟨_,_,rfl⟩
 have key:∀(l:ag) (i:Nat) (t:List ag×Nat),lq (fun i x (t:List ag×Nat)=>if(x==46)=true then(Sum.inl (t.1++[(s.take i).drop t.2],i+1):(List ag×Nat)⊕(List ag×Int))else .inl t) (fun t=>(t.1,(t.2:Int))) l i t=
   ((lq (fun i x (t:List ag×Nat)=>if(x==46)=true then(Sum.inl (t.1++[(s.take i).drop t.2],i+1):(List ag×Nat)⊕(List ag×Nat))else .inl t) (fun t=>t) l i t).1,
    ((lq (fun i x (t:List ag×Nat)=>if(x==46)=true then(Sum.inl (t.1++[(s.take i).drop t.2],i+1):(List ag×Nat)⊕(List ag×Nat))else .inl t) (fun t=>t) l i t).2:Int)):=by
  intro l
  induction l with
  |nil=>intro i t;rfl
  | cons x l ih =>
   intro i t
   unfold lq
   by_cases hx:(x==46)=true
   ·simp only[hx,if_true,ih]
   ·simp only[hx,if_false,ih,vas]
 rw[key,hr]
 obtain⟨h1,h2⟩:=nO s s 0 0 [] o b' rfl (by simp) (vap _) (by simp) hr
 simp only[vaa]
 rw[uG s b' h1]
 simp only[vaa]
 have hd:=(xF s).1
 have h3:o++[s.drop b']=fY s:=by rw[h2];simp[yy (ny s)]
 have h4:o.length+1=(fY s).length:=by rw[<-h3];simp
 rw[pw (by simp;omega),h3]
 rfl
theorem w7(p:ag)(plain:Bool)(i:Nat)(h:i<p.length):np p plain i=some (plain&&dV p[i]):=by
 unfold np dV
 simp only[ja p i h,vaa,iv,mi,lO]
 cases plain<;>cases bv (p[i].toNat:Int)<;>cases mD (p[i].toNat:Int)<;>simp
theorem tA:∀(l:ag) (i:Nat) (a b:Bool),lq (fun _ (x:UInt8) (t:Bool×Bool)=>(Sum.inl (t.1&&dV x,t.2&&fP x):(Bool×Bool)⊕(Bool×Bool))) (fun t=>t) l i (a,b)=(a&&l.all dV,b&&l.all fP)
 |[],i,a,b=>by simp[lq]
 |x::l,i,a,b=>by
  unfold lq
  simp only[tA l,List.all_cons,Bool.and_assoc]
theorem w9(p:ag)(hp:A4 p)(a b:Bool):nq p p.length a b 0=some (a&&p.all dV,b&&p.all fP):=by
 unfold nq
 have:=oG p hp (fun i (t:Bool×Bool)=>(t.1,t.2,i)) (fun zz=>iU p p.length zz.1 zz.2.1 zz.2.2) (fun _ _=>True) (fun _ x t=>.inl (t.1&&dV x,t.2&&fP x)) (fun t=>t) (fun i h t _=>⟨by
  simp only[iU]
  rw[vaf (by simp;omega),w7 p _ i h]
  simp only[vaa,ja p i h,iv,lO,fP]
  cases t.2<;>cases bv (p[i].toNat:Int)<;>cases sC (p[i].toNat:Int)<;>simp,fun _ _=>trivial⟩) (fun t _=>by simp only[iU];rw[vag (by simp)]) 0 (a,b) (vaJ _) trivial
 simp only[Int.ofNat_zero,vbf]at this
 rw[this,tA]
theorem Bg(p:ag)(hp:A4 p):tz p=some (ie p):=by
 unfold tz qJ ie it
 cases p with
 |nil=>simp
 | cons c r =>
  have h1:¬(((c::r).length:Int)<1):=by simp;omega
  have h2:(((c::r).length:Int)>=1):=by omega
  simp only[h1,h2,decide_false,decide_true,vbl,vas,if_false,oE,vaa,iv,w9 _ hp,Cs,kj,List.isEmpty_cons,vch]
  by_cases h:(((c::r).length:Int)>24)
  ·have h':¬(((c::r).length:Int)<=24):=by omega
   simp only[h,h',decide_true,decide_false,if_true]
   simp
  ·have h':(((c::r).length:Int)<=24):=by omega
   simp only[h,h',decide_true,decide_false,if_false,vas,vbl]
   cases(c::r).all dV<;>simp
theorem wY(f:ag)(r:List ag)(hf:A4 f):nm (f::r)=some (!(j4 f||gK f||(f==[118]&&!r.isEmpty))):=by
 unfold nm
 simp only[Fo,vaa,zY f hf,z6 f hf]
 have e:(((f::r).length:Int)==1)=r.isEmpty:=by
  cases r with
  |nil=>rfl
  |cons a r=>simp;omega
 rw[e]
 unfold q5
 cases j4 f<;>cases gK f<;>cases(f==[118])<;>simp
theorem BQ{s f:ag}{r:List ag}(h:s.length<=120)(hd:fY s=f::r):dy s=((j4 f||gK f||(f==[118]&&!r.isEmpty))&&r.all fun x=>ie x):=by
 unfold dy
 rw[hd]
 simp only[h,decide_true,vbl]
theorem vN(s:ag):qE s=some (q5 (dy s)):=by
 unfold qE
 by_cases h:s.length<=120
 ·have h1:¬((s.length:Int)>120):=by omega
  simp only[h1,h,decide_false,decide_true,vas,if_false,vbl,z8 s (by omega),vaa]
  obtain⟨d1,d2⟩:=xF s
  cases hd:fY s with
  |nil=>exact absurd hd (ny s)
  | cons f r =>
   rw[hd]at d1 d2
   rw[BQ h hd]
   rw[wY f r (show _<_ by have:=d2 f (by simp);omega)]
   have hl:r.length<9223372036854775808:=by simp at d1;omega
   have:=j5 r hl (fun zz=>iO r r.length zz) (fun x=>!ie x) (.inl ()) (.inr ()) (fun j hj=>by
    simp only[iO]
    have hm:r[j]∈f::r:=by simp
    rw[vaf (by simp;omega),eX r j hj]
    simp only[vaa]
    rw[Bg _ (show _<_ by have:=d2 _ hm;omega)]
    simp only[vaa]
    split<;>simp_all) (by simp only[iO];rw[vag (by simp)]) 0 (vaJ _)
   have e1:AW (f::r) (some 1) none=some r:=by
    have:=uG (f::r) 1 (by simp)
    simpa using this
   simp only[Int.ofNat_zero,vbf]at this
   simp only[vaa,e1,qF,this,vbh,vbY]
   unfold q5
   cases(j4 f||gK f||(f==[118]&&!r.isEmpty))<;>cases r.all (fun x=>ie x)<;>rfl
 ·have h1:((s.length:Int)>120):=by omega
  have h2:dy s=false:=by unfold dy;simp[h]
  simp[h1,h2,q5]
def Ed(x:ah):Bool:=(decide (0<=x.From)&&decide (x.From<6))&&(decide (0<=x.To)&&decide (x.To<6))
def nS(a b:ah):Bool:=decide (a.From<b.From)||(a.From==b.From&&decide (a.To<b.To))
def nI(a b:ah):Bool:=a.From==b.From&&a.To==b.To
def ud(pre:List ah)(x:ah):Bool:=match pre.getLast? with
 |some y=>nS x y
 |none=>false
def lG(pre:List ah)(x:ah):Option Int:=if Ed x=false then some 2 else if pre.any (nI x)=true then some 4 else if ud pre x=true then some 9 else none
def vA:List ah->List ah->Int
 |_,[]=>0
 |pre,x::r=>match lG pre x with
  |some e=>e
  |none=>vA (pre++[x]) r
def vG(g:aa):Int:=if(dy g.Caller&&dy g.Callee)=true then vA [] g.Arcs else 3
theorem CR{x:ah}(h:Ed x=true):rg x:=by
 unfold Ed at h
 simp only[vac,vae]at h
 exact⟨h.1.1,h.1.2,h.2.1,h.2.2⟩
theorem zg{i:Int}(h0:0<=i)(h1:i<6):qA 6 i=some i.toNat:=by
 unfold qA;rw[vaf ⟨h0,by omega⟩]
theorem Ci(n:Int):fN n=some (decide (0<=n)&&decide (n<6)):=by
 unfold fN
 by_cases h:0<=n
 ·rw[vaf (by simpa using h)];simp[h]
 ·rw[vag (by simpa using h)];simp[h]
theorem H1(x:ah):eZ x.From x.To=some (!Ed x):=by
 unfold eZ
 rw[Ci,vaa]
 unfold Ed
 cases h:(decide (0<=x.From)&&decide (x.From<6))with
 |false=>simp
 |true=>
  rw[vag (by simp),Ci,vaa]
  simp
theorem HL(x:ah):lR x.From x.To=some (!Ed x):=by
 unfold lR Ed
 repeat' split
 all_goals (simp only[vae,vaY]at *)
 all_goals (congr 1;rw[vbx];simp;omega)
theorem zw(a b:ah):gO a b=some (nS a b):=by
 unfold gO nS
 split
 ·rename_i h;simp only[vae]at h;simp[h]
 ·rename_i h;simp only[vae]at h
  split
  ·rename_i h2;simp only[vaE]at h2;simp[h2]
  ·rename_i h2;simp only[vaE]at h2;simp[h,h2]
theorem pQ(a b:ah):ky a b=some (nS a b):=zw a b
theorem eW{α:Type}(pre:List α)(x:α)(r:List α):eQ (pre++x::r) (pre.length:Int)=some x:=by
 rw[eX _ _ (by simp)];simp
theorem BP{α:Type}{pre r:List α}{y:α}(h:pre.getLast?=some y)(hl:pre.length<4611686018427387904):eQ (pre++r) (bA ((pre.length:Int) - 1))=some y:=by
 obtain⟨q,rfl⟩:∃q,pre=q++[y]:=by
  have hne:pre≠[]:=by intro e;rw[e]at h;cases h
  rw[vbC hne]at h
  refine⟨pre.dropLast,?_⟩
  rw[<-vaR h];exact(vbF hne).symm
 have e1:((q++[y]).length:Int) - 1=(q.length:Int):=by simp
 rw[e1,dC (by omega) (by simp at hl;omega),vbp]
 exact eW q y r
theorem H3(g:aa){pre r:List ah}{x:ah}(hg:g.Arcs=pre++r)(hl:pre.length<4611686018427387904):e5 g (pre.length:Int) x.From x.To x.Strict=some (ud pre x):=by
 unfold e5 ud
 cases hp:pre.getLast? with
 |none=>
  have:pre=[]:=by simpa using hp
  subst this
  rw[vag (by simp)]
 |some y=>
  have hne:pre≠[]:=by intro e;rw[e]at hp;cases hp
  have hpos:=vbN.2 hne
  rw[vaf (by simp;omega),hg,BP hp hl,vaa,zw]
  rfl
theorem HN(g:aa){pre r:List ah}{x:ah}(hg:g.Arcs=pre++r)(hl:pre.length<4611686018427387904):lS g (pre.length:Int) x.From x.To x.Strict=some (ud pre x):=by
 unfold lS ud
 cases hp:pre.getLast? with
 |none=>
  have:pre=[]:=by simpa using hp
  subst this
  rw[vag (by simp)]
 |some y=>
  have hne:pre≠[]:=by intro e;rw[e]at hp;cases hp
  have hpos:=vbN.2 hne
  rw[vaf (by simp;omega),hg,BP hp hl,vaa,pQ]
  rfl
def Jh(m:Nat->Bool)(pre:List ah):Prop:=∀x:ah,rg x->m (0+x.From.toNat * 6+x.To.toNat * 1)=pre.any (nI x)
theorem yL(g:aa)(hl:g.Arcs.length<4611686018427387904):∀(r pre:List ah) (m:Nat->Bool),g.Arcs=pre++r->Jh m pre->
  ∃o,cH g g.Arcs (g.Arcs.length:Int) (pre.length:Int) m=some o/\(match o with|.inl o=>vA pre r=o.1/\o.1≠0|.inr _=>vA pre r=0)
 |[],pre,m,hg,hs=>by
  refine⟨.inr m,?_,rfl⟩
  unfold cH
  refine aX ?_
  unfold cR
  simp only
  rw[vag (by rw[hg];simp)]
 | x :: r,pre,m,hg,hs => by
  have hlt:pre.length<g.Arcs.length:=by rw[hg];simp
  have hb:cR g g.Arcs (g.Arcs.length:Int) (pre.length:Int) m=(match lG pre x with|some e=>some (.inr (.inl (e,m)))|none=>some (.inl (((pre++[x]).length:Int),iB m (0+x.From.toNat * 6+x.To.toNat * 1) true))):=by
   unfold cR
   rw[vaf (by simpa using hlt)]
   conv=>lhs;rw[hg]
   rw[eW,vaa,H1,vaa]
   unfold lG
   cases hr:Ed x with
   |false=>simp
   | true =>
    obtain⟨a,b,c,d⟩:=CR hr
    rw[vag (by simp),vag (by simp),zg a b,zg c d]
    simp only[vaa]
    rw[hs x ⟨a,b,c,d⟩]
    cases hy:pre.any (nI x)with
    |true=>simp
    | false =>
     rw[vag (by simp),vag (by simp),H3 g hg (by omega),vaa]
     cases hz:ud pre x with
     |true=>simp
     |false=>
      simp only[vas,if_false]
      rw[dC (by omega) (by omega)]
      congr 3
      simp
  cases hv:lG pre x with
  | some e =>
   rw[hv]at hb
   refine⟨.inl (e,m),?_,?_⟩
   ·unfold cH;exact aX hb
   ·simp only[vA,hv,vb4]
    unfold lG at hv
    split at hv
    ·cases hv;decide
    ·split at hv
     ·cases hv;decide
     ·split at hv
      ·cases hv;decide
      ·cases hv
  | none =>
   rw[hv]at hb
   have hin:Ed x=true:=by
    cases h:Ed x with
    |true=>rfl
    |false=>unfold lG at hv;rw[vaf h]at hv;cases hv
   obtain⟨a,b,c,d⟩:=CR hin
   obtain⟨o,h1,h2⟩:=yL g hl r (pre++[x]) (iB m (0+x.From.toNat * 6+x.To.toNat * 1) true) (by rw[hg];simp) (fun y hy=>by
    obtain⟨a',b',c',d'⟩:=hy
    unfold iB
    rw[List.any_append]
    by_cases he:0+y.From.toNat * 6+y.To.toNat * 1=0+x.From.toNat * 6+x.To.toNat * 1
    ·rw[vaf he]
     have h1:y.From=x.From:=by omega
     have h2:y.To=x.To:=by omega
     simp[nI,h1,h2]
    ·rw [vag he,hs y ⟨a',b',c',d'⟩]
     have:nI y x=false:=by
      unfold nI
      cases h1:(y.From==x.From)with
      |false=>rfl
      | true =>
       cases h2:(y.To==x.To)with
       |false=>rfl
       |true=>
        simp only[vaE]at h1 h2
        rw[h1,h2]at he
        exact absurd rfl he
     simp[this])
   refine⟨o,?_,?_⟩
   ·unfold cH at h1 ⊢
    rw[cW hb];exact h1
   ·cases o with
    |inl o=>simp only[vA,hv]at h2 ⊢;exact h2
    |inr o=>simp only[vA,hv]at h2 ⊢;exact h2
theorem tX(b:Bool):(q5 b !=0)= !b:=by cases b<;>rfl
theorem ET(g:aa)(hl:g.Arcs.length<4611686018427387904):cq g=some (vG g):=by
 unfold cq
 have hJ:eY g=some (!(dy g.Caller&&dy g.Callee)):=by
  unfold eY
  rw[sE,vaa,tX]
  cases h:dy g.Caller with
  |false=>simp
  |true=>simp only[vbA,vas,if_false];rw[sE,vaa,tX];simp
 rw[hJ,vaa]
 unfold vG
 cases h:(dy g.Caller&&dy g.Callee)with
 |false=>simp
 |true=>
  rw[vag (by simp),vaf rfl]
  obtain⟨o,h1,h2⟩:=yL g hl g.Arcs [] (sT false) rfl (fun x _=>rfl)
  rw[show(([]:List ah).length:Int)=0 from rfl]at h1
  rw[h1,vaa]
  cases o with
  |inl o=>simp only at h2 ⊢;rw[h2.1]
  |inr o=>simp only at h2 ⊢;rw[h2]
theorem HM(x y:ah):jT x.From x.To y.From y.To=some (nI x y):=by
 unfold jT nI
 split<;>simp_all
theorem HQ(pre:List ah)(hl:pre.length<4611686018427387904)(x:ah):lT pre (pre.length:Int) x.From x.To 0=some (if pre.any (nI x)=true then .inl ()else .inr ()):=by
 unfold lT
 refine oF pre (by omega) _ (fun i y=>(jT x.From x.To y.From y.To).bind fun o23=>if o23=true then some (Sum.inr (Sum.inl ()))else some (Sum.inl (bA (i+1)))) (nI x) (.inl ()) (.inr ()) (fun i=>?_) (fun y hy i=>?_)
 ·rfl
 ·rw[HM,vaa]
  cases nI x y<;>rfl
theorem v6(g:aa)(hl:g.Arcs.length<4611686018427387904):∀(r pre:List ah),g.Arcs=pre++r->
  ∃o,iz g g.Arcs (g.Arcs.length:Int) (pre.length:Int)=some o/\(match o with|.inl o=>vA pre r=o/\o≠0|.inr _=>vA pre r=0)
 |[],pre,hg=>by
  refine⟨.inr (),?_,rfl⟩
  unfold iz
  refine aX ?_
  unfold g5
  rw[vag (by rw[hg];simp)]
 | x :: r,pre,hg => by
  have hlt:pre.length<g.Arcs.length:=by rw[hg];simp
  have hb:g5 g g.Arcs (g.Arcs.length:Int) (pre.length:Int)=(match lG pre x with|some e=>some (.inr (.inl e))|none=>some (.inl ((pre++[x]).length:Int))):=by
   unfold g5
   rw[vaf (by simpa using hlt)]
   conv=>lhs;rw[hg]
   rw[eW,vaa,HL,vaa]
   unfold lG
   cases hr:Ed x with
   |false=>simp
   | true =>
    rw[vag (by simp),vag (by simp),Dd _ _ (by simp),vaa]
    have e1:(pre++x::r).take pre.length=pre:=by simp
    rw[e1,HQ pre (by omega),vaa]
    cases hy:pre.any (nI x)with
    |true=>simp
    | false =>
     simp only[vas,if_false]
     rw[HN g hg (by omega),vaa]
     cases hz:ud pre x with
     |true=>simp
     |false=>
      simp only[vas,if_false]
      rw[dC (by omega) (by omega)]
      congr 2
      simp
  cases hv:lG pre x with
  | some e =>
   rw[hv]at hb
   refine⟨.inl e,?_,?_⟩
   ·unfold iz;exact aX hb
   ·simp only[vA,hv,vb4]
    unfold lG at hv
    split at hv
    ·cases hv;decide
    ·split at hv
     ·cases hv;decide
     ·split at hv
      ·cases hv;decide
      ·cases hv
  | none =>
   rw[hv]at hb
   obtain⟨o,h1,h2⟩:=v6 g hl r (pre++[x]) (by rw[hg];simp)
   refine⟨o,?_,?_⟩
   ·unfold iz at h1 ⊢
    rw[cW hb];exact h1
   ·cases o with
    |inl o=>simp only[vA,hv]at h2 ⊢;exact h2
    |inr o=>simp only[vA,hv]at h2 ⊢;exact h2
theorem rV(g:aa)(hl:g.Arcs.length<4611686018427387904):mc g=some (vG g):=by
 unfold mc
 have hJ:lQ g=some (!(dy g.Caller&&dy g.Callee)):=by
  unfold lQ
  rw[vN,vaa,tX]
  cases h:dy g.Caller with
  |false=>simp
  |true=>simp only[vbA,vas,if_false];rw[vN,vaa,tX];simp
 rw[hJ,vaa]
 unfold vG
 cases h:(dy g.Caller&&dy g.Callee)with
 |false=>simp
 |true=>
  rw[vag (by simp),vaf rfl]
  obtain⟨o,h1,h2⟩:=v6 g hl g.Arcs [] rfl
  rw[show(([]:List ah).length:Int)=0 from rfl]at h1
  rw[h1,vaa]
  cases o with
  |inl o=>simp only at h2 ⊢;rw[h2.1]
  |inr o=>simp only at h2 ⊢;rw[h2]
structure sd(g:aa):Prop where
 caller:dy g.Caller=true
 callee:dy g.Callee=true
 arcs:AB g.Arcs
theorem EZ{x y:ah}(hx:rg x)(hy:rg y):nS x y=true↔ix x<ix y:=by
 unfold rg at hx hy
 unfold nS ix
 simp only[vaH,vae,vac,vaE]
 omega
theorem AU{x y:ah}(hx:rg x)(hy:rg y):nI x y=true↔ix x=ix y:=by
 unfold rg at hx hy
 unfold nI ix
 simp only[vac,vaE]
 omega
theorem G4:∀(r pre:List ah),AB pre->vA pre r=0->AB (pre++r)
 |[],pre,h,_=>by simpa using h
 | x :: r,pre,h,hv => by
  have hx:lG pre x=none:=by
   cases hs:lG pre x with
   |none=>rfl
   | some e =>
    simp only[vA,hs]at hv
    unfold lG at hs
    split at hs
    ·cases hs;cases hv
    ·split at hs
     ·cases hs;cases hv
     ·split at hs
      ·cases hs;cases hv
      ·cases hs
  have hv':vA (pre++[x]) r=0:=by simp only[vA,hx]at hv;exact hv
  have key:AB (pre++[x]):=by
   unfold lG at hx
   split at hx
   ·cases hx
   rename_i h1
   split at hx
   ·cases hx
   rename_i h2
   split at hx
   ·cases hx
   rename_i h3
   have hr:rg x:=CR (by simpa using h1)
   refine⟨fun y hy=>?_,?_⟩
   ·rcases vaD.1 hy with hy|hy
    ·exact h.1 y hy
    ·rw[va2.1 hy];exact hr
   ·rw[vbo]
    refine⟨h.2,List.pairwise_singleton _ _,fun y hy z hz=>?_⟩
    rw[va2.1 hz]
    have hne:ix x≠ix y:=fun e=>h2 (vbs.2 ⟨y,hy,(AU hr (h.1 y hy)).2 e⟩)
    have hnil:pre≠[]:=by intro e;rw[e]at hy;cases hy
    have hl:pre.getLast?=some (pre.getLast hnil):=vbC hnil
    unfold ud at h3
    rw[hl]at h3
    simp only at h3
    have hlm:=List.getLast_mem hnil
    have h4:¬ix x<ix (pre.getLast hnil):=fun hh=>h3 ((EZ hr (h.1 _ hlm)).2 hh)
    have h5:ix y<=ix (pre.getLast hnil):=by
     have hp:=h.2
     rw[<-vbF hnil]at hp hy
     rcases vaD.1 hy with hy|hy
     ·have:=(vbo.1 hp).2.2 y hy _ (va2.2 rfl);omega
     ·rw[va2.1 hy];exact vap _
    have h6:ix x≠ix (pre.getLast hnil):=fun e=>h2 (vbs.2 ⟨_,hlm,(AU hr (h.1 _ hlm)).2 e⟩)
    omega
  have:=G4 r (pre++[x]) key hv'
  simpa using this
theorem G3:∀(r pre:List ah),AB (pre++r)->vA pre r=0
 |[],_,_=>rfl
 | x :: r,pre,h => by
  have hr:rg x:=h.1 x (by simp)
  have hp:=vbo.1 h.2
  have hs:lG pre x=none:=by
   unfold lG
   have h1:Ed x=true:=by
    unfold rg at hr
    unfold Ed
    simp only[vac,vae]
    exact⟨⟨hr.1,hr.2.1⟩,hr.2.2⟩
   rw[vag (by simp[h1]),vag,vag]
   ·intro hb
    unfold ud at hb
    split at hb
    ·rename_i y hy
     have hym:y∈pre:=List.mem_of_getLast? hy
     have:=hp.2.2 y hym x (by simp)
     have:=(EZ hr (h.1 y (by simp[hym]))).1 hb
     omega
    ·cases hb
   ·intro hb
    obtain⟨y,hy,hsm⟩:=vbs.1 hb
    have:=hp.2.2 y hy x (by simp)
    have:=(AU hr (h.1 y (by simp[hy]))).1 hsm
    omega
  simp only[vA,hs]
  exact G3 r (pre++[x]) (by simpa using h)
theorem v7{g:aa}:vG g=0↔sd g:=by
 unfold vG
 constructor
 ·intro h
  split at h
  ·rename_i hc
   simp only[vac]at hc
   exact⟨hc.1,hc.2,by simpa using G4 g.Arcs [] ⟨by simp,by simp⟩ h⟩
  ·cases h
 ·rintro⟨h1,h2,h3⟩
  rw[vaf (by simp[h1,h2])]
  exact G3 g.Arcs [] (by simpa using h3)
theorem yh{a b:aa}(ha:sd a)(hb:sd b):sd (cz a b):=⟨ha.caller,hb.callee,vB _⟩
theorem iD{l:List ah}(h:AB l):l.length<=36:=by
 rw[<-DZ h]
 unfold kW
 exact vaO (vce _ _) (by simp)
theorem DV:∀(s1 s2:List ah),s1.length=s2.length->(s1.zip s2).any (fun z=>!(lW z.1 z.2))= !decide (s1=s2)
 |[],[],_=>by simp
 |[],_::_,h=>by simp at h
 |_::_,[],h=>by simp at h
 | x :: r,y :: s,h => by
  rw[List.zip_cons_cons,List.any_cons,DV r s (by simpa using h),CL]
  by_cases h1:x=y
  ·subst h1
   by_cases h2:r=s
   ·subst h2;simp
   ·simp[h2]
  ·simp[h1]
theorem BU(s1 s2:List ah)(hlen:s1.length=s2.length)(hl:s1.length<4611686018427387904)(body:Int->Option (Int⊕(Unit⊕Unit)))
  (hb:∀i:Int,body i=if decide (i<(s1.length:Int))=true then(eQ s1 i).bind fun x=>(eQ s2 i).bind fun y=>if(!(lW x y))=true then some (.inr (.inl ()))else some (.inl (bA (i+1)))else some (.inr (.inr ()))):
  loop body 0=some (if s1=s2 then .inr ()else .inl ()):=by
 have hz:(s1.zip s2).length=s1.length:=by rw[List.length_zip];omega
 have:=j5 (s1.zip s2) (by omega) body (fun z=>!(lW z.1 z.2)) (.inl ()) (.inr ()) (fun i hi=>?_) (by rw[hb,vag (by simp[hz])]) 0 (vaJ _)
 ·rw[vbf,DV s1 s2 hlen]at this
  rw[show((0:Nat):Int)=0 from rfl]at this
  rw[this]
  by_cases h:s1=s2<;>simp[h]
 ·have h1:i<s1.length:=by omega
  have h2:i<s2.length:=by omega
  rw[hb,vaf (by simp;omega),eX s1 i h1,vaa,eX s2 i h2,vaa]
  rw[List.getElem_zip]
  cases lW s1[i] s2[i]<;>rfl
theorem EM(s1 s2:List ah)(hl:s1.length<4611686018427387904):mb s1 s2=some (decide (s1=s2)):=by
 unfold mb
 by_cases h:s1.length=s2.length
 ·rw[vag (by simp[h])]
  unfold lz
  rw[BU s1 s2 h hl (fun zz=>kg s1 s2 (s1.length:Int) zz) (fun i=>rfl),vaa]
  by_cases h2:s1=s2<;>simp[h2]
 ·rw[vaf (by simp;omega)]
  have:s1≠s2:=fun e=>h (by rw[e])
  simp[this]
theorem Ga(a b:aa)(hl:a.Arcs.length<4611686018427387904):gm a b=some (decide (a=b)):=by
 unfold gm
 obtain⟨a1,a2,a3⟩:=a
 obtain⟨b1,b2,b3⟩:=b
 simp only at hl ⊢
 by_cases h1:a1=b1
 ·subst h1
  rw[vaf (by simp)]
  by_cases h2:a2=b2
  ·subst h2
   rw[vaf (by simp),EM a3 b3 hl]
   simp
  ·rw[vag (by simp[h2])];simp[h2]
 ·rw[vag (by simp[h1])];simp[h1]
theorem yB(a b:aa)(hl:a.Arcs.length<4611686018427387904):mn a b=some (decide (a=b)):=by
 unfold mn qM
 obtain⟨a1,a2,a3⟩:=a
 obtain⟨b1,b2,b3⟩:=b
 simp only at hl ⊢
 by_cases h1:a1=b1
 ·subst h1
  rw[vag (by simp)]
  by_cases h2:a2=b2
  ·subst h2
   rw[vag (by simp),vaa]
   by_cases h3:a3.length=b3.length
   ·rw[vag (by simp[h3])]
    unfold qN
    rw[BU a3 b3 h3 hl (fun zz=>nP ⟨a1,a2,a3⟩ ⟨a1,a2,b3⟩ (a3.length:Int) zz) (fun i=>rfl),vaa]
    by_cases h4:a3=b3<;>simp[h4]
   ·rw[vaf (by simp;omega)]
    have:a3≠b3:=fun e=>h3 (by rw[e])
    simp[this]
  ·rw[vaf (by simp[h2]),vaa];simp[h2]
 ·rw[vaf (by simp[h1]),vaa];simp[h1]
theorem CN(m:Nat->Int)(L:Nat)(a b:Int):iB (iB m L a) L b=iB m L b:=by
 funext k;unfold iB;split<;>rfl
theorem Cp(g:aa)(h:AB g.Arcs):fO g=some (eM g.Arcs):=by
 unfold fO iK
 have hl:=iD h
 have key:=td (X:=Nat->Int) g.Arcs (by omega) (fun(i:Int) (m:Nat->Int)=>(i,m)) (fun(zz:Int×(Nat->Int))=>gF g.Arcs (g.Arcs.length:Int) zz.1 zz.2)
  (fun i m x=>(qA 6 x.From).bind fun i3=>(qA 6 x.To).bind fun i4=>if x.Strict=true then(qA 6 x.From).bind fun i7=>(qA 6 x.To).bind fun i8=>some (.inl (bA (i+1),iB (iB m (0+i3 * 6+i4 * 1) 1) (0+i7 * 6+i8 * 1) 2))else some (.inl (bA (i+1),iB m (0+i3 * 6+i4 * 1) 1)))
  (fun _ _=>True) (fun x m=>iB m (ix x) (wt x)) id (sT 0) trivial (fun i s=>rfl) (fun i hi s _=>⟨?_,trivial⟩)
 ·rw[key,vaa]
  have:∀(l:List ah) (m:Nat->Int),l.foldl (fun s x=>iB s (ix x) (wt x)) m=A0 l m:=by
   intro l
   induction l with
   |nil=>intro m;rfl
   |cons x r ih=>intro m;rw[List.foldl_cons,ih];rfl
  rw[this]
  rfl
 ·obtain⟨a,b,c,d⟩:=h.1 _ (vaP hi)
  rw[zg a b,zg c d]
  simp only[vaa]
  have e:0+g.Arcs[i].From.toNat * 6+g.Arcs[i].To.toNat * 1=ix g.Arcs[i]:=by unfold ix;omega
  rw[e]
  unfold wt
  split
  ·rw[CN]
  ·rfl
theorem Hu(X Y:Nat->Int)(f t m:Nat)(hf:f<6)(ht:t<6)(hm:m<6):ek (f:Int) (t:Int) (m:Int) X Y=some (decide (X (f * 6+m)>0/\Y (m * 6+t)>0)):=by
 unfold ek
 rw[zg (by omega) (by omega),zg (by omega) (by omega)]
 simp only[vaa,Int.toNat_natCast,vaB,vcD]
 by_cases h:X (f * 6+m)>0
 ·rw[vaf (by simpa using h),zg (by omega) (by omega)]
  simp[h]
 ·rw[vag (by simpa using h)];simp[h]
theorem Hx(X Y:Nat->Int)(f t:Nat)(hf:f<6)(ht:t<6):eo (f:Int) (t:Int) X Y 0 0=some (zy X Y f t 6):=by
 unfold eo
 refine tc 6 _ (fun m=>(zy X Y f t m,(m:Int))) _ (fun m hm=>?_) ?_
 ·unfold du
  rw[vaf (by simp;omega),Hu X Y f t m hf ht hm,vaa]
  have hw:bA ((m:Int)+1)=((m+1:Nat):Int):=by rw[dC (by omega) (by omega)];omega
  by_cases h:X (f * 6+m)>0/\Y (m * 6+t)>0
  ·rw[vaf (by simpa using h),zg (by omega) (by omega),zg (by omega) (by omega),zg (by omega) (by omega)]
   simp only[vaa,Int.toNat_natCast,vaB,vcD]
   rw[hw]
   show some (Sum.inl _)=some (Sum.inl (zy X Y f t (m+1),((m+1:Nat):Int)))
   congr 3
   show _=xv X Y f t m (zy X Y f t m)
   unfold xv mx
   rw[vaf h]
  ·rw[vag (by simpa using h),hw]
   show some (Sum.inl _)=some (Sum.inl (zy X Y f t (m+1),((m+1:Nat):Int)))
   congr 3
   show _=xv X Y f t m (zy X Y f t m)
   unfold xv
   rw[vag h]
 ·unfold du
  rw[vag (by simp)]
def px(M:Nat->Int)(n:Nat):List ah:=(List.range n).filterMap fun L=>if M L>0 then some (lA M L)else none
theorem Bp(M:Nat->Int)(n:Nat):px M (n+1)=px M n++(if M n>0 then[lA M n]else[]):=by
 unfold px
 rw[List.range_succ,List.filterMap_append]
 congr 1
 by_cases h:M n>0<;>simp[h]
theorem CA(M:Nat->Int)(n:Nat):(px M n).length<=n:=by
 unfold px
 exact vaO (vce _ _) (by simp)
theorem xS{X:Type}(M:Nat->Int)(inner:Int->Int×List ah->Option ((Int×List ah)⊕List ah))(outer:Int×List ah->Option ((Int×List ah)⊕List ah))
  (hi:∀(f t:Nat) l,f<6->t<6->l.length<=36->inner f (t,l)=some (.inl (((t+1:Nat):Int),l++(if M (f * 6+t)>0 then[lA M (f * 6+t)]else[]))))
  (hie:∀(f:Nat) l,inner f (6,l)=some (.inr l))
  (ho:∀(f:Nat) l,f<6->outer (f,l)=(loop (inner f) (0,l)).bind fun o=>some (.inl (((f+1:Nat):Int),o)))
  (hoe:∀l,outer (6,l)=some (.inr l)):loop outer (0,[])=some (kW M):=by
 have hin:∀f:Nat,f<6->loop (inner (f:Int)) (0,px M (f * 6))=some (px M ((f+1) * 6)):=fun f hf=>by
  have h6:(f+1) * 6=f * 6+6:=by omega
  rw[h6]
  refine tc 6 _ (fun t=>((t:Int),px M (f * 6+t))) _ (fun t ht=>?_) (hie f _)
  rw[hi f t _ hf ht (vaO (CA _ _) (by omega)),<-Bp]
  rfl
 refine tc 6 _ (fun f=>((f:Int),px M (f * 6))) _ (fun f hf=>?_) (hoe _)
 rw[ho f _ hf,hin f hf,vaa]
theorem xA(a b:aa)(ha:AB a.Arcs)(hb:AB b.Arcs):bM a b=some (cz a b):=by
 unfold bM
 rw[Cp a ha,vaa,Cp b hb,vaa]
 have:=xS (X:=Unit) (j6 (eM a.Arcs) (eM b.Arcs)) (fun f zz=>cu f (eM a.Arcs) (eM b.Arcs) zz.1 zz.2) (fun zz=>ct (eM a.Arcs) (eM b.Arcs) zz.1 zz.2)
  (fun f t l hf ht hl=>?_) (fun f l=>?_) (fun f l hf=>?_) (fun l=>?_)
 ·unfold gE
  rw[this]
  rfl
 ·simp only
  unfold cu
  rw[vaf (by simp;omega),Hx _ _ f t hf ht,vaa,<-j7 hf ht]
  have hw:bA ((t:Int)+1)=((t+1:Nat):Int):=by rw[dC (by omega) (by omega)];omega
  by_cases h:j6 (eM a.Arcs) (eM b.Arcs) (f * 6+t)>0
  ·rw[vaf (by simpa using h),vaf h,pw (by simp;omega),vaa,hw]
   congr 4
   unfold lA
   rw[show(f * 6+t) / 6=f by omega,show(f * 6+t) % 6=t by omega]
  ·rw[vag (by simpa using h),vag h,hw]
   simp
 ·simp only
  unfold cu
  rw[vag (by simp)]
 ·simp only
  unfold ct
  rw[vaf (by simp;omega),dC (by omega) (by omega)]
  rfl
 ·simp only
  unfold ct
  rw[vag (by simp)]
def I8:aa:=⟨[],[],[]⟩
def xy(a b:aa):aa×Int:=if vG a≠0 then(I8,vG a)else if vG b≠0 then(I8,vG b)else if a.Callee=b.Caller then(cz a b,0)else(I8,6)
theorem He(f t:Int)(x y:ah):mt f t x.From x.To y.From y.To=some ((x.From==f&&x.To==y.From)&&y.To==t):=by
 unfold mt
 cases h1:(x.From==f)<;>cases h2:(x.To==y.From)<;>simp[h1,h2]
def aP(f t:Int)(x y:ah):Bool:=(x.From==f&&x.To==y.From)&&y.To==t
theorem Hf(f t:Int)(lb:List ah)(hl:lb.length<=40)(x:ah)(fd s:Bool):mw f t lb (lb.length:Int) x.From x.To x.Strict fd 0 s=some (fd||lb.any (aP f t x),s||lb.any (fun y=>aP f t x y&&(x.Strict||y.Strict))):=by
 unfold mw
 have key:=td (X:=Bool×Bool) lb (by omega) (fun(i:Int) (p:Bool×Bool)=>(p.1,i,p.2)) (fun(zz:Bool×Int×Bool)=>pk f t lb (lb.length:Int) x.From x.To x.Strict zz.1 zz.2.1 zz.2.2)
  (fun i p y=>(mt f t x.From x.To y.From y.To).bind fun o8=>if o8=true then(if p.2=true then some (.inl (true,bA (i+1),true))else if x.Strict=true then some (.inl (true,bA (i+1),true))else some (.inl (true,bA (i+1),y.Strict)))else some (.inl (p.1,bA (i+1),p.2)))
  (fun _ _=>True) (fun y p=>(p.1||aP f t x y,p.2||(aP f t x y&&(x.Strict||y.Strict)))) id (fd,s) trivial (fun i p=>rfl) (fun i hi p _=>⟨?_,trivial⟩)
 ·rw[key]
  congr 1
  have:∀(l:List ah) (p:Bool×Bool),l.foldl (fun p y=>(p.1||aP f t x y,p.2||(aP f t x y&&(x.Strict||y.Strict)))) p=(p.1||l.any (aP f t x),p.2||l.any (fun y=>aP f t x y&&(x.Strict||y.Strict))):=by
   intro l
   induction l with
   |nil=>intro p;simp
   |cons y r ih=>intro p;rw[List.foldl_cons,ih];simp[Bool.or_assoc]
  exact this lb (fd,s)
 ·rw[He,vaa]
  show(if aP f t x lb[i]=true then _ else _)=_
  cases h:aP f t x lb[i]<;>cases hp:p.2<;>cases hx:x.Strict<;>simp[h,hp,hx]
def aF(a b:aa)(f t:Int):Bool:=a.Arcs.any fun x=>b.Arcs.any (aP f t x)
def aS(a b:aa)(f t:Int):Bool:=a.Arcs.any fun x=>b.Arcs.any fun y=>aP f t x y&&(x.Strict||y.Strict)
theorem Hl(a b:aa)(f t:Int)(ha:a.Arcs.length<=40)(hb:b.Arcs.length<=40):wJ a b f t=some ((⟨f,t,aS a b f t⟩:ah),aF a b f t):=by
 unfold wJ sQ
 have key:=td (X:=Bool×Bool) a.Arcs (by omega) (fun(i:Int) (p:Bool×Bool)=>(p.1,i,p.2)) (fun(zz:Bool×Int×Bool)=>ph f t b a.Arcs (a.Arcs.length:Int) zz.1 zz.2.1 zz.2.2)
  (fun i p x=>(mw f t b.Arcs (b.Arcs.length:Int) x.From x.To x.Strict p.1 0 p.2).bind fun o15=>some (.inl (o15.1,bA (i+1),o15.2)))
  (fun _ _=>True) (fun x p=>(p.1||b.Arcs.any (aP f t x),p.2||b.Arcs.any (fun y=>aP f t x y&&(x.Strict||y.Strict)))) id (false,false) trivial (fun i p=>rfl) (fun i hi p _=>⟨?_,trivial⟩)
 ·rw[key,vaa]
  have:∀(l:List ah) (p:Bool×Bool),l.foldl (fun p x=>(p.1||b.Arcs.any (aP f t x),p.2||b.Arcs.any (fun y=>aP f t x y&&(x.Strict||y.Strict)))) p=(p.1||l.any (fun x=>b.Arcs.any (aP f t x)),p.2||l.any (fun x=>b.Arcs.any (fun y=>aP f t x y&&(x.Strict||y.Strict)))):=by
   intro l
   induction l with
   |nil=>intro p;simp
   |cons y r ih=>intro p;rw[List.foldl_cons,ih];simp[Bool.or_assoc]
  rw[this]
  simp[aF,aS]
 ·rw[Hf f t b.Arcs hb];rfl
theorem jm{l:List ah}(h:AB l){f t:Nat}(hf:f<6)(ht:t<6):(eM l (f * 6+t)>0↔∃x∈l,x.From=f/\x.To=t)/\(∀x∈l,x.From=f->x.To=t->(eM l (f * 6+t)=2↔x.Strict=true)):=by
 have hix:∀x∈l,(ix x=f * 6+t↔x.From=f/\x.To=t):=fun x hx=>by
  have:=h.1 x hx
  unfold rg at this
  unfold ix
  omega
 refine⟨⟨fun hp=>?_,fun⟨x,hx,h1,h2⟩=>?_⟩,fun x hx h1 h2=>?_⟩
 ·obtain⟨x,hx,he⟩:=yK hp
  exact⟨x,hx,(hix x hx).1 he⟩
 ·rw[<-(hix x hx).2 ⟨h1,h2⟩,ry h hx]
  have:=yN x;omega
 ·rw[<-(hix x hx).2 ⟨h1,h2⟩,ry h hx]
  unfold wt
  cases x.Strict<;>simp
theorem IB{a b:aa}(ha:AB a.Arcs)(hb:AB b.Arcs){f t:Nat}(hf:f<6)(ht:t<6):aF a b f t=decide (j6 (eM a.Arcs) (eM b.Arcs) (f * 6+t)>0):=by
 rw[vbx,vae,j7 hf ht,(iY (lr _) (lr _) f t 6).2.1]
 unfold aF aP
 simp only[vbs,vac,vaE]
 constructor
 ·rintro⟨x,hx,y,hy,⟨h1,h2⟩,h3⟩
  obtain⟨_,_,c,d⟩:=ha.1 x hx
  refine⟨x.To.toNat,by omega,(jm ha hf (by omega)).1.2 ⟨x,hx,h1,by omega⟩,(jm hb (by omega) ht).1.2 ⟨y,hy,by omega,h3⟩⟩
 ·rintro⟨m,hm,h1,h2⟩
  obtain⟨x,hx,p1,p2⟩:=(jm ha hf hm).1.1 h1
  obtain⟨y,hy,q1,q2⟩:=(jm hb hm ht).1.1 h2
  exact⟨x,hx,y,hy,⟨p1,p2.trans q1.symm⟩,q2⟩
theorem IC{a b:aa}(ha:AB a.Arcs)(hb:AB b.Arcs){f t:Nat}(hf:f<6)(ht:t<6):aS a b f t=(j6 (eM a.Arcs) (eM b.Arcs) (f * 6+t)==2):=by
 rw[vbx,vaE,j7 hf ht,(iY (lr _) (lr _) f t 6).2.2]
 unfold aS aP
 simp only[vbs,vac,vaE,vaH]
 constructor
 ·rintro⟨x,hx,y,hy,⟨⟨h1,h2⟩,h3⟩,h4⟩
  obtain⟨_,_,c,d⟩:=ha.1 x hx
  have ex:x.To=(x.To.toNat:Int):=by omega
  refine⟨x.To.toNat,by omega,(jm ha hf (by omega)).1.2 ⟨x,hx,h1,ex⟩,(jm hb (by omega) ht).1.2 ⟨y,hy,by omega,h3⟩,?_⟩
  rcases h4 with h4|h4
  ·exact .inl (((jm ha hf (by omega)).2 x hx h1 ex).2 h4)
  ·exact .inr (((jm hb (by omega) ht).2 y hy (by omega) h3).2 h4)
 ·rintro⟨m,hm,h1,h2,h3⟩
  obtain⟨x,hx,p1,p2⟩:=(jm ha hf hm).1.1 h1
  obtain⟨y,hy,q1,q2⟩:=(jm hb hm ht).1.1 h2
  refine⟨x,hx,y,hy,⟨⟨p1,p2.trans q1.symm⟩,q2⟩,?_⟩
  rcases h3 with h3|h3
  ·exact .inl (((jm ha hf hm).2 x hx p1 p2).1 h3)
  ·exact .inr (((jm hb hm ht).2 y hy q1 q2).1 h3)
theorem vZ(a b:aa)(ha:a.Arcs.length<=40)(hb:b.Arcs.length<=40):gX a b=some (xy a b):=by
 unfold gX xy
 rw[rV a (by omega),vaa]
 by_cases h1:vG a=0
 ·simp only[h1,bne_self_eq_false,vas,if_false,ne_eq,not_true_eq_false]
  rw[rV b (by omega),vaa]
  by_cases h2:vG b=0
  ·simp only[h2,bne_self_eq_false,vas,if_false,ne_eq,not_true_eq_false]
   by_cases h3:a.Callee=b.Caller
   ·rw[vag (by simp[h3]),vaf h3]
    have hA:=(v7.1 h1).arcs
    have hB:=(v7.1 h2).arcs
    have:=xS (X:=Unit) (j6 (eM a.Arcs) (eM b.Arcs)) (fun f zz=>fj a b f zz.1 zz.2) (fun zz=>fi a b zz.1 zz.2)
     (fun f t l hf ht hl=>?_) (fun f l=>?_) (fun f l hf=>?_) (fun l=>?_)
    ·unfold mm
     rw[this]
     rfl
    ·simp only
     unfold fj
     rw[vaf (by simp;omega),Hl a b _ _ ha hb,vaa,IB hA hB hf ht,IC hA hB hf ht]
     have hw:bA ((t:Int)+1)=((t+1:Nat):Int):=by rw[dC (by omega) (by omega)];omega
     by_cases h:j6 (eM a.Arcs) (eM b.Arcs) (f * 6+t)>0
     ·rw[vaf (by simpa using h),vaf h,pw (by simp;omega),vaa,hw]
      congr 4
      unfold lA
      rw[show(f * 6+t) / 6=f by omega,show(f * 6+t) % 6=t by omega]
     ·rw[vag (by simpa using h),vag h,hw]
      simp
    ·simp only
     unfold fj
     rw[vag (by simp)]
    ·simp only
     unfold fi
     rw[vaf (by simp;omega),dC (by omega) (by omega)]
     rfl
    ·simp only
     unfold fi
     rw[vag (by simp)]
   ·rw[vaf (by simp[h3]),vag h3];rfl
  ·simp only[show(vG b !=0)=true by simp[h2],if_true,ne_eq,h2,not_false_eq_true];rfl
 ·simp only[show(vG a !=0)=true by simp[h1],if_true,ne_eq,h1,not_false_eq_true];rfl
abbrev Hs(x y:ag):Prop:=Op.bytesLess x y=true
theorem rH:∀(x:ag),Op.bytesLess x x=false
 |[]=>rfl
 |a::x=>by
  unfold Op.bytesLess
  rw[rH x]
  simp[UInt8.lt_irrefl]
theorem xw:∀{x y z:ag},Hs x y->Hs y z->Hs x z
 |_,_,[],h1,h2=>by simp[Hs,Op.bytesLess]at h2
 |_,[],_::_,h1,h2=>by simp[Hs,Op.bytesLess]at h1
 |[],_::_,_::_,_,_=>rfl
 | a :: x,b :: y,c :: z,h1,h2 => by
  unfold Hs Op.bytesLess at h1 h2 ⊢
  simp only[vaH,vae,vac,vaE]at h1 h2 ⊢
  rcases h1 with h1|⟨rfl,h1⟩
  ·rcases h2 with h2|⟨rfl,h2⟩
   ·exact .inl (UInt8.lt_trans h1 h2)
   ·exact .inl h1
  ·rcases h2 with h2|⟨rfl,h2⟩
   ·exact .inl h2
   ·exact .inr ⟨rfl,xw h1 h2⟩
theorem Bq:∀{x y:ag},Op.bytesLess x y=false->Op.bytesLess y x=false->x=y
 |[],[],_,_=>rfl
 |[],_::_,h,_=>by simp[Op.bytesLess]at h
 |_::_,[],_,h=>by simp[Op.bytesLess]at h
 | a :: x,b :: y,h1,h2 => by
  unfold Op.bytesLess at h1 h2
  simp only[vcz,vaY,vcw,vaE]at h1 h2
  have hab:a=b:=by
   have k1:=UInt8.not_lt.1 h1.1
   have k2:=UInt8.not_lt.1 h2.1
   exact UInt8.le_antisymm k2 k1
  subst hab
  rw[Bq (h1.2 rfl) (h2.2 rfl)]
structure TO{α:Type}(c:α->α->Int):Prop where
 rng:∀x y,c x y= -1\/c x y=0\/c x y=1
 eq:∀x y,c x y=0↔x=y
 sym:∀x y,c y x= - c x y
 tr:∀x y z,c x y<0->c y z<0->c x z<0
theorem TO.lex{α β γ:Type}{c:α->α->Int}{d:β->β->Int}(hc:TO c)(hd:TO d)(f:γ->α)(g:γ->β)(hfg:∀x y,f x=f y->g x=g y->x=y):TO (fun x y=>if c (f x) (f y)≠0 then c (f x) (f y)else d (g x) (g y)) where
 rng:=fun x y=>by
  split
  ·exact hc.rng _ _
  ·exact hd.rng _ _
 eq:=fun x y=>by
  by_cases h:c (f x) (f y)=0
  ·rw[vag (by simp[h])]
   exact(hd.eq _ _).trans ⟨fun e=>hfg x y ((hc.eq _ _).1 h) e,fun e=>by rw[e]⟩
  ·rw[vaf h]
   exact⟨fun e=>absurd e h,fun e=>by rw[e];exact(hc.eq _ _).2 rfl⟩
 sym:=fun x y=>by
  rw[hc.sym (f x) (f y),hd.sym (g x) (g y)]
  by_cases h:c (f x) (f y)=0
  ·rw[vag (by omega),vag (by omega)]
  ·rw[vaf (by omega),vaf (by omega)]
 tr:=fun x y z h1 h2=>by
  by_cases a:c (f x) (f y)=0
  ·rw[vag (by omega)]at h1
   have e:=(hc.eq _ _).1 a
   rw[e]
   by_cases b:c (f y) (f z)=0
   ·rw[vag (by omega)]at h2 ⊢
    exact hd.tr _ _ _ h1 h2
   ·rw[vaf b]at h2 ⊢
    exact h2
  ·rw[vaf a]at h1
   by_cases b:c (f y) (f z)=0
   ·have e:=(hc.eq _ _).1 b
    rw[<-e,vaf a];exact h1
   ·rw[vaf b]at h2
    have:=hc.tr _ _ _ h1 h2
    rw[vaf (by omega)];exact this
def zA(a b:Int):Int:=if a<b then -1 else if a>b then 1 else 0
theorem xx:TO zA where
 rng:=fun x y=>by unfold zA;(repeat' split)<;>omega
 eq:=fun x y=>by unfold zA;(repeat' split)<;>omega
 sym:=fun x y=>by unfold zA;(repeat' split)<;>omega
 tr:=fun x y z=>by unfold zA;(repeat' split)<;>omega
def sV(a b:ag):Int:=if Op.bytesLess a b=true then -1 else if a=b then 0 else 1
theorem uS:TO sV where
 rng:=fun x y=>by unfold sV;(repeat' split)<;>simp
 eq:=fun x y=>by
  unfold sV
  split
  ·rename_i h
   refine⟨fun e=>by omega,fun e=>?_⟩
   subst e;rw[rH]at h;cases h
  ·split
   ·rename_i h;simp[h]
   ·rename_i h;simp[h]
 sym:=fun x y=>by
  unfold sV
  by_cases h1:Op.bytesLess x y=true
  ·have h2:¬Op.bytesLess y x=true:=fun h=>by
    have:=xw h1 h
    unfold Hs at this
    rw[rH]at this;cases this
   have h3:¬y=x:=fun e=>by subst e;rw[rH]at h1;cases h1
   rw[vaf h1,vag h2,vag h3];rfl
  ·by_cases h2:Op.bytesLess y x=true
   ·have h3:¬x=y:=fun e=>by subst e;exact h1 h2
    rw[vag h1,vaf h2,vag h3];
   ·have h3:=Bq (by simpa using h1) (by simpa using h2)
    subst h3
    rw[vag h1,vaf rfl];rfl
 tr:=fun x y z h1 h2=>by
  have key:∀a b,sV a b<0->Op.bytesLess a b=true:=fun a b h=>by
   unfold sV at h
   split at h
   ·assumption
   ·split at h<;>omega
  have:=xw (key _ _ h1) (key _ _ h2)
  unfold sV
  rw[vaf this];decide
def y6(b:Bool):Int:=if b=true then 1 else 0
def BY(x y:ah):Int:=if zA x.To y.To≠0 then zA x.To y.To else zA (y6 x.Strict) (y6 y.Strict)
def lx(x y:ah):Int:=if zA x.From y.From≠0 then zA x.From y.From else BY x y
theorem Gj:TO (fun x y:Bool=>zA (y6 x) (y6 y)) where
 rng:=fun x y=>xx.rng _ _
 eq:=fun x y=>by cases x<;>cases y<;>decide
 sym:=fun x y=>xx.sym _ _
 tr:=fun x y z=>xx.tr _ _ _
theorem pJ:TO lx:=by
 have h2:TO (fun p q:Int×Bool=>if zA p.1 q.1≠0 then zA p.1 q.1 else(fun x y:Bool=>zA (y6 x) (y6 y)) p.2 q.2):=TO.lex xx Gj (fun p:Int×Bool=>p.1) (fun p=>p.2) (fun x y h1 h2=>Prod.ext h1 h2)
 have h3:=TO.lex (γ:=ah) xx h2 (fun x=>x.From) (fun x=>(x.To,x.Strict)) (fun x y h1 h2=>by
  obtain⟨a,b,c⟩:=x
  obtain⟨d,e,f⟩:=y
  simp only at h1 h2
  cases h1;cases h2;rfl)
 exact h3
def eP:List ah->List ah->Int
 |[],[]=>0
 |[],_::_=>-1
 |_::_,[]=>1
 |x::r,y::s=>if lx x y≠0 then lx x y else eP r s
theorem BA:∀x y,eP x y= -1\/eP x y=0\/eP x y=1
 |[],[]=>by simp[eP]
 |[],_::_=>by simp[eP]
 |_::_,[]=>by simp[eP]
 | x :: r,y :: s => by
  unfold eP
  split
  ·exact pJ.rng _ _
  ·exact BA r s
theorem Dr:∀x y,eP x y=0↔x=y
 |[],[]=>by simp[eP]
 |[],_::_=>by simp[eP]
 |_::_,[]=>by simp[eP]
 | x :: r,y :: s => by
  unfold eP
  by_cases h:lx x y=0
  ·rw[vag (by omega),Dr r s,(pJ.eq x y).1 h];simp
  ·rw[vaf h]
   refine⟨fun e=>absurd e h,fun e=>?_⟩
   have:x=y:=by have:=(List.cons.inj e).1;exact this
   exact(pJ.eq x y).2 this
theorem BB:∀x y,eP y x= - eP x y
 |[],[]=>by simp[eP]
 |[],_::_=>by simp[eP]
 |_::_,[]=>by simp[eP]
 | x :: r,y :: s => by
  unfold eP
  rw[pJ.sym x y,BB r s]
  by_cases h:lx x y=0
  ·rw[vag (by omega),vag (by omega)]
  ·rw[vaf (by omega),vaf (by omega)]
theorem Ds:∀x y z,eP x y<0->eP y z<0->eP x z<0
 |[],[],_,h,_=>by simp[eP]at h
 |[],_::_,[],_,h=>by simp[eP]at h
 |[],_::_,_::_,_,_=>by simp[eP]
 |_::_,[],_,h,_=>by simp[eP]at h
 |_::_,_::_,[],_,h=>by simp[eP]at h
 | x :: r,y :: s,z :: t,h1,h2 => by
  unfold eP at h1 h2 ⊢
  by_cases a:lx x y=0
  ·rw[vag (by omega)]at h1
   have e:=(pJ.eq _ _).1 a
   rw[e]
   by_cases b:lx y z=0
   ·rw[vag (by omega)]at h2 ⊢
    exact Ds r s t h1 h2
   ·rw[vaf b]at h2 ⊢
    exact h2
  ·rw[vaf a]at h1
   by_cases b:lx y z=0
   ·have e:=(pJ.eq _ _).1 b
    rw[<-e,vaf a];exact h1
   ·rw[vaf b]at h2
    have:=pJ.tr _ _ _ h1 h2
    rw[vaf (by omega)];exact this
theorem Gl:TO eP:=⟨BA,Dr,BB,Ds⟩
def Bz(a b:aa):Int:=if sV a.Caller b.Caller≠0 then sV a.Caller b.Caller else if sV a.Callee b.Callee≠0 then sV a.Callee b.Callee else eP a.Arcs b.Arcs
theorem kK:TO Bz:=by
 have h2:TO (fun p q:ag×List ah=>if sV p.1 q.1≠0 then sV p.1 q.1 else eP p.2 q.2):=TO.lex uS Gl (fun p:ag×List ah=>p.1) (fun p=>p.2) (fun x y h1 h2=>Prod.ext h1 h2)
 have h3:=TO.lex (γ:=aa) uS h2 (fun x=>x.Caller) (fun x=>(x.Callee,x.Arcs)) (fun x y h1 h2=>by
  obtain⟨a,b,c⟩:=x
  obtain⟨d,e,f⟩:=y
  simp only at h1 h2
  cases h1;cases h2;rfl)
 exact h3
theorem qB(a b:Int):gw a b=some (zA a b):=by
 unfold gw nx zA
 simp only[bne_self_eq_false,vaa,vas,if_false,vae]
 (repeat' split)<;>rfl
theorem vM(a b:ag):kY a b=some (sV a b):=by
 unfold kY rI sV
 simp only[beq_self_eq_true,vbA,vaa,vas,if_false]
 by_cases h1:Op.bytesLess a b=true
 ·rw[vaf h1,vaf h1]
 ·rw[vag h1,vag h1]
  by_cases h2:a=b
  ·rw[vag (by simp[h2]),vaf h2]
  ·rw[vaf (by simp[h1,h2]),vag h2]
def nz:List Int->Int
 |[]=>0
 |x::r=>if x≠0 then x else nz r
theorem GQ(l:List Int)(hl:l.length<=1000):xz l=some (nz l):=by
 unfold xz
 have key:∀(r pre:List Int),l=pre++r->mf l (l.length:Int) (pre.length:Int)=some (if nz r≠0 then .inl (nz r)else .inr ()):=by
  intro r
  induction r with
  | nil =>
   intro pre h
   unfold mf
   rw[aX (x:=.inr ())]
   ·rfl
   ·unfold lc
    rw[vag (by rw[h];simp)]
  | cons x r ih =>
   intro pre h
   have hlt:pre.length<l.length:=by rw[h];simp
   unfold mf
   have hb:lc l (l.length:Int) (pre.length:Int)=(if(x !=0)=true then some (.inr (.inl x))else some (.inl (((pre++[x]).length:Nat):Int))):=by
    unfold lc
    rw[vaf (by simpa using hlt)]
    conv=>lhs;rw[h]
    rw[eW,vaa,dC (by omega) (by omega)]
    congr 3
    simp
   by_cases hx:x=0
   ·subst hx
    simp only[bne_self_eq_false,vas,if_false]at hb
    rw[cW hb]
    have:=ih (pre++[0]) (by rw[h];simp)
    unfold mf at this
    rw[this]
    simp[nz]
   ·rw[vaf (by simpa using hx)]at hb
    rw[aX hb]
    simp[nz,hx]
 have:=key l [] rfl
 rw[show(([]:List Int).length:Int)=0 from rfl]at this
 rw[this,vaa]
 by_cases h:nz l=0
 ·simp[h]
 ·simp[h]
theorem E0(b:Bool):ir b=some (y6 b):=by unfold ir y6;split<;>rfl
theorem Eo(x y:ah):fV x y=some (lx x y):=by
 unfold fV
 rw[qB,vaa,qB,vaa,E0,vaa,E0,vaa,qB,vaa,GQ _ (by simp),vaa]
 unfold lx BY nz
 simp only[nz]
 congr 1
 split
 ·rfl
 ·split
  ·rfl
  ·split
   ·rfl
   ·rename_i h;simpa using(Decidable.not_not.1 h).symm
theorem wU(s1 s2:List ah)(hl:s1.length<4611686018427387904):fW s1 s2=some (eP s1 s2):=by
 unfold fW
 have key:∀(r s p q:List ah),s1=p++r->s2=q++s->p.length=q.length->
   (bT s1 s2 (s1.length:Int) (p.length:Int)).bind (fun o9=>match o9 with|(.inl o9)=>some o9|(.inr o9)=>if(decide ((s1.length:Int)<(s2.length:Int)))=true then some (-1)else some 0)=some (eP r s):=by
  intro r
  induction r with
  | nil =>
   intro s p q h1 h2 h3
   unfold bT
   rw[aX (x:=.inr ())]
   ·rw[vaa]
    simp only
    cases s with
    |nil=>rw[vag (by rw[h1,h2];simp;omega)];rfl
    |cons y s=>rw[vaf (by rw[h1,h2];simp;omega)];rfl
   ·unfold bH
    rw[vag (by rw[h1];simp)]
  | cons x r ih =>
   intro s p q h1 h2 h3
   have hlt:p.length<s1.length:=by rw[h1];simp
   unfold bT
   cases s with
   | nil =>
    rw[aX (x:=.inl 1)]
    ·rfl
    ·unfold bH
     rw[vaf (by simpa using hlt)]
     conv=>lhs;rw[h1]
     rw[eW,vaa,vaf (by rw[h2];simp;omega)]
   | cons y s =>
    have hb:bH s1 s2 (s1.length:Int) (p.length:Int)=(if(lx x y !=0)=true then some (.inr (.inl (lx x y)))else some (.inl (((p++[x]).length:Nat):Int))):=by
     unfold bH
     rw[vaf (by simpa using hlt)]
     have e1:eQ s1 (p.length:Int)=some x:=by rw[h1];exact eW p x r
     have e2:eQ s2 (p.length:Int)=some y:=by rw[h2,h3];exact eW q y s
     rw[e1,vaa,vag (by rw[h2];simp;omega),e2,vaa,Eo,vaa,dC (by omega) (by omega)]
     congr 3
     simp
    by_cases ho:lx x y=0
    ·rw[vag (by simp[ho])]at hb
     rw[cW hb]
     have:=ih s (p++[x]) (q++[y]) (by rw[h1];simp) (by rw[h2];simp) (by simp[h3])
     unfold bT at this
     rw[this]
     have e:eP (x::r) (y::s)=if lx x y≠0 then lx x y else eP r s:=rfl
     rw[e,vag (by simp[ho])]
    ·rw[vaf (by simpa using ho)]at hb
     rw[aX hb]
     have e:eP (x::r) (y::s)=if lx x y≠0 then lx x y else eP r s:=rfl
     rw[e,vaf ho]
     rfl
 exact key s1 s2 [] [] rfl rfl rfl
theorem BZ(a b:aa)(hl:a.Arcs.length<4611686018427387904):bo a b=some (Bz a b):=by
 unfold bo
 rw[vM,vaa,vM,vaa,GQ _ (by simp),vaa]
 unfold Bz
 by_cases h1:sV a.Caller b.Caller=0
 ·by_cases h2:sV a.Callee b.Callee=0
  ·have e:nz [sV a.Caller b.Caller,sV a.Callee b.Callee]=0:=by simp[nz,h1,h2]
   simp only[e]
   rw[vag (by simp),wU _ _ hl]
   simp[h1,h2]
  ·have e:nz [sV a.Caller b.Caller,sV a.Callee b.Callee]=sV a.Callee b.Callee:=by simp[nz,h1,h2]
   simp only[e]
   rw[vaf (by simp[h2])];simp[h1,h2]
 ·have e:nz [sV a.Caller b.Caller,sV a.Callee b.Callee]=sV a.Caller b.Caller:=by simp[nz,h1]
  simp only[e]
  rw[vaf (by simp[h1])];simp[h1]
theorem Eh(x y:ah):(nS x y=true->lx x y= -1)/\(nS y x=true->lx x y=1)/\(nS x y=false->nS y x=false->x.From=y.From/\x.To=y.To):=by
 refine⟨fun h=>?_,fun h=>?_,fun h1 h2=>?_⟩
 ·unfold nS at h
  simp only[vaH,vae,vac,vaE]at h
  unfold lx BY zA
  (repeat' split)<;>omega
 ·unfold nS at h
  simp only[vaH,vae,vac,vaE]at h
  unfold lx BY zA
  (repeat' split)<;>omega
 ·unfold nS at h1 h2
  simp only[vcz,vaY,vcw,vaE]at h1 h2
  omega
theorem CW(x y:ah):nw x.From x.To x.Strict y.From y.To y.Strict=some (nS x y||nS y x):=by
 unfold nw
 simp only[pQ,vaa]
 cases nS x y<;>simp[pQ]
theorem CX(a b:aa)(hl:a.Arcs.length<4611686018427387904):(fQ a b (a.Arcs.length:Int) 0).bind (fun o20=>match o20 with|(.inl o20)=>some o20|(.inr o20)=>some (decide ((a.Arcs.length:Int)<(b.Arcs.length:Int))))=some (decide (eP a.Arcs b.Arcs<0)):=by
 have key:∀(r s p q:List ah),a.Arcs=p++r->b.Arcs=q++s->p.length=q.length->
   (fQ a b (a.Arcs.length:Int) (p.length:Int)).bind (fun o20=>match o20 with|(.inl o20)=>some o20|(.inr o20)=>some (decide ((a.Arcs.length:Int)<(b.Arcs.length:Int))))=some (decide (eP r s<0)):=by
  intro r
  induction r with
  | nil =>
   intro s p q h1 h2 h3
   unfold fQ
   rw[aX (x:=.inr ())]
   ·rw[vaa]
    simp only
    cases s with
    |nil=>rw[h1,h2];simp[eP,h3]
    |cons y s=>rw[h1,h2];simp[eP,h3];omega
   ·unfold gv
    rw[vag (by rw[h1];simp)]
  | cons x r ih =>
   intro s p q h1 h2 h3
   have hlt:p.length<a.Arcs.length:=by rw[h1];simp
   unfold fQ
   cases s with
   | nil =>
    rw[aX (x:=.inl false)]
    ·rfl
    ·unfold gv
     rw[vaf (by simpa using hlt),vaf (by rw[h2];simp;omega)]
   | cons y s =>
    have e:eP (x::r) (y::s)=if lx x y≠0 then lx x y else eP r s:=rfl
    have hb:gv a b (a.Arcs.length:Int) (p.length:Int)=(if(nS x y||nS y x)=true then some (.inr (.inl (nS x y)))else if(!(x.Strict==y.Strict))=true then some (.inr (.inl (!x.Strict)))else some (.inl (((p++[x]).length:Nat):Int))):=by
     unfold gv
     have e1:eQ a.Arcs (p.length:Int)=some x:=by rw[h1];exact eW p x r
     have e2:eQ b.Arcs (p.length:Int)=some y:=by rw[h2,h3];exact eW q y s
     rw[vaf (by simpa using hlt),vag (by rw[h2];simp;omega),e1,vaa,e2,vaa,CW,vaa,pQ,vaa,dC (by omega) (by omega)]
     congr 4
     simp
    obtain⟨k1,k2,k3⟩:=Eh x y
    cases hxy:nS x y with
    |true=>
     rw[hxy]at hb
     rw[aX hb,e,k1 hxy]
     rfl
    | false =>
     cases hyx:nS y x with
     |true=>
      rw[hxy,hyx]at hb
      rw[aX hb,e,k2 hyx]
      rfl
     | false =>
      rw[hxy,hyx]at hb
      obtain⟨h5,h6⟩:=k3 hxy hyx
      have ho:lx x y=zA (y6 x.Strict) (y6 y.Strict):=by
       unfold lx BY
       rw[h5,h6]
       simp[zA]
      cases hs:x.Strict<;>cases ht:y.Strict<;>simp only[hs,ht,Bool.or_self,vas,if_false,beq_self_eq_true,vbA,Bool.not_false,show(false==true)=false from rfl,show(true==false)=false from rfl,if_true]at hb ho
      ·rw[cW hb,e,ho,vag (by decide)]
       have:=ih s (p++[x]) (q++[y]) (by rw[h1];simp) (by rw[h2];simp) (by simp[h3])
       unfold fQ at this
       exact this
      ·rw[aX hb,e,ho];rfl
      ·rw[aX hb,e,ho];rfl
      ·rw[cW hb,e,ho,vag (by decide)]
       have:=ih s (p++[x]) (q++[y]) (by rw[h1];simp) (by rw[h2];simp) (by simp[h3])
       unfold fQ at this
       exact this
 exact key a.Arcs b.Arcs [] [] rfl rfl rfl
theorem DE(a b:aa)(hl:a.Arcs.length<4611686018427387904):tJ a b=some (decide (Bz a b<0)):=by
 unfold tJ Bz
 by_cases h1:a.Caller=b.Caller
 ·have e1:sV b.Caller b.Caller=0:=(uS.eq _ _).2 rfl
  simp only[h1,beq_self_eq_true,vbA,vas,if_false,e1,ne_eq,not_true_eq_false]
  by_cases h2:a.Callee=b.Callee
  ·have e2:sV b.Callee b.Callee=0:=(uS.eq _ _).2 rfl
   simp only[h2,beq_self_eq_true,vbA,vas,if_false,e2,ne_eq,not_true_eq_false]
   exact CX a b hl
  ·have e2:sV a.Callee b.Callee≠0:=fun e=>h2 ((uS.eq _ _).1 e)
   rw[vaf (by simp[h2]),vaf e2]
   congr 1
   unfold sV
   cases hb:Op.bytesLess a.Callee b.Callee<;>simp[h2]
 ·have e1:sV a.Caller b.Caller≠0:=fun e=>h1 ((uS.eq _ _).1 e)
  rw[vaf (by simp[h1]),vaf e1]
  congr 1
  unfold sV
  cases hb:Op.bytesLess a.Caller b.Caller<;>simp[h1]
def te(a b:aa):Bool:=decide (Bz a b<0)
theorem lY:ER te (fun _=>True) where
 irr:=fun x _=>by unfold te;rw[(kK.eq x x).2 rfl];rfl
 trans:=fun x y z _ _ _ h1 h2=>by unfold te at *;simp only[vae]at *;exact kK.tr _ _ _ h1 h2
 ntrans:=fun x y z _ _ _ h1 h2=>by
  unfold te at *
  simp only[vaY]at *
  intro h3
  have a1:=kK.sym x y
  have a2:=kK.sym y z
  have a3:=kK.sym x z
  by_cases c1:Bz x y=0
  ·rw[(kK.eq _ _).1 c1]at h3;exact h2 h3
  ·by_cases c2:Bz y z=0
   ·rw[(kK.eq _ _).1 c2]at h1;exact h1 h3
   ·have:=kK.tr z y x (by omega) (by omega)
    omega
 tot:=fun x y _ _ h1 h2=>by
  unfold te at *
  simp only[vaY]at *
  have a1:=kK.sym x y
  exact(kK.eq _ _).1 (by omega)
theorem Ek{a b:aa}(hl:a.Arcs.length<4611686018427387904):A8 bo a b=te a b:=by
 unfold A8 te
 rw[BZ a b hl]
theorem AX{l:List aa}(h:∀g∈l,g.Arcs.length<=40)(hl:l.length<=1000000):∃r,sI bo l=some r/\r.Perm l/\oA te r:=by
 have hlt:∀x∈l,∀y,A8 bo x y=te x y:=fun x hx y=>Ek (by have:=h x hx;omega)
 have hok:Ij bo l=true:=by
  unfold Ij
  simp only[vac,vae,van,vaM,vaH]
  refine⟨by unfold dW;omega,fun x hx y hy=>?_,fun x hx=>?_,fun x hx y hy z hz=>?_,fun x hx y hy=>?_⟩
  ·rw[BZ x y (by have:=h x hx;omega)];rfl
  ·rw[hlt x hx];exact lY.irr x trivial
  ·rw[hlt x hx,hlt x hx,hlt y hy]
   have t1:=lY.trans x y z trivial trivial trivial
   have t2:=lY.ntrans x y z trivial trivial trivial
   cases h1:te x y<;>cases h2:te y z<;>cases h3:te x z<;>simp_all
  ·rw[hlt x hx,hlt y hy]
   have t:=lY.tot x y trivial trivial
   cases h1:te x y<;>cases h2:te y x<;>simp_all
 refine⟨q6 (A8 bo) l,by unfold sI;rw[vaf hok],jB _ l,?_⟩
 obtain⟨_,_,ho⟩:=yi hok
 have hs:=nW ho (l:=l) fun y hy=>hy
 refine List.Pairwise.imp_of_mem ?_ hs
 intro a b ha hb hab
 rw[hlt b ((jB _ l).mem_iff.1 hb)]at hab
 exact hab
theorem xu:rE=some true:=by kernel_rfl
theorem HC(n:Int)(l:List aa)(hl:l.length<4611686018427387904):wK n l=some (l.all (fun g=>decide (g.Arcs.length<=40))&&decide ((l.length:Int)<=n)):=by
 unfold wK sR
 rw[oF l (by omega) (fun zz=>pu l (l.length:Int) zz) (fun i x2=>if(decide ((x2.Arcs.length:Int)>40))=true then some (.inr (.inl ()))else some (.inl (bA (i+1)))) (fun g=>decide ((g.Arcs.length:Int)>40)) (.inl ()) (.inr ()) (fun i=>rfl) (fun x hx i=>by split<;>simp_all),vaa]
 have:l.any (fun g=>decide ((g.Arcs.length:Int)>40))= !l.all (fun g=>decide (g.Arcs.length<=40)):=by
  rw[List.not_all_eq_any_not]
  congr 1
  funext g
  rw[vbx];simp;omega
 rw[this]
 cases l.all (fun g=>decide (g.Arcs.length<=40))<;>simp
theorem Fg{n:Int}{l:List aa}(h:(l.all (fun g=>decide (g.Arcs.length<=40))&&decide ((l.length:Int)<=n))=true):(∀g∈l,g.Arcs.length<=40)/\(l.length:Int)<=n:=by
 simp only[vac,van,vae]at h
 exact h
theorem xG:∀(s:ag) (c:UInt8),c∈s->c=46\/∃p∈fY s,c∈p
 |[],c,h=>by cases h
 | d :: r,c,h => by
  unfold fY
  by_cases hd:(d==46)=true
  ·rw[vaf hd]
   rcases vay.1 h with rfl|h
   ·exact .inl (by simpa using hd)
   ·rcases xG r c h with h|⟨p,hp,hc⟩
    ·exact .inl h
    ·exact .inr ⟨p,by simp[hp],hc⟩
  ·rw [vag hd]
   cases hr:fY r with
   |nil=>exact absurd hr (ny r)
   | cons a t =>
    simp only
    rcases vay.1 h with rfl|h
    ·exact .inr ⟨c::a,by simp,by simp⟩
    ·rcases xG r c h with h|⟨p,hp,hc⟩
     ·exact .inl h
     ·rw[hr]at hp
      rcases vay.1 hp with rfl|hp
      ·exact .inr ⟨d::p,by simp,by simp[hc]⟩
      ·exact .inr ⟨p,by simp[hp],hc⟩
def Ju(c:UInt8):Prop:=c≠32/\c≠58
theorem DU{c:UInt8}(h:fP c=true):Ju c:=by
 refine⟨fun e=>?_,fun e=>?_⟩<;>subst e<;>revert h<;>decide
theorem Bl{c:UInt8}(h:dV c=true):Ju c:=by
 refine⟨fun e=>?_,fun e=>?_⟩<;>subst e<;>revert h<;>decide
theorem py{s:ag}(h:dy s=true):∀c∈s,Ju c:=fun c hc=>by
 unfold dy at h
 rw[vac]at h
 have h2:=h.2
 rcases xG s c hc with rfl|⟨p,hp,hcp⟩
 ·exact⟨by decide,by decide⟩
 ·cases hd:fY s with
  |nil=>exact absurd hd (ny s)
  | cons f r =>
   rw[hd]at h2 hp
   simp only[vac]at h2
   have hpart:∀q,ie q=true->c∈q->Ju c:=fun q hq hcq=>by
    unfold ie Cs at hq
    simp only[vac,vaH]at hq
    rcases hq.2 with h|h
    ·exact Bl (van.1 h c hcq)
    ·exact DU (van.1 h.2 c hcq)
   rcases vay.1 hp with rfl|hp
   ·have h3:=h2.1
    simp only[vaH,vac,vaE]at h3
    rcases h3 with(h3|h3)|h3
    ·unfold j4 at h3
     simp only[vac]at h3
     exact DU (van.1 h3.2 c hcp)
    ·unfold gK at h3
     simp only[vac]at h3
     exact Bl (van.1 h3.1.1.1.1.2 c hcp)
    ·rw[h3.1]at hcp
     rw[va2.1 hcp]
     exact⟨by decide,by decide⟩
   ·exact hpart p (van.1 h2.2 p hp) hcp
theorem BD{s:ag}(h:dy s=true):s.length<=120:=by
 unfold dy at h
 rw[vac]at h
 simpa using h.1
def dg(n:Int):UInt8:=UInt8.ofNat (48+n.toNat)
def HT(b:Bool):ag:=if b=true then[32,62,32]else[32,62,61,32]
def za(x:ah):ag:=([32]++[dg x.From]++HT x.Strict)++[dg x.To]
def eL:Nat->List ah->ag
 |_,[]=>[]
 |i,x::r=>((if i>0 then[44]else[])++za x)++eL (i+1) r
def G2(g:aa):ag:=(((g.Caller++[32,45,62,32])++g.Callee)++[58])++eL 0 g.Arcs
theorem J1{n:Int}(h0:0<=n)(h1:n<6):n=0\/n=1\/n=2\/n=3\/n=4\/n=5:=by omega
theorem GX{n:Int}(h0:0<=n)(h1:n<6):DC n=some [dg n]:=by
 rcases J1 h0 h1 with rfl|rfl|rfl|rfl|rfl|rfl<;>kernel_rfl
theorem Fe(x:ah):(za x).length<=7:=by unfold za HT;split<;>simp
theorem HV(b:Bool):fU b=some (HT b):=by unfold fU HT;split<;>rfl
theorem xT(g:aa)(h:AB g.Arcs):∀(r pre:List ah) (s:ag),g.Arcs=pre++r->s.length<=1000+8 * pre.length->cZ g.Arcs (g.Arcs.length:Int) s (pre.length:Int)=some (s++eL pre.length r)
 | [],pre,s,hg,hs => by
  unfold cZ
  rw[aX (x:=s)]
  ·simp[eL]
  ·unfold dn
   rw[vag (by rw[hg];simp)]
 | x :: r,pre,s,hg,hs => by
  have hl:=iD h
  have hlt:pre.length<g.Arcs.length:=by rw[hg];simp
  obtain⟨a,b,c,d⟩:=h.1 x (by rw[hg];simp)
  have hJ2:fT s (pre.length:Int)=some (s++(if pre.length>0 then[44]else[])):=by
   unfold fT
   by_cases hp:pre.length>0
   ·rw[vaf (by simpa using hp),qV (by simp;omega),vaf hp];rfl
   ·rw[vag (by simpa using hp),vag hp];simp
  have hpl:(if pre.length>0 then([44]:ag)else[]).length<=1:=by split<;>simp
  have hsg:(HT x.Strict).length<=4:=by unfold HT;split<;>simp
  have he:=Fe x
  have hb:dn g.Arcs (g.Arcs.length:Int) s (pre.length:Int)=some (.inl ((s++(if pre.length>0 then[44]else[]))++za x,(((pre++[x]).length:Nat):Int))):=by
   unfold dn
   have hi:eQ g.Arcs (pre.length:Int)=some x:=by rw[hg];exact eW pre x r
   rw[vaf (by simpa using hlt),hi,vaa,hJ2,vaa,HV,vaa,GX a b,vaa,qV (by simp),vaa,qV (by simp;omega),vaa,GX c d,vaa,
    qV (by simp;omega),vaa,qV (by simp at hpl ⊢;omega),vaa,dC (by omega) (by omega)]
   congr 3
   simp
  unfold cZ
  rw[cW hb]
  have:=xT g h r (pre++[x]) ((s++(if pre.length>0 then[44]else[]))++za x) (by rw[hg];simp) (by simp only[vaQ,List.length_singleton]at *;omega)
  unfold cZ at this
  rw[this]
  simp[eL,vbp]
theorem Gc{g:aa}(h:sd g):gn g=some (G2 g):=by
 have h1:=BD h.caller
 have h2:=BD h.callee
 unfold gn
 rw[qV (by simp;omega),vaa,qV (by simp;omega),vaa,qV (by simp;omega),vaa]
 have:=xT g h.arcs g.Arcs [] (((g.Caller++[32,45,62,32])++g.Callee)++[58]) rfl (by simp;omega)
 rw[show(([]:List ah).length:Int)=0 from rfl]at this
 rw[this]
 rfl
theorem CJ{c:UInt8}:∀{A B X Y:ag},(∀x∈A,x≠c)->(∀x∈B,x≠c)->A++c::X=B++c::Y->A=B/\X=Y
 |[],[],X,Y,_,_,h=>by simpa using h
 |[],b::B,X,Y,_,hB,h=>by
  simp at h
  exact absurd h.1.symm (hB b (by simp))
 |a::A,[],X,Y,hA,_,h=>by
  simp at h
  exact absurd h.1 (hA a (by simp))
 |a::A,b::B,X,Y,hA,hB,h=>by
  simp at h
  obtain⟨h1,h2⟩:=CJ (fun x hx=>hA x (by simp[hx])) (fun x hx=>hB x (by simp[hx])) h.2
  exact⟨by rw[h.1,h1],h2⟩
theorem An{a b:Int}(h0:0<=a)(h1:a<6)(h2:0<=b)(h3:b<6)(h:dg a=dg b):a=b:=by
 rcases J1 h0 h1 with rfl|rfl|rfl|rfl|rfl|rfl<;>rcases J1 h2 h3 with rfl|rfl|rfl|rfl|rfl|rfl<;>first|rfl|(revert h;decide)
theorem Fd{x y:ah}(hx:rg x)(hy:rg y){R S:ag}(h:za x++R=za y++S):x=y/\R=S:=by
 obtain⟨a,b,c,d⟩:=hx
 obtain⟨a',b',c',d'⟩:=hy
 obtain⟨xf,xt,xs⟩:=x
 obtain⟨yf,yt,ys⟩:=y
 unfold za HT at h
 simp only at *
 cases xs<;>cases ys<;>simp at h
 ·obtain⟨h1,h2,h3⟩:=h
  rw[An a b a' b' h1,An c d c' d' h2]
  exact⟨rfl,h3⟩
 ·obtain⟨h1,h2,h3⟩:=h
  rw[An a b a' b' h1,An c d c' d' h2]
  exact⟨rfl,h3⟩
theorem Fc:∀{l m:List ah} {i:Nat},(∀x∈l,rg x)->(∀x∈m,rg x)->eL i l=eL i m->l=m
 |[],[],_,_,_,_=>rfl
 |[],y::m,i,_,_,h=>by
  unfold eL at h
  have:=va8 List.length h
  simp[za]at this
 |x::l,[],i,_,_,h=>by
  unfold eL at h
  have:=va8 List.length h
  simp[za]at this
 |x::l,y::m,i,hl,hm,h=>by
  unfold eL at h
  rw[vbp,vbp]at h
  have h2:=List.append_cancel_left h
  obtain⟨h3,h4⟩:=Fd (hl x (by simp)) (hm y (by simp)) h2
  rw[h3,Fc (fun z hz=>hl z (by simp[hz])) (fun z hz=>hm z (by simp[hz])) h4]
theorem GK{g h:aa}(hg:sd g)(hh:sd h)(e:G2 g=G2 h):g=h:=by
 unfold G2 at e
 obtain⟨g1,g2,g3⟩:=g
 obtain⟨k1,k2,k3⟩:=h
 have e2:g1++32::(45::62::32::(g2++58::eL 0 g3))=k1++32::(45::62::32::(k2++58::eL 0 k3)):=by simpa using e
 obtain⟨h1,h2⟩:=CJ (fun x hx=>(py hg.caller x hx).1) (fun x hx=>(py hh.caller x hx).1) e2
 simp only[vbG,vb4]at h2
 obtain⟨h3,h4⟩:=CJ (fun x hx=>(py hg.callee x hx).2) (fun x hx=>(py hh.callee x hx).2) h2
 have h5:=Fc hg.arcs.1 hh.arcs.1 h4
 simp only at h1 h3 h5
 subst h1;subst h3;subst h5;rfl
end Go.Proofs.YtoficachfgggjaaDoor
