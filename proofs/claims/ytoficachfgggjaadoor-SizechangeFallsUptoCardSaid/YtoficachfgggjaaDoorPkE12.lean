/- PROVED: a part of the proof. Conditions: none. -/
import Derived.Test.YtoficachfgggjaaDoorPkE11
import Derived.Test.YtoficachfgggjaaDoorPkE8
import Derived.Test.YtoficachfgggjaaDoorPkE7
noncomputable section
namespace Go.Proofs.YtoficachfgggjaaDoor
open Go
set_option linter.unusedSimpArgs false
set_option linter.unusedVariables false
def bk(c:Int):Bool:=decide (97<=c)&&decide (c<=122)
def kQ(c:Int):Bool:=decide (65<=c)&&decide (c<=90)
def qk(c:Int):Bool:=decide (48<=c)&&decide (c<=57)
theorem iQ(c:Int):gm c=some (bk c):=by unfold gm bk;split<;>simp_all<;>omega
theorem mI(c:Int):gY c=some (kQ c):=by unfold gY kQ;split<;>simp_all<;>omega
theorem kT(c:Int):iq c=some (qk c):=by unfold iq qk;split<;>simp_all<;>omega
theorem gw(c:Int):ik c=some (bk c):=by unfold ik bk;split<;>simp_all<;>omega
theorem kD(c:Int):jI c=some (kQ c):=by unfold jI kQ;split<;>simp_all<;>omega
theorem kh(c:Int):kw c=some (qk c):=by unfold kw qk;split<;>simp_all<;>omega
def e8(b:UInt8):Bool:=bk b.toNat||qk b.toNat||(b.toNat:Int)==95
def dE(b:UInt8):Bool:=bk b.toNat||kQ b.toNat||qk b.toNat
def gv(s:ah):Bool:=decide ((s.length:Int)>=1)&&decide ((s.length:Int)<=24)
def D6(s:ah):Bool:=aT.any fun k=>k==s
def jb(p:Int->Bool)(s:ah):Bool:=match s with|[]=>false|c::_=>p c.toNat
abbrev yc(s:ah):Prop:=s.length<9223372036854775808
theorem kV(s:ah):ir s=some (gv s):=by
 unfold ir gv
 by_cases h:(s.length:Int)>=1
 ·rw[vaf (decide_eq_true h),decide_eq_true h];rfl
 ·rw[vag (by simpa using h),decide_eq_false h];rfl
theorem sG(s:ah):jB s=some (D6 s):=by
 unfold jB jl
 have h42:aT.length=42:=rfl
 have:=jT aT (by rw[h42];omega) (fun zz=>dJ s zz) (fun k=>k==s) (Sum.inl ()) (Sum.inr ()) (fun i h=>by
  rw[h42]at h
  simp only[dJ]
  rw[vaf (by simp;omega),fc _ i (by rw[h42];omega)]
  simp only[vaa]
  split<;>simp_all) (by simp only[dJ];rw[vag (by rw[h42];simp)]) 0 (vaJ _)
 simp only[Int.ofNat_zero,vbg]at this
 rw[this]
 unfold D6
 cases aT.any (fun k=>k==s)<;>rfl
theorem tJ:qV=some aT:=rfl
theorem uh(s:ah):oM s=some (D6 s):=by
 unfold oM
 have h42:aT.length=42:=rfl
 rw[tJ]
 simp only[vaa]
 rw[yl _ _ (by rw[h42];omega)]
 simp only[vaa,xp]
 rfl
def iP(s:ah):Bool:=gv s&&jb bk s&&!D6 s&&s.all e8
def fR(s:ah):Bool:=gv s&&jb kQ s&&s.all dE&&!(s==[73,110,116])&&!(s==[66,111,111,108])&&!(s==[67,101,108,108])&&!(s==[70,117,110])
def pb(b:Bool):Int:=if b then 0 else 3
theorem s9{s:ah}(h:gv s=true):∃c r,s=c::r:=by
 cases s with
 |nil=>simp[gv]at h
 |cons c r=>exact⟨c,r,rfl⟩
theorem sL(s:ah)(i:Nat)(h:i<s.length):jD s i=some (!e8 s[i]):=by
 unfold jD e8
 simp only[gW s i h,vaa,iQ,kT]
 cases bk (s[i].toNat:Int)<;>cases qk (s[i].toNat:Int)<;>simp[bne]
theorem tE(s:ah)(i:Nat)(h:i<s.length):ng s i=some (!e8 s[i]):=by
 unfold ng e8
 simp only[gW s i h,vaa,gw,kh]
 cases bk (s[i].toNat:Int)<;>cases qk (s[i].toNat:Int)<;>simp[bne]
theorem sN(s:ah)(hs:yc s)(i:Nat)(hi:i<=s.length):jE s i=some (if(s.drop i).any (fun b=>!e8 b)=true then .inl ()else .inr ()):=by
 unfold jE
 refine jT s hs _ (fun b=>!e8 b) _ _ (fun j h=>?_) ?_ i hi
 ·simp only[h9]
  rw[vaf (by simp;omega),sL s j h]
  simp only[vaa]
  split<;>simp_all
 ·simp only[h9];rw[vag (by simp)]
theorem tF(s:ah)(hs:yc s):nh s s.length 0=some (if s.any (fun b=>!e8 b)=true then .inl ()else .inr ()):=by
 unfold nh
 have:=jT s hs (fun zz=>iC s s.length zz) (fun b=>!e8 b) (.inl ()) (.inr ()) (fun j h=>by
  simp only[iC]
  rw[vaf (by simp;omega),tE s j h]
  simp only[vaa]
  split<;>simp_all) (by simp only[iC];rw[vag (by simp)]) 0 (vaJ _)
 simpa using this
theorem wX{b:UInt8}(h:bk b.toNat=true):e8 b=true:=by simp[e8,h]
theorem sJ(s:ah):jC s=some (!(gv s&&jb bk s&&!D6 s)):=by
 unfold jC
 rw[kV]
 simp only[vaa]
 by_cases h:gv s=true
 ·obtain⟨c,r,rfl⟩:=s9 h
  simp only[h,mB,vaa,iQ,sG,jb]
  cases bk (c.toNat:Int)<;>simp
 ·simp[h]
theorem wo(s:ah)(hs:yc s):nK s=some (iP s):=by
 unfold nK iP
 rw[sJ]
 simp only[vaa]
 by_cases h:(gv s&&jb bk s&&!D6 s)=true
 ·have hs1:gv s=true:=by revert h;cases gv s<;>simp
  obtain⟨c,r,rfl⟩:=s9 hs1
  have hc:bk (c.toNat:Int)=true:=by revert h;simp[jb];intro _ h _;exact h
  have hL:=sN (c::r) hs 1 (by simp)
  simp only[Int.ofNat_one]at hL
  rw[h,hL]
  simp only[List.drop_succ_cons,vbg,List.all_cons,wX hc,vbn]
  rw[vbi]
  simp only[vb2]
  cases r.all e8<;>simp
 ·simp[h]
theorem tD(s:ah):nf s=some (!(gv s&&jb bk s&&!D6 s)):=by
 unfold nf gv
 cases s with
 |nil=>simp
 | cons c r =>
  have h1:¬(((c::r).length:Int)<1):=by simp;omega
  have h2:(((c::r).length:Int)>=1):=by omega
  simp only[h1,h2,decide_false,decide_true,vbn,var,if_false,mB,vaa,gw,uh,jb]
  by_cases h:(((c::r).length:Int)>24)
  ·have h':¬(((c::r).length:Int)<=24):=by omega
   simp only[h,h',decide_true,decide_false,if_true]
   simp
  ·have h':(((c::r).length:Int)<=24):=by omega
   simp only[h,h',decide_true,decide_false,if_false,var]
   cases bk (c.toNat:Int)<;>simp
theorem w6(s:ah)(hs:yc s):sa s=some (pb (iP s)):=by
 unfold sa
 rw[tD,tF s hs]
 unfold iP pb
 cases(gv s&&jb bk s&&!D6 s)with
 |false=>simp
 |true=>
  simp only[vaa,vbr,var,if_false,vbn]
  rw[vbi]
  simp only[vb2]
  cases s.all e8<;>simp
theorem mb(s:ah)(i:Nat)(h:i<s.length):dS s i=some (!dE s[i]):=by
 unfold dS dE
 simp only[gW s i h,vaa,iQ,mI,kT]
 cases bk (s[i].toNat:Int)<;>cases kQ (s[i].toNat:Int)<;>simp
theorem tH(s:ah)(i:Nat)(h:i<s.length):nj s i=some (!dE s[i]):=by
 unfold nj dE
 simp only[gW s i h,vaa,gw,kD,kh]
 cases bk (s[i].toNat:Int)<;>cases kQ (s[i].toNat:Int)<;>simp
theorem jc(s:ah)(hs:yc s):dL s=some (s.all dE):=by
 unfold dL fH
 have:=jT s hs (fun zz=>bY s zz) (fun b=>!dE b) (.inl ()) (.inr ()) (fun j h=>by
  simp only[bY]
  rw[vaf (by simp;omega),mb s j h]
  simp only[vaa]
  split<;>simp_all) (by simp only[bY];rw[vag (by simp)]) 0 (vaJ _)
 simp only[Int.ofNat_zero,vbg]at this
 rw[this,vbi]
 simp only[vb2]
 cases s.all dE<;>rfl
theorem rC(s:ah)(hs:yc s):iS s=some (!(gv s&&jb kQ s&&s.all dE)):=by
 unfold iS
 rw[kV]
 simp only[vaa]
 by_cases h:gv s=true
 ·obtain⟨c,r,rfl⟩:=s9 h
  simp only[h,mB,vaa,mI,jc _ hs,jb]
  cases kQ (c.toNat:Int)<;>simp
 ·simp[h]
theorem u7(s:ah)(hs:yc s):lQ s=some (fR s):=by
 unfold lQ fR
 rw[rC s hs]
 simp only[vaa]
 cases(gv s&&jb kQ s&&s.all dE)<;>cases(s==[73,110,116])<;>cases(s==[66,111,111,108])<;>cases(s==[67,101,108,108])<;>cases(s==[70,117,110])<;>rfl
theorem tG(s:ah):ni s=some (!(gv s&&jb kQ s&&!(s==[73,110,116])&&!(s==[66,111,111,108])&&!(s==[67,101,108,108])&&!(s==[70,117,110]))):=by
 unfold ni gv
 cases s with
 |nil=>simp
 | cons c r =>
  have h1:¬(((c::r).length:Int)<1):=by simp;omega
  have h2:(((c::r).length:Int)>=1):=by omega
  simp only[h1,h2,decide_false,decide_true,vbn,var,if_false,mB,vaa,kD,jb]
  by_cases h:(((c::r).length:Int)>24)
  ·have h':¬(((c::r).length:Int)<=24):=by omega
   simp only[h,h',decide_true,decide_false,if_true]
   simp
  ·have h':(((c::r).length:Int)<=24):=by omega
   simp only[h,h',decide_true,decide_false,if_false,var]
   cases kQ (c.toNat:Int)<;>cases(c::r==[73,110,116])<;>cases(c::r==[66,111,111,108])<;>cases(c::r==[67,101,108,108])<;>cases(c::r==[70,117,110])<;>rfl
theorem tI(s:ah)(hs:yc s):nk s s.length 0=some (if s.any (fun b=>!dE b)=true then .inl ()else .inr ()):=by
 unfold nk
 have:=jT s hs (fun zz=>iD s s.length zz) (fun b=>!dE b) (.inl ()) (.inr ()) (fun j h=>by
  simp only[iD]
  rw[vaf (by simp;omega),tH s j h]
  simp only[vaa]
  split<;>simp_all) (by simp only[iD];rw[vag (by simp)]) 0 (vaJ _)
 simpa using this
theorem w7(s:ah)(hs:yc s):sd s=some (pb (fR s)):=by
 unfold sd
 rw[tG,tI s hs]
 unfold fR pb
 rw[vbi]
 simp only[vb2]
 cases(gv s&&jb kQ s)<;>cases s.all dE<;>cases(s==[73,110,116])<;>cases(s==[66,111,111,108])<;>cases(s==[67,101,108,108])<;>cases(s==[70,117,110])<;>rfl
theorem Cu(b:UInt8):((b.toNat:Int)==46)=(b==46):=by
 rw[vby]
 simp only[vaD]
 constructor
 ·intro h
  have:b.toNat=46:=by omega
  exact UInt8.toNat_inj.1 this
 ·rintro rfl;rfl
def fk:ah->List ah
 |[]=>[[]]
 |c::r=>if(c==46)=true then[]::fk r else match fk r with
  |[]=>[[c]]
  |h::t=>(c::h)::t
def rN(p:ah):List ah->List ah
 |[]=>[p]
 |h::t=>(p++h)::t
theorem lJ:∀(s:ah),fk s≠[]
 |[]=>by simp[fk]
 | c :: r => by
  unfold fk
  split
  ·simp
  ·split<;>simp
theorem sq(c:UInt8)(r:ah)(h:¬(c==46)=true):fk (c::r)=rN [c] (fk r):=by
 conv=>lhs;unfold fk
 rw[vag h]
 cases fk r<;>rfl
theorem wU(p q:ah)(l:List ah):rN p (rN q l)=rN (p++q) l:=by cases l<;>simp[rN]
theorem vI{l:List ah}(h:l≠[]):rN [] l=l:=by cases l with
 |nil=>exact absurd rfl h
 |cons=>rfl
theorem uF:∀(p s:ah),p.all (fun c=>!(c==46))=true->fk (p++s)=rN p (fk s)
 |[],s,_=>(vI (lJ s)).symm
 |c::p,s,h=>by
  rw[List.all_cons,vac]at h
  rw[vcp,sq _ _ (by simpa using h.1),uF p s h.2,wU]
  rfl
theorem uG:∀(s:ah),(fk s).length<=s.length+1/\∀x∈fk s,x.length<=s.length
 |[]=>by simp[fk]
 | c :: r => by
  obtain⟨h1,h2⟩:=uG r
  by_cases h:(c==46)=true
  ·unfold fk
   rw[vaf h]
   refine⟨by simp;omega,fun x hx=>?_⟩
   rw[vay]at hx
   rcases hx with rfl|hx
   ·simp
   ·have:=h2 x hx;simp;omega
  ·rw[sq c r h]
   cases hd:fk r with
   |nil=>exact absurd hd (lJ r)
   | cons a t =>
    rw[hd]at h1 h2
    refine⟨by simpa[rN]using Nat.le_succ_of_le h1,fun x hx=>?_⟩
    simp only[rN,vay]at hx
    rcases hx with rfl|hx
    ·have:=h2 a (by simp);simp;omega
    ·have:=h2 x (by simp[hx]);simp;omega
def gP(s:ah):ah×ah×Bool:=match s.findIdx? (fun c=>c==46)with
 |some j=>(s.take j,s.drop (j+1),true)
 |none=>(s,[],false)
theorem rx(s:ah)(hs:yc s):mK s=some (gP s):=by
 unfold mK nJ
 have:=su s hs (fun zz=>gh s zz) (fun c=>c==46) (fun j=>Sum.inl (s.take j,s.drop (j+1))) (Sum.inr ()) (fun i h=>by
  simp only[gh]
  rw[vaf (by simp;omega),gW s i h]
  simp only[vaa,Cu]
  by_cases hd:(s[i]==46)=true
  ·rw[vaf hd,vaf hd,An s i (by omega)]
   have hs':s.length<9223372036854775808:=hs
   have e:bN ((i:Int)+1)=((i+1:Nat):Int):=by rw[dh (by omega) (by omega)];omega
   rw[e]
   simp only[vaa,rY s (i+1) (by omega)]
  ·rw[vag hd,vag hd]) (by simp only[gh];rw[vag (by simp)])
 rw[this]
 unfold gP
 cases s.findIdx? (fun c=>c==46)<;>rfl
theorem yL(s:ah):fk s=if(gP s).2.2=true then(gP s).1::fk (gP s).2.1 else[(gP s).1]:=by
 unfold gP
 cases h:s.findIdx? (fun c=>c==46)with
 |none=>
  rw[vce]at h
  have:=uF s [] (by simp only[van,vaM];exact h)
  rw[vbx]at this
  simp only[var,if_false]
  rw[this]
  simp[fk,rN]
 | some j =>
  rw[vbU]at h
  obtain⟨hj,h1,h2⟩:=h
  have e:s=s.take j++s[j]::s.drop (j+1):=by
   conv=>lhs;rw[<-vcu j s]
   rw[vbb hj]
  have:=uF (s.take j) (s[j]::s.drop (j+1)) (by
   simp only[van,vaM]
   intro x hx
   obtain⟨i,hi,rfl⟩:=List.getElem_of_mem hx
   rw[List.getElem_take]
   have hi':i<j:=by simp at hi;omega
   simpa using h2 i hi')
  rw[<-e]at this
  simp only[if_true]
  rw[this]
  conv=>lhs;arg 2;unfold fk
  rw[vaf h1]
  simp[rN]
theorem yJ(s:ah):(gP s).1.length<=s.length/\(gP s).2.1.length<=s.length/\((gP s).2.2=true->(gP s).2.1.length<s.length):=by
 unfold gP
 cases h:s.findIdx? (fun c=>c==46)with
 |none=>simp
 |some j=>
  rw[vbU]at h
  obtain⟨hj,_⟩:=h
  simp
  omega
def zw(p:ah):Bool:=(p.isEmpty||jb bk p)&&p.all e8
def gd(p:ah):Bool:=gv p&&(p.all dE||zw p)
theorem wV{α X:Type}(p:Nat->α->Bool)(q:α->Bool)(y e:X)(k:Nat)(h:∀i x,k<=i->p i x=q x):∀(l:List α) (i:Nat),k<=i->jY (fun i x (_:Unit)=>if p i x=true then Sum.inr y else .inl ()) (fun _=>e) l i ()=if l.any q=true then y else e
 |[],i,_=>by simp[jY]
 | x :: l,i,hk => by
  have ih:=wV p q y e k h l (i+1) (by omega)
  unfold jY
  rw[h i x hk]
  by_cases hq:q x=true
  ·simp[hq]
  ·simp only[hq,if_false,ih,List.any_cons,vck,var]
theorem sP(s:ah)(i:Nat)(h:i<s.length):jF s i=some (if i=0 then !bk s[i].toNat else !e8 s[i]):=by
 unfold jF e8
 simp only[gW s i h,vaa,iQ,kT]
 by_cases h0:i=0
 ·subst h0
  cases bk ((s[0]).toNat:Int)<;>simp
 ·have:((i:Int)==0)=false:=by simp;omega
  simp only[this,vag h0]
  cases bk (s[i].toNat:Int)<;>cases qk (s[i].toNat:Int)<;>simp[bne]
theorem wq(s:ah)(hs:yc s):nL s=some (zw s):=by
 unfold nL me
 have:=mD s hs (fun i (_:Unit)=>i) (fun zz=>fy s zz) (fun _ _=>True) (fun i x _=>if(if i=0 then !bk x.toNat else !e8 x)=true then .inr (.inl ())else .inl ()) (fun _=>.inr ()) (fun i h t _=>⟨by
  simp only[fy]
  rw[vaf (by simp;omega),sP s i h]
  simp only[vaa]
  cases(if i=0 then !bk s[i].toNat else !e8 s[i])<;>rfl,fun _ _=>trivial⟩) (fun t _=>by simp only[fy];rw[vag (by simp)]) 0 () (vaJ _) trivial
 simp only[Int.ofNat_zero,vbg]at this
 rw[this]
 cases s with
 |nil=>rfl
 | cons c r =>
  unfold jY zw jb
  simp only[if_true,List.isEmpty_cons,vck,List.all_cons]
  by_cases hc:bk c.toNat=true
  ·have:=wV (X:=Unit⊕Unit) (fun i (x:UInt8)=>if i=0 then !bk x.toNat else !e8 x) (fun x=>!e8 x) (.inl ()) (.inr ()) 1 (fun i x hi=>by rw[vag (by omega)]) r 1 (vap _)
   simp only[hc,vbr,var,if_false,wX hc,vbn,vaB]
   rw[this,vbi]
   simp only[vb2]
   cases r.all e8<;>rfl
  ·simp[hc]
theorem sD(p:ah)(hs:yc p):jA p=some (!gd p):=by
 unfold jA gd
 rw[kV,jc p hs,wq p hs]
 cases gv p<;>cases p.all dE<;>simp
theorem j8(r:ah):dC r false=some (.inr ()):=aG rfl
theorem kS:∀(k:Nat) (r:ah),r.length<k->yc r->dC r true=some (if(!(fk r).all gd)=true then .inl ()else .inr ())
 |0,r,hk,_=>absurd hk (by omega)
 | k + 1,r,hk,hs => by
  obtain⟨c1,c2,c3⟩:=yJ r
  have hs':r.length<9223372036854775808:=hs
  have hb:ea r true=some (if(!gd (gP r).1)=true then .inr (.inl ())else .inl ((gP r).2.1,(gP r).2.2)):=by
   simp only[ea,if_true,rx r hs,vaa]
   rw[sD _ (show _<_ by omega)]
   simp only[vaa]
   cases gd (gP r).1<;>rfl
  rw[yL r]
  unfold dC
  by_cases hp:gd (gP r).1=true
  ·rw[hp]at hb
   refine(cz (body:=fun zz:ah×Bool=>ea zz.1 zz.2) (s:=(r,true)) (s':=((gP r).2.1,(gP r).2.2)) hb).trans ?_
   cases hm:(gP r).2.2 with
   |false=>
    have:=j8 (gP r).2.1
    unfold dC at this
    rw[this]
    simp[hp]
   |true=>
    have c4:=c3 hm
    have:=kS k (gP r).2.1 (by omega) (show _<_ by omega)
    unfold dC at this
    rw[this]
    simp[hp]
  ·have hp':gd (gP r).1=false:=by simpa using hp
   rw[hp']at hb
   refine(aG (body:=fun zz:ah×Bool=>ea zz.1 zz.2) (s:=(r,true)) hb).trans ?_
   cases(gP r).2.2<;>simp[hp']
theorem sF(r:ah)(more:Bool)(hs:yc r):dC r more=some (if(more&&!(fk r).all gd)=true then .inl ()else .inr ()):=by
 cases more with
 |false=>exact j8 r
 |true=>exact kS (r.length+1) r (by omega) hs
def dq(s:ah):Bool:=decide (s.length<=120)&&match fk s with
 |[]=>false
 |f::r=>(iP f||fR f||(f==[118]&&!r.isEmpty))&&r.all gd
theorem sB(f:ah)(hf:yc f)(more:Bool):jz f more=some (!(iP f||fR f||(f==[118]&&more))):=by
 unfold jz
 rw[wo f hf,u7 f hf]
 simp only[vaa]
 cases iP f<;>cases fR f<;>cases(f==[118])<;>simp
theorem qm(s:ah):kR s=some (pb (dq s)):=by
 unfold kR dq pb
 by_cases h:s.length<=120
 ·have h1:¬((s.length:Int)>120):=by omega
  obtain⟨c1,c2,c3⟩:=yJ s
  simp only[h1,h,decide_false,decide_true,var,if_false,vbn,rx s (show _<_ by omega),vaa]
  rw[sB _ (show _<_ by omega),sF _ _ (show _<_ by omega),yL s]
  simp only[vaa]
  cases hm:(gP s).2.2 with
  |false=>
   by_cases hn:iP (gP s).1=true<;>by_cases ht:fR (gP s).1=true<;>simp[hn,ht]
  | true =>
   have:(fk (gP s).2.1).isEmpty=false:=by
    cases hd:fk (gP s).2.1 with
    |nil=>exact absurd hd (lJ _)
    |cons=>rfl
   simp only[this,if_true,vbM,Bool.and_true,vbn]
   cases(iP (gP s).1||fR (gP s).1||(gP s).1==[118])<;>cases(fk (gP s).2.1).all gd<;>simp
 ·have h1:((s.length:Int)>120):=by omega
  simp[h1,h]
theorem lV(s:ah):∀(r:ah) (i b:Nat) (out o:List ah) (b':Nat),s.drop i=r->i+r.length=s.length->b<=i->((s.take i).drop b).all (fun c=>!(c==46))=true->
  jY (fun i x (t:List ah×Nat)=>if(x==46)=true then(Sum.inl (t.1++[(s.take i).drop t.2],i+1):(List ah×Nat)⊕(List ah×Nat))else .inl t) (fun t=>t) r i (out,b)=(o,b')->
  b'<=s.length/\o++[s.drop b']=out++rN ((s.take i).drop b) (fk r)
 |[],i,b,out,o,b',h1,h2,h3,h4,h=>by
  simp only[jY,Prod.mk.injEq]at h
  obtain⟨rfl,rfl⟩:=h
  have:i=s.length:=by simpa using h2
  subst this
  simp[fk,rN,h3]
 | c :: r,i,b,out,o,b',h1,h2,h3,h4,h => by
  have hi:i<s.length:=by simp at h2;omega
  rw[vbb hi]at h1
  injection h1 with h1a h1b
  unfold jY at h
  by_cases hc:(c==46)=true
  ·simp only[hc,if_true]at h
   have ih:=lV s r (i+1) (i+1) _ o b' h1b (by simp at h2;omega) (vap _) (by simp) h
   refine⟨ih.1,?_⟩
   rw[ih.2]
   have e:(s.take (i+1)).drop (i+1)=[]:=by simp
   rw[e,vI (lJ r)]
   conv=>rhs;arg 2;arg 2;unfold fk
   rw[vaf hc]
   simp[rN]
  ·simp only[hc,if_false,var]at h
   have e:(s.take (i+1)).drop b=(s.take i).drop b++[c]:=by
    rw[List.take_succ_eq_append_getElem hi,List.drop_append_of_le_length (by simp;omega),h1a]
   have ih:=lV s r (i+1) b _ o b' h1b (by simp at h2;omega) (by omega) (by rw[e,List.all_append,h4];simpa using hc) h
   refine⟨ih.1,?_⟩
   rw[ih.2,e,sq c r hc,wU]
theorem DQ{α:Type}(l:List α)(a b:Nat)(h:a<=b)(h2:b<=l.length):zp l (some (a:Int)) (some (b:Int))=some ((l.take b).drop a):=by
 simp[zp,bd,h,h2]
theorem w8(s:ah)(hs:s.length<=1000000):sh s=some (fk s):=by
 unfold sh qX
 have:=mD s (by omega) (fun i (t:List ah×Nat)=>(t.1,(t.2:Int),i)) (fun zz=>iE s s.length zz.1 zz.2.1 zz.2.2) (fun i t=>t.2<=i/\t.1.length<=i)
  (fun i x (t:List ah×Nat)=>if(x==46)=true then(Sum.inl (t.1++[(s.take i).drop t.2],i+1):(List ah×Nat)⊕(List ah×Int))else .inl t) (fun t=>(t.1,(t.2:Int))) (fun i h t hI=>by
   refine⟨?_,fun t' ht=>?_⟩
   ·simp only[iE]
    rw[vaf (by simp;omega),gW s i h]
    simp only[vaa,Cu]
    by_cases hd:(s[i]==46)=true
    ·rw[vaf hd,vaf hd,DQ s _ _ hI.1 (by omega)]
     simp only[vaa]
     rw[nw (by simp;omega)]
     have e:bN ((i:Int)+1)=((i+1:Nat):Int):=by rw[dh (by omega) (by omega)];omega
     rw[e]
     rfl
    ·rw[vag hd,vag hd]
   ·by_cases hd:(s[i]==46)=true
    ·rw[vaf hd]at ht;cases ht;simp;omega
    ·rw[vag hd]at ht;cases ht;omega) (fun t _=>by simp only[iE];rw[vag (by simp)]) 0 ([],0) (vaJ _) ⟨vap _,vap _⟩
 simp only[Int.ofNat_zero,vbg]at this
 rw[this]
 obtain⟨o,b',hr⟩:∃o b',jY (fun i x (t:List ah×Nat)=>if(x==46)=true then(Sum.inl (t.1++[(s.take i).drop t.2],i+1):(List ah×Nat)⊕(List ah×Nat))else .inl t) (fun t=>t) s 0 ([],0)=(o,b'):=⟨_,_,rfl⟩
 have key:∀(l:ah) (i:Nat) (t:List ah×Nat),jY (fun i x (t:List ah×Nat)=>if(x==46)=true then(Sum.inl (t.1++[(s.take i).drop t.2],i+1):(List ah×Nat)⊕(List ah×Int))else .inl t) (fun t=>(t.1,(t.2:Int))) l i t=
   ((jY (fun i x (t:List ah×Nat)=>if(x==46)=true then(Sum.inl (t.1++[(s.take i).drop t.2],i+1):(List ah×Nat)⊕(List ah×Nat))else .inl t) (fun t=>t) l i t).1,
    ((jY (fun i x (t:List ah×Nat)=>if(x==46)=true then(Sum.inl (t.1++[(s.take i).drop t.2],i+1):(List ah×Nat)⊕(List ah×Nat))else .inl t) (fun t=>t) l i t).2:Int)):=by
  intro l
  induction l with
  |nil=>intro i t;rfl
  | cons x l ih =>
   intro i t
   unfold jY
   by_cases hx:(x==46)=true
   ·simp only[hx,if_true,ih]
   ·simp only[hx,if_false,ih,var]
 rw[key,hr]
 obtain⟨h1,h2⟩:=lV s s 0 0 [] o b' rfl (by simp) (vap _) (by simp) hr
 simp only[vaa]
 rw[rY s b' h1]
 simp only[vaa]
 have hd:=(uG s).1
 have h3:o++[s.drop b']=fk s:=by rw[h2];simp[vI (lJ s)]
 have h4:o.length+1=(fk s).length:=by rw[<-h3];simp
 rw[nw (by simp;omega),h3]
 rfl
theorem uj(p:ah)(plain:Bool)(i:Nat)(h:i<p.length):oN p plain i=some (plain&&dE p[i]):=by
 unfold oN dE
 simp only[gW p i h,vaa,gw,kD,kh]
 cases plain<;>cases bk (p[i].toNat:Int)<;>cases kQ (p[i].toNat:Int)<;>simp
theorem qW:∀(l:ah) (i:Nat) (a b:Bool),jY (fun _ (x:UInt8) (t:Bool×Bool)=>(Sum.inl (t.1&&dE x,t.2&&e8 x):(Bool×Bool)⊕(Bool×Bool))) (fun t=>t) l i (a,b)=(a&&l.all dE,b&&l.all e8)
 |[],i,a,b=>by simp[jY]
 |x::l,i,a,b=>by
  unfold jY
  simp only[qW l,List.all_cons,Bool.and_assoc]
theorem uk(p:ah)(hp:yc p)(a b:Bool):oO p p.length a b 0=some (a&&p.all dE,b&&p.all e8):=by
 unfold oO
 have:=mD p hp (fun i (t:Bool×Bool)=>(t.1,t.2,i)) (fun zz=>jq p p.length zz.1 zz.2.1 zz.2.2) (fun _ _=>True) (fun _ x t=>.inl (t.1&&dE x,t.2&&e8 x)) (fun t=>t) (fun i h t _=>⟨by
  simp only[jq]
  rw[vaf (by simp;omega),uj p _ i h]
  simp only[vaa,gW p i h,gw,kh,e8]
  cases t.2<;>cases bk (p[i].toNat:Int)<;>cases qk (p[i].toNat:Int)<;>simp,fun _ _=>trivial⟩) (fun t _=>by simp only[jq];rw[vag (by simp)]) 0 (a,b) (vaJ _) trivial
 simp only[Int.ofNat_zero,vbg]at this
 rw[this,qW]
theorem ym(p:ah)(hp:yc p):ui p=some (gd p):=by
 unfold ui tf gd gv
 cases p with
 |nil=>simp
 | cons c r =>
  have h1:¬(((c::r).length:Int)<1):=by simp;omega
  have h2:(((c::r).length:Int)>=1):=by omega
  simp only[h1,h2,decide_false,decide_true,vbn,var,if_false,mB,vaa,gw,uk _ hp,zw,jb,List.isEmpty_cons,vck]
  by_cases h:(((c::r).length:Int)>24)
  ·have h':¬(((c::r).length:Int)<=24):=by omega
   simp only[h,h',decide_true,decide_false,if_true]
   simp
  ·have h':(((c::r).length:Int)<=24):=by omega
   simp only[h,h',decide_true,decide_false,if_false,var,vbn]
   cases(c::r).all dE<;>simp
theorem uf(f:ah)(r:List ah)(hf:yc f):oL (f::r)=some (!(iP f||fR f||(f==[118]&&!r.isEmpty))):=by
 unfold oL
 simp only[CG,vaa,w6 f hf,w7 f hf]
 have e:(((f::r).length:Int)==1)=r.isEmpty:=by
  cases r with
  |nil=>rfl
  |cons a r=>simp;omega
 rw[e]
 unfold pb
 cases iP f<;>cases fR f<;>cases(f==[118])<;>simp
theorem yW{s f:ah}{r:List ah}(h:s.length<=120)(hd:fk s=f::r):dq s=((iP f||fR f||(f==[118]&&!r.isEmpty))&&r.all fun x=>gd x):=by
 unfold dq
 rw[hd]
 simp only[h,decide_true,vbn]
theorem td(s:ah):qU s=some (pb (dq s)):=by
 unfold qU
 by_cases h:s.length<=120
 ·have h1:¬((s.length:Int)>120):=by omega
  simp only[h1,h,decide_false,decide_true,var,if_false,vbn,w8 s (by omega),vaa]
  obtain⟨d1,d2⟩:=uG s
  cases hd:fk s with
  |nil=>exact absurd hd (lJ s)
  | cons f r =>
   rw[hd]at d1 d2
   rw[yW h hd]
   rw[uf f r (show _<_ by have:=d2 f (by simp);omega)]
   have hl:r.length<9223372036854775808:=by simp at d1;omega
   have:=jT r hl (fun zz=>jo r r.length zz) (fun x=>!gd x) (.inl ()) (.inr ()) (fun j hj=>by
    simp only[jo]
    have hm:r[j]∈f::r:=by simp
    rw[vaf (by simp;omega),fc r j hj]
    simp only[vaa]
    rw[ym _ (show _<_ by have:=d2 _ hm;omega)]
    simp only[vaa]
    split<;>simp_all) (by simp only[jo];rw[vag (by simp)]) 0 (vaJ _)
   have e1:zp (f::r) (some 1) none=some r:=by
    have:=rY (f::r) 1 (by simp)
    simpa using this
   simp only[Int.ofNat_zero,vbg]at this
   simp only[vaa,e1,tc,this,vbi,vb2]
   unfold pb
   cases(iP f||fR f||(f==[118]&&!r.isEmpty))<;>cases r.all (fun x=>gd x)<;>rfl
 ·have h1:((s.length:Int)>120):=by omega
  have h2:dq s=false:=by unfold dq;simp[h]
  simp[h1,h2,pb]
def Bv(x:ag):Bool:=(decide (0<=x.From)&&decide (x.From<6))&&(decide (0<=x.To)&&decide (x.To<6))
def l7(a b:ag):Bool:=decide (a.From<b.From)||(a.From==b.From&&decide (a.To<b.To))
def lS(a b:ag):Bool:=a.From==b.From&&a.To==b.To
def rr(pre:List ag)(x:ag):Bool:=match pre.getLast? with
 |some y=>l7 x y
 |none=>false
def kf(pre:List ag)(x:ag):Option Int:=if Bv x=false then some 2 else if pre.any (lS x)=true then some 4 else if rr pre x=true then some 9 else none
def vA:List ag->List ag->Int
 |_,[]=>0
 |pre,x::r=>match kf pre x with
  |some e=>e
  |none=>vA (pre++[x]) r
def vG(g:aa):Int:=if(dq g.Caller&&dq g.Callee)=true then vA [] g.Arcs else 3
theorem zU{x:ag}(h:Bv x=true):rg x:=by
 unfold Bv at h
 simp only[vac,vae]at h
 exact⟨h.1.1,h.1.2,h.2.1,h.2.2⟩
theorem wm{i:Int}(h0:0<=i)(h1:i<6):oH 6 i=some i.toNat:=by
 unfold oH;rw[vaf ⟨h0,by omega⟩]
theorem zl(n:Int):e5 n=some (decide (0<=n)&&decide (n<6)):=by
 unfold e5
 by_cases h:0<=n
 ·rw[vaf (by simpa using h)];simp[h]
 ·rw[vag (by simpa using h)];simp[h]
theorem E3(x:ag):eC x.From x.To=some (!Bv x):=by
 unfold eC
 rw[zl,vaa]
 unfold Bv
 cases h:(decide (0<=x.From)&&decide (x.From<6))with
 |false=>simp
 |true=>
  rw[vag (by simp),zl,vaa]
  simp
theorem EN(x:ag):nm x.From x.To=some (!Bv x):=by
 unfold nm Bv
 repeat' split
 all_goals (simp only[vae,va0]at *)
 all_goals (congr 1;rw[vby];simp;omega)
theorem wD(a b:ag):fV a b=some (l7 a b):=by
 unfold fV l7
 split
 ·rename_i h;simp only[vae]at h;simp[h]
 ·rename_i h;simp only[vae]at h
  split
  ·rename_i h2;simp only[vaD]at h2;simp[h2]
  ·rename_i h2;simp only[vaD]at h2;simp[h,h2]
theorem nT(a b:ag):kJ a b=some (l7 a b):=wD a b
theorem dR{α:Type}(pre:List α)(x:α)(r:List α):d9 (pre++x::r) (pre.length:Int)=some x:=by
 rw[fc _ _ (by simp)];simp
theorem yV{α:Type}{pre r:List α}{y:α}(h:pre.getLast?=some y)(hl:pre.length<4611686018427387904):d9 (pre++r) (bN ((pre.length:Int) - 1))=some y:=by
 obtain⟨q,rfl⟩:∃q,pre=q++[y]:=by
  have hne:pre≠[]:=by intro e;rw[e]at h;cases h
  rw[vbC hne]at h
  refine⟨pre.dropLast,?_⟩
  rw[<-vaQ h];exact(vbF hne).symm
 have e1:((q++[y]).length:Int) - 1=(q.length:Int):=by simp
 rw[e1,dh (by omega) (by simp at hl;omega),vbs]
 exact dR q y r
theorem E4(g:aa){pre r:List ag}{x:ag}(hg:g.Arcs=pre++r)(hl:pre.length<4611686018427387904):eD g (pre.length:Int) x.From x.To x.Strict=some (rr pre x):=by
 unfold eD rr
 cases hp:pre.getLast? with
 |none=>
  have:pre=[]:=by simpa using hp
  subst this
  rw[vag (by simp)]
 |some y=>
  have hne:pre≠[]:=by intro e;rw[e]at hp;cases hp
  have hpos:=vbP.2 hne
  rw[vaf (by simp;omega),hg,yV hp hl,vaa,wD]
  rfl
theorem EP(g:aa){pre r:List ag}{x:ag}(hg:g.Arcs=pre++r)(hl:pre.length<4611686018427387904):nn g (pre.length:Int) x.From x.To x.Strict=some (rr pre x):=by
 unfold nn rr
 cases hp:pre.getLast? with
 |none=>
  have:pre=[]:=by simpa using hp
  subst this
  rw[vag (by simp)]
 |some y=>
  have hne:pre≠[]:=by intro e;rw[e]at hp;cases hp
  have hpos:=vbP.2 hne
  rw[vaf (by simp;omega),hg,yV hp hl,vaa,nT]
  rfl
def F9(m:Nat->Bool)(pre:List ag):Prop:=∀x:ag,rg x->m (0+x.From.toNat * 6+x.To.toNat * 1)=pre.any (lS x)
theorem vV(g:aa)(hl:g.Arcs.length<4611686018427387904):∀(r pre:List ag) (m:Nat->Bool),g.Arcs=pre++r->F9 m pre->
  ∃o,cC g g.Arcs (g.Arcs.length:Int) (pre.length:Int) m=some o/\(match o with|.inl o=>vA pre r=o.1/\o.1≠0|.inr _=>vA pre r=0)
 |[],pre,m,hg,hs=>by
  refine⟨.inr m,?_,rfl⟩
  unfold cC
  refine aG ?_
  unfold cJ
  simp only
  rw[vag (by rw[hg];simp)]
 | x :: r,pre,m,hg,hs => by
  have hlt:pre.length<g.Arcs.length:=by rw[hg];simp
  have hb:cJ g g.Arcs (g.Arcs.length:Int) (pre.length:Int) m=(match kf pre x with|some e=>some (.inr (.inl (e,m)))|none=>some (.inl (((pre++[x]).length:Int),gE m (0+x.From.toNat * 6+x.To.toNat * 1) true))):=by
   unfold cJ
   rw[vaf (by simpa using hlt)]
   conv=>lhs;rw[hg]
   rw[dR,vaa,E3,vaa]
   unfold kf
   cases hr:Bv x with
   |false=>simp
   | true =>
    obtain⟨a,b,c,d⟩:=zU hr
    rw[vag (by simp),vag (by simp),wm a b,wm c d]
    simp only[vaa]
    rw[hs x ⟨a,b,c,d⟩]
    cases hy:pre.any (lS x)with
    |true=>simp
    | false =>
     rw[vag (by simp),vag (by simp),E4 g hg (by omega),vaa]
     cases hz:rr pre x with
     |true=>simp
     |false=>
      simp only[var,if_false]
      rw[dh (by omega) (by omega)]
      congr 3
      simp
  cases hv:kf pre x with
  | some e =>
   rw[hv]at hb
   refine⟨.inl (e,m),?_,?_⟩
   ·unfold cC;exact aG hb
   ·simp only[vA,hv,vb8]
    unfold kf at hv
    split at hv
    ·cases hv;decide
    ·split at hv
     ·cases hv;decide
     ·split at hv
      ·cases hv;decide
      ·cases hv
  | none =>
   rw[hv]at hb
   have hin:Bv x=true:=by
    cases h:Bv x with
    |true=>rfl
    |false=>unfold kf at hv;rw[vaf h]at hv;cases hv
   obtain⟨a,b,c,d⟩:=zU hin
   obtain⟨o,h1,h2⟩:=vV g hl r (pre++[x]) (gE m (0+x.From.toNat * 6+x.To.toNat * 1) true) (by rw[hg];simp) (fun y hy=>by
    obtain⟨a',b',c',d'⟩:=hy
    unfold gE
    rw[List.any_append]
    by_cases he:0+y.From.toNat * 6+y.To.toNat * 1=0+x.From.toNat * 6+x.To.toNat * 1
    ·rw[vaf he]
     have h1:y.From=x.From:=by omega
     have h2:y.To=x.To:=by omega
     simp[lS,h1,h2]
    ·rw [vag he,hs y ⟨a',b',c',d'⟩]
     have:lS y x=false:=by
      unfold lS
      cases h1:(y.From==x.From)with
      |false=>rfl
      | true =>
       cases h2:(y.To==x.To)with
       |false=>rfl
       |true=>
        simp only[vaD]at h1 h2
        rw[h1,h2]at he
        exact absurd rfl he
     simp[this])
   refine⟨o,?_,?_⟩
   ·unfold cC at h1 ⊢
    rw[cz hb];exact h1
   ·cases o with
    |inl o=>simp only[vA,hv]at h2 ⊢;exact h2
    |inr o=>simp only[vA,hv]at h2 ⊢;exact h2
theorem rj(b:Bool):(pb b !=0)= !b:=by cases b<;>rfl
theorem yn(g:aa)(hl:g.Arcs.length<4611686018427387904):ba g=some (vG g):=by
 unfold ba
 have hJ:eB g=some (!(dq g.Caller&&dq g.Callee)):=by
  unfold eB
  rw[qm,vaa,rj]
  cases h:dq g.Caller with
  |false=>simp
  |true=>simp only[vbr,var,if_false];rw[qm,vaa,rj];simp
 rw[hJ,vaa]
 unfold vG
 cases h:(dq g.Caller&&dq g.Callee)with
 |false=>simp
 |true=>
  rw[vag (by simp),vaf rfl]
  obtain⟨o,h1,h2⟩:=vV g hl g.Arcs [] (qx false) rfl (fun x _=>rfl)
  rw[show(([]:List ag).length:Int)=0 from rfl]at h1
  rw[h1,vaa]
  cases o with
  |inl o=>simp only at h2 ⊢;rw[h2.1]
  |inr o=>simp only at h2 ⊢;rw[h2]
theorem EO(x y:ag):ki x.From x.To y.From y.To=some (lS x y):=by
 unfold ki lS
 split<;>simp_all
theorem ES(pre:List ag)(hl:pre.length<4611686018427387904)(x:ag):np pre (pre.length:Int) x.From x.To 0=some (if pre.any (lS x)=true then .inl ()else .inr ()):=by
 unfold np
 refine mC pre (by omega) _ (fun i y=>(ki x.From x.To y.From y.To).bind fun o23=>if o23=true then some (Sum.inr (Sum.inl ()))else some (Sum.inl (bN (i+1)))) (lS x) (.inl ()) (.inr ()) (fun i=>?_) (fun y hy i=>?_)
 ·rfl
 ·rw[EO,vaa]
  cases lS x y<;>rfl
theorem tC(g:aa)(hl:g.Arcs.length<4611686018427387904):∀(r pre:List ag),g.Arcs=pre++r->
  ∃o,iG g g.Arcs (g.Arcs.length:Int) (pre.length:Int)=some o/\(match o with|.inl o=>vA pre r=o/\o≠0|.inr _=>vA pre r=0)
 |[],pre,hg=>by
  refine⟨.inr (),?_,rfl⟩
  unfold iG
  refine aG ?_
  unfold iH
  rw[vag (by rw[hg];simp)]
 | x :: r,pre,hg => by
  have hlt:pre.length<g.Arcs.length:=by rw[hg];simp
  have hb:iH g g.Arcs (g.Arcs.length:Int) (pre.length:Int)=(match kf pre x with|some e=>some (.inr (.inl e))|none=>some (.inl ((pre++[x]).length:Int))):=by
   unfold iH
   rw[vaf (by simpa using hlt)]
   conv=>lhs;rw[hg]
   rw[dR,vaa,EN,vaa]
   unfold kf
   cases hr:Bv x with
   |false=>simp
   | true =>
    rw[vag (by simp),vag (by simp),An _ _ (by simp),vaa]
    have e1:(pre++x::r).take pre.length=pre:=by simp
    rw[e1,ES pre (by omega),vaa]
    cases hy:pre.any (lS x)with
    |true=>simp
    | false =>
     simp only[var,if_false]
     rw[EP g hg (by omega),vaa]
     cases hz:rr pre x with
     |true=>simp
     |false=>
      simp only[var,if_false]
      rw[dh (by omega) (by omega)]
      congr 2
      simp
  cases hv:kf pre x with
  | some e =>
   rw[hv]at hb
   refine⟨.inl e,?_,?_⟩
   ·unfold iG;exact aG hb
   ·simp only[vA,hv,vb8]
    unfold kf at hv
    split at hv
    ·cases hv;decide
    ·split at hv
     ·cases hv;decide
     ·split at hv
      ·cases hv;decide
      ·cases hv
  | none =>
   rw[hv]at hb
   obtain⟨o,h1,h2⟩:=tC g hl r (pre++[x]) (by rw[hg];simp)
   refine⟨o,?_,?_⟩
   ·unfold iG at h1 ⊢
    rw[cz hb];exact h1
   ·cases o with
    |inl o=>simp only[vA,hv]at h2 ⊢;exact h2
    |inr o=>simp only[vA,hv]at h2 ⊢;exact h2
theorem pT(g:aa)(hl:g.Arcs.length<4611686018427387904):mw g=some (vG g):=by
 unfold mw
 have hJ:nl g=some (!(dq g.Caller&&dq g.Callee)):=by
  unfold nl
  rw[td,vaa,rj]
  cases h:dq g.Caller with
  |false=>simp
  |true=>simp only[vbr,var,if_false];rw[td,vaa,rj];simp
 rw[hJ,vaa]
 unfold vG
 cases h:(dq g.Caller&&dq g.Callee)with
 |false=>simp
 |true=>
  rw[vag (by simp),vaf rfl]
  obtain⟨o,h1,h2⟩:=tC g hl g.Arcs [] rfl
  rw[show(([]:List ag).length:Int)=0 from rfl]at h1
  rw[h1,vaa]
  cases o with
  |inl o=>simp only at h2 ⊢;rw[h2.1]
  |inr o=>simp only at h2 ⊢;rw[h2]
structure od(g:aa):Prop where
 caller:dq g.Caller=true
 callee:dq g.Callee=true
 arcs:wP g.Arcs
theorem Ch{x y:ag}(hx:rg x)(hy:rg y):l7 x y=true↔ix x<ix y:=by
 unfold rg at hx hy
 unfold l7 ix
 simp only[vaH,vae,vac,vaD]
 omega
theorem xW{x y:ag}(hx:rg x)(hy:rg y):lS x y=true↔ix x=ix y:=by
 unfold rg at hx hy
 unfold lS ix
 simp only[vac,vaD]
 omega
theorem Ec:∀(r pre:List ag),wP pre->vA pre r=0->wP (pre++r)
 |[],pre,h,_=>by simpa using h
 | x :: r,pre,h,hv => by
  have hx:kf pre x=none:=by
   cases hs:kf pre x with
   |none=>rfl
   | some e =>
    simp only[vA,hs]at hv
    unfold kf at hs
    split at hs
    ·cases hs;cases hv
    ·split at hs
     ·cases hs;cases hv
     ·split at hs
      ·cases hs;cases hv
      ·cases hs
  have hv':vA (pre++[x]) r=0:=by simp only[vA,hx]at hv;exact hv
  have key:wP (pre++[x]):=by
   unfold kf at hx
   split at hx
   ·cases hx
   rename_i h1
   split at hx
   ·cases hx
   rename_i h2
   split at hx
   ·cases hx
   rename_i h3
   have hr:rg x:=zU (by simpa using h1)
   refine⟨fun y hy=>?_,?_⟩
   ·rcases vaC.1 hy with hy|hy
    ·exact h.1 y hy
    ·rw[vaW.1 hy];exact hr
   ·rw[vbq]
    refine⟨h.2,List.pairwise_singleton _ _,fun y hy z hz=>?_⟩
    rw[vaW.1 hz]
    have hne:ix x≠ix y:=fun e=>h2 (vaT.2 ⟨y,hy,(xW hr (h.1 y hy)).2 e⟩)
    have hnil:pre≠[]:=by intro e;rw[e]at hy;cases hy
    have hl:pre.getLast?=some (pre.getLast hnil):=vbC hnil
    unfold rr at h3
    rw[hl]at h3
    simp only at h3
    have hlm:=List.getLast_mem hnil
    have h4:¬ix x<ix (pre.getLast hnil):=fun hh=>h3 ((Ch hr (h.1 _ hlm)).2 hh)
    have h5:ix y<=ix (pre.getLast hnil):=by
     have hp:=h.2
     rw[<-vbF hnil]at hp hy
     rcases vaC.1 hy with hy|hy
     ·have:=(vbq.1 hp).2.2 y hy _ (vaW.2 rfl);omega
     ·rw[vaW.1 hy];exact vap _
    have h6:ix x≠ix (pre.getLast hnil):=fun e=>h2 (vaT.2 ⟨_,hlm,(xW hr (h.1 _ hlm)).2 e⟩)
    omega
  have:=Ec r (pre++[x]) key hv'
  simpa using this
theorem Eb:∀(r pre:List ag),wP (pre++r)->vA pre r=0
 |[],_,_=>rfl
 | x :: r,pre,h => by
  have hr:rg x:=h.1 x (by simp)
  have hp:=vbq.1 h.2
  have hs:kf pre x=none:=by
   unfold kf
   have h1:Bv x=true:=by
    unfold rg at hr
    unfold Bv
    simp only[vac,vae]
    exact⟨⟨hr.1,hr.2.1⟩,hr.2.2⟩
   rw[vag (by simp[h1]),vag,vag]
   ·intro hb
    unfold rr at hb
    split at hb
    ·rename_i y hy
     have hym:y∈pre:=List.mem_of_getLast? hy
     have:=hp.2.2 y hym x (by simp)
     have:=(Ch hr (h.1 y (by simp[hym]))).1 hb
     omega
    ·cases hb
   ·intro hb
    obtain⟨y,hy,hsm⟩:=vaT.1 hb
    have:=hp.2.2 y hy x (by simp)
    have:=(xW hr (h.1 y (by simp[hy]))).1 hsm
    omega
  simp only[vA,hs]
  exact Eb r (pre++[x]) (by simpa using h)
theorem qt{g:aa}:vG g=0↔od g:=by
 unfold vG
 constructor
 ·intro h
  split at h
  ·rename_i hc
   simp only[vac]at hc
   exact⟨hc.1,hc.2,by simpa using Ec g.Arcs [] ⟨by simp,by simp⟩ h⟩
  ·cases h
 ·rintro⟨h1,h2,h3⟩
  rw[vaf (by simp[h1,h2])]
  exact Eb g.Arcs [] (by simpa using h3)
theorem vb{a b:aa}(ha:od a)(hb:od b):od (bV a b):=⟨ha.caller,hb.callee,sS _⟩
theorem gH{l:List ag}(h:wP l):l.length<=36:=by
 rw[<-Ba h]
 unfold ja
 exact vaO (vch _ _) (by simp)
theorem A5:∀(s1 s2:List ag),s1.length=s2.length->(s1.zip s2).any (fun z=>!(kn z.1 z.2))= !decide (s1=s2)
 |[],[],_=>by simp
 |[],_::_,h=>by simp at h
 |_::_,[],h=>by simp at h
 | x :: r,y :: s,h => by
  rw[List.zip_cons_cons,List.any_cons,A5 r s (by simpa using h),zO]
  by_cases h1:x=y
  ·subst h1
   by_cases h2:r=s
   ·subst h2;simp
   ·simp[h2]
  ·simp[h1]
theorem yZ(s1 s2:List ag)(hlen:s1.length=s2.length)(hl:s1.length<4611686018427387904)(body:Int->Option (Int⊕(Unit⊕Unit)))
  (hb:∀i:Int,body i=if decide (i<(s1.length:Int))=true then(d9 s1 i).bind fun x=>(d9 s2 i).bind fun y=>if(!(kn x y))=true then some (.inr (.inl ()))else some (.inl (bN (i+1)))else some (.inr (.inr ()))):
  loop body 0=some (if s1=s2 then .inr ()else .inl ()):=by
 have hz:(s1.zip s2).length=s1.length:=by rw[List.length_zip];omega
 have:=jT (s1.zip s2) (by omega) body (fun z=>!(kn z.1 z.2)) (.inl ()) (.inr ()) (fun i hi=>?_) (by rw[hb,vag (by simp[hz])]) 0 (vaJ _)
 ·rw[vbg,A5 s1 s2 hlen]at this
  rw[show((0:Nat):Int)=0 from rfl]at this
  rw[this]
  by_cases h:s1=s2<;>simp[h]
 ·have h1:i<s1.length:=by omega
  have h2:i<s2.length:=by omega
  rw[hb,vaf (by simp;omega),fc s1 i h1,vaa,fc s2 i h2,vaa]
  rw[List.getElem_zip]
  cases kn s1[i] s2[i]<;>rfl
theorem B7(s1 s2:List ag)(hl:s1.length<4611686018427387904):kv s1 s2=some (decide (s1=s2)):=by
 unfold kv
 by_cases h:s1.length=s2.length
 ·rw[vag (by simp[h])]
  unfold j5
  rw[yZ s1 s2 h hl (fun zz=>iX s1 s2 (s1.length:Int) zz) (fun i=>rfl),vaa]
  by_cases h2:s1=s2<;>simp[h2]
 ·rw[vaf (by simp;omega)]
  have:s1≠s2:=fun e=>h (by rw[e])
  simp[this]
theorem Dl(a b:aa)(hl:a.Arcs.length<4611686018427387904):fB a b=some (decide (a=b)):=by
 unfold fB
 obtain⟨a1,a2,a3⟩:=a
 obtain⟨b1,b2,b3⟩:=b
 simp only at hl ⊢
 by_cases h1:a1=b1
 ·subst h1
  rw[vaf (by simp)]
  by_cases h2:a2=b2
  ·subst h2
   rw[vaf (by simp),B7 a3 b3 hl]
   simp
  ·rw[vag (by simp[h2])];simp[h2]
 ·rw[vag (by simp[h1])];simp[h1]
theorem zh(a b:aa)(hl:a.Arcs.length<4611686018427387904):oQ a b=some (decide (a=b)):=by
 unfold oQ tg
 obtain⟨a1,a2,a3⟩:=a
 obtain⟨b1,b2,b3⟩:=b
 simp only at hl ⊢
 by_cases h1:a1=b1
 ·subst h1
  rw[vag (by simp)]
  by_cases h2:a2=b2
  ·subst h2
   rw[vag (by simp),vaa]
   by_cases h3:a3.length=b3.length
   ·rw[vag (by simp[h3])]
    unfold th
    rw[yZ a3 b3 h3 hl (fun zz=>qa ⟨a1,a2,a3⟩ ⟨a1,a2,b3⟩ (a3.length:Int) zz) (fun i=>rfl),vaa]
    by_cases h4:a3=b3<;>simp[h4]
   ·rw[vaf (by simp;omega)]
    have:a3≠b3:=fun e=>h3 (by rw[e])
    simp[this]
  ·rw[vaf (by simp[h2]),vaa];simp[h2]
 ·rw[vaf (by simp[h1]),vaa];simp[h1]
theorem zQ(m:Nat->Int)(L:Nat)(a b:Int):gE (gE m L a) L b=gE m L b:=by
 funext k;unfold gE;split<;>rfl
theorem zt(g:aa)(h:wP g.Arcs):e6 g=some (cO g.Arcs):=by
 unfold e6 gS
 have hl:=gH h
 have key:=nI (X:=Nat->Int) g.Arcs (by omega) (fun(i:Int) (m:Nat->Int)=>(i,m)) (fun(zz:Int×(Nat->Int))=>fM g.Arcs (g.Arcs.length:Int) zz.1 zz.2)
  (fun i m x=>(oH 6 x.From).bind fun i3=>(oH 6 x.To).bind fun i4=>if x.Strict=true then(oH 6 x.From).bind fun i7=>(oH 6 x.To).bind fun i8=>some (.inl (bN (i+1),gE (gE m (0+i3 * 6+i4 * 1) 1) (0+i7 * 6+i8 * 1) 2))else some (.inl (bN (i+1),gE m (0+i3 * 6+i4 * 1) 1)))
  (fun _ _=>True) (fun x m=>gE m (ix x) (wt x)) id (qx 0) trivial (fun i s=>rfl) (fun i hi s _=>⟨?_,trivial⟩)
 ·rw[key,vaa]
  have:∀(l:List ag) (m:Nat->Int),l.foldl (fun s x=>gE s (ix x) (wt x)) m=ya l m:=by
   intro l
   induction l with
   |nil=>intro m;rfl
   |cons x r ih=>intro m;rw[List.foldl_cons,ih];rfl
  rw[this]
  rfl
 ·obtain⟨a,b,c,d⟩:=h.1 _ (vaS hi)
  rw[wm a b,wm c d]
  simp only[vaa]
  have e:0+g.Arcs[i].From.toNat * 6+g.Arcs[i].To.toNat * 1=ix g.Arcs[i]:=by unfold ix;omega
  rw[e]
  unfold wt
  split
  ·rw[zQ]
  ·rfl
theorem Ew(X Y:Nat->Int)(f t m:Nat)(hf:f<6)(ht:t<6)(hm:m<6):dZ (f:Int) (t:Int) (m:Int) X Y=some (decide (X (f * 6+m)>0/\Y (m * 6+t)>0)):=by
 unfold dZ
 rw[wm (by omega) (by omega),wm (by omega) (by omega)]
 simp only[vaa,Int.toNat_natCast,vaB,vcF]
 by_cases h:X (f * 6+m)>0
 ·rw[vaf (by simpa using h),wm (by omega) (by omega)]
  simp[h]
 ·rw[vag (by simpa using h)];simp[h]
theorem Ez(X Y:Nat->Int)(f t:Nat)(hf:f<6)(ht:t<6):d4 (f:Int) (t:Int) X Y 0 0=some (wF X Y f t 6):=by
 unfold d4
 refine qI 6 _ (fun m=>(wF X Y f t m,(m:Int))) _ (fun m hm=>?_) ?_
 ·unfold dm
  rw[vaf (by simp;omega),Ew X Y f t m hf ht hm,vaa]
  have hw:bN ((m:Int)+1)=((m+1:Nat):Int):=by rw[dh (by omega) (by omega)];omega
  by_cases h:X (f * 6+m)>0/\Y (m * 6+t)>0
  ·rw[vaf (by simpa using h),wm (by omega) (by omega),wm (by omega) (by omega),wm (by omega) (by omega)]
   simp only[vaa,Int.toNat_natCast,vaB,vcF]
   rw[hw]
   show some (Sum.inl _)=some (Sum.inl (wF X Y f t (m+1),((m+1:Nat):Int)))
   congr 3
   show _=uw X Y f t m (wF X Y f t m)
   unfold uw mx
   rw[vaf h]
  ·rw[vag (by simpa using h),hw]
   show some (Sum.inl _)=some (Sum.inl (wF X Y f t (m+1),((m+1:Nat):Int)))
   congr 3
   show _=uw X Y f t m (wF X Y f t m)
   unfold uw
   rw[vag h]
 ·unfold dm
  rw[vag (by simp)]
def nx(M:Nat->Int)(n:Nat):List ag:=(List.range n).filterMap fun L=>if M L>0 then some (iZ M L)else none
theorem yw(M:Nat->Int)(n:Nat):nx M (n+1)=nx M n++(if M n>0 then[iZ M n]else[]):=by
 unfold nx
 rw[List.range_succ,List.filterMap_append]
 congr 1
 by_cases h:M n>0<;>simp[h]
theorem zE(M:Nat->Int)(n:Nat):(nx M n).length<=n:=by
 unfold nx
 exact vaO (vch _ _) (by simp)
theorem uR{X:Type}(M:Nat->Int)(inner:Int->Int×List ag->Option ((Int×List ag)⊕List ag))(outer:Int×List ag->Option ((Int×List ag)⊕List ag))
  (hi:∀(f t:Nat) l,f<6->t<6->l.length<=36->inner f (t,l)=some (.inl (((t+1:Nat):Int),l++(if M (f * 6+t)>0 then[iZ M (f * 6+t)]else[]))))
  (hie:∀(f:Nat) l,inner f (6,l)=some (.inr l))
  (ho:∀(f:Nat) l,f<6->outer (f,l)=(loop (inner f) (0,l)).bind fun o=>some (.inl (((f+1:Nat):Int),o)))
  (hoe:∀l,outer (6,l)=some (.inr l)):loop outer (0,[])=some (ja M):=by
 have hin:∀f:Nat,f<6->loop (inner (f:Int)) (0,nx M (f * 6))=some (nx M ((f+1) * 6)):=fun f hf=>by
  have h6:(f+1) * 6=f * 6+6:=by omega
  rw[h6]
  refine qI 6 _ (fun t=>((t:Int),nx M (f * 6+t))) _ (fun t ht=>?_) (hie f _)
  rw[hi f t _ hf ht (vaO (zE _ _) (by omega)),<-yw]
  rfl
 refine qI 6 _ (fun f=>((f:Int),nx M (f * 6))) _ (fun f hf=>?_) (hoe _)
 rw[ho f _ hf,hin f hf,vaa]
theorem uC(a b:aa)(ha:wP a.Arcs)(hb:wP b.Arcs):bF a b=some (bV a b):=by
 unfold bF
 rw[zt a ha,vaa,zt b hb,vaa]
 have:=uR (X:=Unit) (gF (cO a.Arcs) (cO b.Arcs)) (fun f zz=>co f (cO a.Arcs) (cO b.Arcs) zz.1 zz.2) (fun zz=>cn (cO a.Arcs) (cO b.Arcs) zz.1 zz.2)
  (fun f t l hf ht hl=>?_) (fun f l=>?_) (fun f l hf=>?_) (fun l=>?_)
 ·unfold fL
  rw[this]
  rfl
 ·simp only
  unfold co
  rw[vaf (by simp;omega),Ez _ _ f t hf ht,vaa,<-g7 hf ht]
  have hw:bN ((t:Int)+1)=((t+1:Nat):Int):=by rw[dh (by omega) (by omega)];omega
  by_cases h:gF (cO a.Arcs) (cO b.Arcs) (f * 6+t)>0
  ·rw[vaf (by simpa using h),vaf h,nw (by simp;omega),vaa,hw]
   congr 4
   unfold iZ
   rw[show(f * 6+t) / 6=f by omega,show(f * 6+t) % 6=t by omega]
  ·rw[vag (by simpa using h),vag h,hw]
   simp
 ·simp only
  unfold co
  rw[vag (by simp)]
 ·simp only
  unfold cn
  rw[vaf (by simp;omega),dh (by omega) (by omega)]
  rfl
 ·simp only
  unfold cn
  rw[vag (by simp)]
def F1:aa:=⟨[],[],[]⟩
def uA(a b:aa):aa×Int:=if vG a≠0 then(F1,vG a)else if vG b≠0 then(F1,vG b)else if a.Callee=b.Caller then(bV a b,0)else(F1,6)
theorem Ek(f t:Int)(x y:ag):nq f t x.From x.To y.From y.To=some ((x.From==f&&x.To==y.From)&&y.To==t):=by
 unfold nq
 cases h1:(x.From==f)<;>cases h2:(x.To==y.From)<;>simp[h1,h2]
def aP(f t:Int)(x y:ag):Bool:=(x.From==f&&x.To==y.From)&&y.To==t
theorem El(f t:Int)(lb:List ag)(hl:lb.length<=40)(x:ag)(fd s:Bool):nr f t lb (lb.length:Int) x.From x.To x.Strict fd 0 s=some (fd||lb.any (aP f t x),s||lb.any (fun y=>aP f t x y&&(x.Strict||y.Strict))):=by
 unfold nr
 have key:=nI (X:=Bool×Bool) lb (by omega) (fun(i:Int) (p:Bool×Bool)=>(p.1,i,p.2)) (fun(zz:Bool×Int×Bool)=>qZ f t lb (lb.length:Int) x.From x.To x.Strict zz.1 zz.2.1 zz.2.2)
  (fun i p y=>(nq f t x.From x.To y.From y.To).bind fun o8=>if o8=true then(if p.2=true then some (.inl (true,bN (i+1),true))else if x.Strict=true then some (.inl (true,bN (i+1),true))else some (.inl (true,bN (i+1),y.Strict)))else some (.inl (p.1,bN (i+1),p.2)))
  (fun _ _=>True) (fun y p=>(p.1||aP f t x y,p.2||(aP f t x y&&(x.Strict||y.Strict)))) id (fd,s) trivial (fun i p=>rfl) (fun i hi p _=>⟨?_,trivial⟩)
 ·rw[key]
  congr 1
  have:∀(l:List ag) (p:Bool×Bool),l.foldl (fun p y=>(p.1||aP f t x y,p.2||(aP f t x y&&(x.Strict||y.Strict)))) p=(p.1||l.any (aP f t x),p.2||l.any (fun y=>aP f t x y&&(x.Strict||y.Strict))):=by
   intro l
   induction l with
   |nil=>intro p;simp
   |cons y r ih=>intro p;rw[List.foldl_cons,ih];simp[vcl]
  exact this lb (fd,s)
 ·rw[Ek,vaa]
  show(if aP f t x lb[i]=true then _ else _)=_
  cases h:aP f t x lb[i]<;>cases hp:p.2<;>cases hx:x.Strict<;>simp[h,hp,hx]
def aF(a b:aa)(f t:Int):Bool:=a.Arcs.any fun x=>b.Arcs.any (aP f t x)
def aS(a b:aa)(f t:Int):Bool:=a.Arcs.any fun x=>b.Arcs.any fun y=>aP f t x y&&(x.Strict||y.Strict)
theorem Es(a b:aa)(f t:Int)(ha:a.Arcs.length<=40)(hb:b.Arcs.length<=40):w9 a b f t=some ((⟨f,t,aS a b f t⟩:ag),aF a b f t):=by
 unfold w9 uo
 have key:=nI (X:=Bool×Bool) a.Arcs (by omega) (fun(i:Int) (p:Bool×Bool)=>(p.1,i,p.2)) (fun(zz:Bool×Int×Bool)=>qY f t b a.Arcs (a.Arcs.length:Int) zz.1 zz.2.1 zz.2.2)
  (fun i p x=>(nr f t b.Arcs (b.Arcs.length:Int) x.From x.To x.Strict p.1 0 p.2).bind fun o15=>some (.inl (o15.1,bN (i+1),o15.2)))
  (fun _ _=>True) (fun x p=>(p.1||b.Arcs.any (aP f t x),p.2||b.Arcs.any (fun y=>aP f t x y&&(x.Strict||y.Strict)))) id (false,false) trivial (fun i p=>rfl) (fun i hi p _=>⟨?_,trivial⟩)
 ·rw[key,vaa]
  have:∀(l:List ag) (p:Bool×Bool),l.foldl (fun p x=>(p.1||b.Arcs.any (aP f t x),p.2||b.Arcs.any (fun y=>aP f t x y&&(x.Strict||y.Strict)))) p=(p.1||l.any (fun x=>b.Arcs.any (aP f t x)),p.2||l.any (fun x=>b.Arcs.any (fun y=>aP f t x y&&(x.Strict||y.Strict)))):=by
   intro l
   induction l with
   |nil=>intro p;simp
   |cons y r ih=>intro p;rw[List.foldl_cons,ih];simp[vcl]
  rw[this]
  simp[aF,aS]
 ·rw[El f t b.Arcs hb];rfl
theorem gJ{l:List ag}(h:wP l){f t:Nat}(hf:f<6)(ht:t<6):(cO l (f * 6+t)>0↔∃x∈l,x.From=f/\x.To=t)/\(∀x∈l,x.From=f->x.To=t->(cO l (f * 6+t)=2↔x.Strict=true)):=by
 have hix:∀x∈l,(ix x=f * 6+t↔x.From=f/\x.To=t):=fun x hx=>by
  have:=h.1 x hx
  unfold rg at this
  unfold ix
  omega
 refine⟨⟨fun hp=>?_,fun⟨x,hx,h1,h2⟩=>?_⟩,fun x hx h1 h2=>?_⟩
 ·obtain⟨x,hx,he⟩:=vU hp
  exact⟨x,hx,(hix x hx).1 he⟩
 ·rw[<-(hix x hx).2 ⟨h1,h2⟩,pB h hx]
  have:=vX x;omega
 ·rw[<-(hix x hx).2 ⟨h1,h2⟩,pB h hx]
  unfold wt
  cases x.Strict<;>simp
theorem Fv{a b:aa}(ha:wP a.Arcs)(hb:wP b.Arcs){f t:Nat}(hf:f<6)(ht:t<6):aF a b f t=decide (gF (cO a.Arcs) (cO b.Arcs) (f * 6+t)>0):=by
 rw[vby,vae,g7 hf ht,(f0 (g5 _) (g5 _) f t 6).2.1]
 unfold aF aP
 simp only[vaT,vac,vaD]
 constructor
 ·rintro⟨x,hx,y,hy,⟨h1,h2⟩,h3⟩
  obtain⟨_,_,c,d⟩:=ha.1 x hx
  refine⟨x.To.toNat,by omega,(gJ ha hf (by omega)).1.2 ⟨x,hx,h1,by omega⟩,(gJ hb (by omega) ht).1.2 ⟨y,hy,by omega,h3⟩⟩
 ·rintro⟨m,hm,h1,h2⟩
  obtain⟨x,hx,p1,p2⟩:=(gJ ha hf hm).1.1 h1
  obtain⟨y,hy,q1,q2⟩:=(gJ hb hm ht).1.1 h2
  exact⟨x,hx,y,hy,⟨p1,p2.trans q1.symm⟩,q2⟩
theorem Fw{a b:aa}(ha:wP a.Arcs)(hb:wP b.Arcs){f t:Nat}(hf:f<6)(ht:t<6):aS a b f t=(gF (cO a.Arcs) (cO b.Arcs) (f * 6+t)==2):=by
 rw[vby,vaD,g7 hf ht,(f0 (g5 _) (g5 _) f t 6).2.2]
 unfold aS aP
 simp only[vaT,vac,vaD,vaH]
 constructor
 ·rintro⟨x,hx,y,hy,⟨⟨h1,h2⟩,h3⟩,h4⟩
  obtain⟨_,_,c,d⟩:=ha.1 x hx
  have ex:x.To=(x.To.toNat:Int):=by omega
  refine⟨x.To.toNat,by omega,(gJ ha hf (by omega)).1.2 ⟨x,hx,h1,ex⟩,(gJ hb (by omega) ht).1.2 ⟨y,hy,by omega,h3⟩,?_⟩
  rcases h4 with h4|h4
  ·exact .inl (((gJ ha hf (by omega)).2 x hx h1 ex).2 h4)
  ·exact .inr (((gJ hb (by omega) ht).2 y hy (by omega) h3).2 h4)
 ·rintro⟨m,hm,h1,h2,h3⟩
  obtain⟨x,hx,p1,p2⟩:=(gJ ha hf hm).1.1 h1
  obtain⟨y,hy,q1,q2⟩:=(gJ hb hm ht).1.1 h2
  refine⟨x,hx,y,hy,⟨⟨p1,p2.trans q1.symm⟩,q2⟩,?_⟩
  rcases h3 with h3|h3
  ·exact .inl (((gJ ha hf hm).2 x hx p1 p2).1 h3)
  ·exact .inr (((gJ hb hm ht).2 y hy q1 q2).1 h3)
theorem tB(a b:aa)(ha:a.Arcs.length<=40)(hb:b.Arcs.length<=40):il a b=some (uA a b):=by
 unfold il uA
 rw[pT a (by omega),vaa]
 by_cases h1:vG a=0
 ·simp only[h1,bne_self_eq_false,var,if_false,ne_eq,not_true_eq_false]
  rw[pT b (by omega),vaa]
  by_cases h2:vG b=0
  ·simp only[h2,bne_self_eq_false,var,if_false,ne_eq,not_true_eq_false]
   by_cases h3:a.Callee=b.Caller
   ·rw[vag (by simp[h3]),vaf h3]
    have hA:=(qt.1 h1).arcs
    have hB:=(qt.1 h2).arcs
    have:=uR (X:=Unit) (gF (cO a.Arcs) (cO b.Arcs)) (fun f zz=>gB a b f zz.1 zz.2) (fun zz=>gA a b zz.1 zz.2)
     (fun f t l hf ht hl=>?_) (fun f l=>?_) (fun f l hf=>?_) (fun l=>?_)
    ·unfold oP
     rw[this]
     rfl
    ·simp only
     unfold gB
     rw[vaf (by simp;omega),Es a b _ _ ha hb,vaa,Fv hA hB hf ht,Fw hA hB hf ht]
     have hw:bN ((t:Int)+1)=((t+1:Nat):Int):=by rw[dh (by omega) (by omega)];omega
     by_cases h:gF (cO a.Arcs) (cO b.Arcs) (f * 6+t)>0
     ·rw[vaf (by simpa using h),vaf h,nw (by simp;omega),vaa,hw]
      congr 4
      unfold iZ
      rw[show(f * 6+t) / 6=f by omega,show(f * 6+t) % 6=t by omega]
     ·rw[vag (by simpa using h),vag h,hw]
      simp
    ·simp only
     unfold gB
     rw[vag (by simp)]
    ·simp only
     unfold gA
     rw[vaf (by simp;omega),dh (by omega) (by omega)]
     rfl
    ·simp only
     unfold gA
     rw[vag (by simp)]
   ·rw[vaf (by simp[h3]),vag h3];rfl
  ·simp only[show(vG b !=0)=true by simp[h2],if_true,ne_eq,h2,not_false_eq_true];rfl
 ·simp only[show(vG a !=0)=true by simp[h1],if_true,ne_eq,h1,not_false_eq_true];rfl
abbrev Eu(x y:ah):Prop:=Op.bytesLess x y=true
theorem pH:∀(x:ah),Op.bytesLess x x=false
 |[]=>rfl
 |a::x=>by
  unfold Op.bytesLess
  rw[pH x]
  simp[UInt8.lt_irrefl]
theorem uy:∀{x y z:ah},Eu x y->Eu y z->Eu x z
 |_,_,[],h1,h2=>by simp[Eu,Op.bytesLess]at h2
 |_,[],_::_,h1,h2=>by simp[Eu,Op.bytesLess]at h1
 |[],_::_,_::_,_,_=>rfl
 | a :: x,b :: y,c :: z,h1,h2 => by
  unfold Eu Op.bytesLess at h1 h2 ⊢
  simp only[vaH,vae,vac,vaD]at h1 h2 ⊢
  rcases h1 with h1|⟨rfl,h1⟩
  ·rcases h2 with h2|⟨rfl,h2⟩
   ·exact .inl (UInt8.lt_trans h1 h2)
   ·exact .inl h1
  ·rcases h2 with h2|⟨rfl,h2⟩
   ·exact .inl h2
   ·exact .inr ⟨rfl,uy h1 h2⟩
theorem yx:∀{x y:ah},Op.bytesLess x y=false->Op.bytesLess y x=false->x=y
 |[],[],_,_=>rfl
 |[],_::_,h,_=>by simp[Op.bytesLess]at h
 |_::_,[],_,h=>by simp[Op.bytesLess]at h
 | a :: x,b :: y,h1,h2 => by
  unfold Op.bytesLess at h1 h2
  simp only[vbv,va0,vcz,vaD]at h1 h2
  have hab:a=b:=by
   have k1:=UInt8.not_lt.1 h1.1
   have k2:=UInt8.not_lt.1 h2.1
   exact UInt8.le_antisymm k2 k1
  subst hab
  rw[yx (h1.2 rfl) (h2.2 rfl)]
structure TO{α:Type}(c:α->α->Int):Prop where
 rng:∀x y,c x y= -1\/c x y=0\/c x y=1
 eq:∀x y,c x y=0↔x=y
 sym:∀x y,c y x= - c x y
 tr:∀x y z,c x y<0->c y z<0->c x z<0
theorem TO.lex{α β γ:Type}{c:α->α->Int}{d:β->β->Int}(hc:TO c)(hd:TO d)(f:γ->α)(g:γ->β)(hfg:∀x y,f x=f y->g x=g y->x=y):TO (fun x y=>if c (f x) (f y)≠0 then c (f x) (f y)else d (g x) (g y)) where
 rng:=fun x y=>by
  split
  ·exact hc.rng _ _
  ·exact hd.rng _ _
 eq:=fun x y=>by
  by_cases h:c (f x) (f y)=0
  ·rw[vag (by simp[h])]
   exact(hd.eq _ _).trans ⟨fun e=>hfg x y ((hc.eq _ _).1 h) e,fun e=>by rw[e]⟩
  ·rw[vaf h]
   exact⟨fun e=>absurd e h,fun e=>by rw[e];exact(hc.eq _ _).2 rfl⟩
 sym:=fun x y=>by
  rw[hc.sym (f x) (f y),hd.sym (g x) (g y)]
  by_cases h:c (f x) (f y)=0
  ·rw[vag (by omega),vag (by omega)]
  ·rw[vaf (by omega),vaf (by omega)]
 tr:=fun x y z h1 h2=>by
  by_cases a:c (f x) (f y)=0
  ·rw[vag (by omega)]at h1
   have e:=(hc.eq _ _).1 a
   rw[e]
   by_cases b:c (f y) (f z)=0
   ·rw[vag (by omega)]at h2 ⊢
    exact hd.tr _ _ _ h1 h2
   ·rw[vaf b]at h2 ⊢
    exact h2
  ·rw[vaf a]at h1
   by_cases b:c (f y) (f z)=0
   ·have e:=(hc.eq _ _).1 b
    rw[<-e,vaf a];exact h1
   ·rw[vaf b]at h2
    have:=hc.tr _ _ _ h1 h2
    rw[vaf (by omega)];exact this
def wG(a b:Int):Int:=if a<b then -1 else if a>b then 1 else 0
theorem uz:TO wG where
 rng:=fun x y=>by unfold wG;(repeat' split)<;>omega
 eq:=fun x y=>by unfold wG;(repeat' split)<;>omega
 sym:=fun x y=>by unfold wG;(repeat' split)<;>omega
 tr:=fun x y z=>by unfold wG;(repeat' split)<;>omega
def qz(a b:ah):Int:=if Op.bytesLess a b=true then -1 else if a=b then 0 else 1
theorem sn:TO qz where
 rng:=fun x y=>by unfold qz;(repeat' split)<;>simp
 eq:=fun x y=>by
  unfold qz
  split
  ·rename_i h
   refine⟨fun e=>by omega,fun e=>?_⟩
   subst e;rw[pH]at h;cases h
  ·split
   ·rename_i h;simp[h]
   ·rename_i h;simp[h]
 sym:=fun x y=>by
  unfold qz
  by_cases h1:Op.bytesLess x y=true
  ·have h2:¬Op.bytesLess y x=true:=fun h=>by
    have:=uy h1 h
    unfold Eu at this
    rw[pH]at this;cases this
   have h3:¬y=x:=fun e=>by subst e;rw[pH]at h1;cases h1
   rw[vaf h1,vag h2,vag h3];rfl
  ·by_cases h2:Op.bytesLess y x=true
   ·have h3:¬x=y:=fun e=>by subst e;exact h1 h2
    rw[vag h1,vaf h2,vag h3];
   ·have h3:=yx (by simpa using h1) (by simpa using h2)
    subst h3
    rw[vag h1,vaf rfl];rfl
 tr:=fun x y z h1 h2=>by
  have key:∀a b,qz a b<0->Op.bytesLess a b=true:=fun a b h=>by
   unfold qz at h
   split at h
   ·assumption
   ·split at h<;>omega
  have:=uy (key _ _ h1) (key _ _ h2)
  unfold qz
  rw[vaf this];decide
def wa(b:Bool):Int:=if b=true then 1 else 0
def y2(x y:ag):Int:=if wG x.To y.To≠0 then wG x.To y.To else wG (wa x.Strict) (wa y.Strict)
def j3(x y:ag):Int:=if wG x.From y.From≠0 then wG x.From y.From else y2 x y
theorem Du:TO (fun x y:Bool=>wG (wa x) (wa y)) where
 rng:=fun x y=>uz.rng _ _
 eq:=fun x y=>by cases x<;>cases y<;>decide
 sym:=fun x y=>uz.sym _ _
 tr:=fun x y z=>uz.tr _ _ _
theorem nM:TO j3:=by
 have h2:TO (fun p q:Int×Bool=>if wG p.1 q.1≠0 then wG p.1 q.1 else(fun x y:Bool=>wG (wa x) (wa y)) p.2 q.2):=TO.lex uz Du (fun p:Int×Bool=>p.1) (fun p=>p.2) (fun x y h1 h2=>Prod.ext h1 h2)
 have h3:=TO.lex (γ:=ag) uz h2 (fun x=>x.From) (fun x=>(x.To,x.Strict)) (fun x y h1 h2=>by
  obtain⟨a,b,c⟩:=x
  obtain⟨d,e,f⟩:=y
  simp only at h1 h2
  cases h1;cases h2;rfl)
 exact h3
def ey:List ag->List ag->Int
 |[],[]=>0
 |[],_::_=>-1
 |_::_,[]=>1
 |x::r,y::s=>if j3 x y≠0 then j3 x y else ey r s
theorem yF:∀x y,ey x y= -1\/ey x y=0\/ey x y=1
 |[],[]=>by simp[ey]
 |[],_::_=>by simp[ey]
 |_::_,[]=>by simp[ey]
 | x :: r,y :: s => by
  unfold ey
  split
  ·exact nM.rng _ _
  ·exact yF r s
theorem AC:∀x y,ey x y=0↔x=y
 |[],[]=>by simp[ey]
 |[],_::_=>by simp[ey]
 |_::_,[]=>by simp[ey]
 | x :: r,y :: s => by
  unfold ey
  by_cases h:j3 x y=0
  ·rw[vag (by omega),AC r s,(nM.eq x y).1 h];simp
  ·rw[vaf h]
   refine⟨fun e=>absurd e h,fun e=>?_⟩
   have:x=y:=by have:=(List.cons.inj e).1;exact this
   exact(nM.eq x y).2 this
theorem yG:∀x y,ey y x= - ey x y
 |[],[]=>by simp[ey]
 |[],_::_=>by simp[ey]
 |_::_,[]=>by simp[ey]
 | x :: r,y :: s => by
  unfold ey
  rw[nM.sym x y,yG r s]
  by_cases h:j3 x y=0
  ·rw[vag (by omega),vag (by omega)]
  ·rw[vaf (by omega),vaf (by omega)]
theorem AD:∀x y z,ey x y<0->ey y z<0->ey x z<0
 |[],[],_,h,_=>by simp[ey]at h
 |[],_::_,[],_,h=>by simp[ey]at h
 |[],_::_,_::_,_,_=>by simp[ey]
 |_::_,[],_,h,_=>by simp[ey]at h
 |_::_,_::_,[],_,h=>by simp[ey]at h
 | x :: r,y :: s,z :: t,h1,h2 => by
  unfold ey at h1 h2 ⊢
  by_cases a:j3 x y=0
  ·rw[vag (by omega)]at h1
   have e:=(nM.eq _ _).1 a
   rw[e]
   by_cases b:j3 y z=0
   ·rw[vag (by omega)]at h2 ⊢
    exact AD r s t h1 h2
   ·rw[vaf b]at h2 ⊢
    exact h2
  ·rw[vaf a]at h1
   by_cases b:j3 y z=0
   ·have e:=(nM.eq _ _).1 b
    rw[<-e,vaf a];exact h1
   ·rw[vaf b]at h2
    have:=nM.tr _ _ _ h1 h2
    rw[vaf (by omega)];exact this
theorem Dx:TO ey:=⟨yF,AC,yG,AD⟩
def yE(a b:aa):Int:=if qz a.Caller b.Caller≠0 then qz a.Caller b.Caller else if qz a.Callee b.Callee≠0 then qz a.Callee b.Callee else ey a.Arcs b.Arcs
theorem jx:TO yE:=by
 have h2:TO (fun p q:ah×List ag=>if qz p.1 q.1≠0 then qz p.1 q.1 else ey p.2 q.2):=TO.lex sn Dx (fun p:ah×List ag=>p.1) (fun p=>p.2) (fun x y h1 h2=>Prod.ext h1 h2)
 have h3:=TO.lex (γ:=aa) sn h2 (fun x=>x.Caller) (fun x=>(x.Callee,x.Arcs)) (fun x y h1 h2=>by
  obtain⟨a,b,c⟩:=x
  obtain⟨d,e,f⟩:=y
  simp only at h1 h2
  cases h1;cases h2;rfl)
 exact h3
theorem oI(a b:Int):fE a b=some (wG a b):=by
 unfold fE lI wG
 simp only[bne_self_eq_false,vaa,var,if_false,vae]
 (repeat' split)<;>rfl
theorem tb(a b:ah):jL a b=some (qz a b):=by
 unfold jL pI qz
 simp only[beq_self_eq_true,vbr,vaa,var,if_false]
 by_cases h1:Op.bytesLess a b=true
 ·rw[vaf h1,vaf h1]
 ·rw[vag h1,vag h1]
  by_cases h2:a=b
  ·rw[vag (by simp[h2]),vaf h2]
  ·rw[vaf (by simp[h1,h2]),vag h2]
def nz:List Int->Int
 |[]=>0
 |x::r=>if x≠0 then x else nz r
theorem DY(l:List Int)(hl:l.length<=1000):uB l=some (nz l):=by
 unfold uB
 have key:∀(r pre:List Int),l=pre++r->kz l (l.length:Int) (pre.length:Int)=some (if nz r≠0 then .inl (nz r)else .inr ()):=by
  intro r
  induction r with
  | nil =>
   intro pre h
   unfold kz
   rw[aG (x:=.inr ())]
   ·rfl
   ·unfold jN
    rw[vag (by rw[h];simp)]
  | cons x r ih =>
   intro pre h
   have hlt:pre.length<l.length:=by rw[h];simp
   unfold kz
   have hb:jN l (l.length:Int) (pre.length:Int)=(if(x !=0)=true then some (.inr (.inl x))else some (.inl (((pre++[x]).length:Nat):Int))):=by
    unfold jN
    rw[vaf (by simpa using hlt)]
    conv=>lhs;rw[h]
    rw[dR,vaa,dh (by omega) (by omega)]
    congr 3
    simp
   by_cases hx:x=0
   ·subst hx
    simp only[bne_self_eq_false,var,if_false]at hb
    rw[cz hb]
    have:=ih (pre++[0]) (by rw[h];simp)
    unfold kz at this
    rw[this]
    simp[nz]
   ·rw[vaf (by simpa using hx)]at hb
    rw[aG hb]
    simp[nz,hx]
 have:=key l [] rfl
 rw[show(([]:List Int).length:Int)=0 from rfl]at this
 rw[this,vaa]
 by_cases h:nz l=0
 ·simp[h]
 ·simp[h]
theorem Ci(b:Bool):gu b=some (wa b):=by unfold gu wa;split<;>rfl
theorem BG(x y:ag):fh x y=some (j3 x y):=by
 unfold fh
 rw[oI,vaa,oI,vaa,Ci,vaa,Ci,vaa,oI,vaa,DY _ (by simp),vaa]
 unfold j3 y2 nz
 simp only[nz]
 congr 1
 split
 ·rfl
 ·split
  ·rfl
  ·split
   ·rfl
   ·rename_i h;simpa using(Decidable.not_not.1 h).symm
theorem ud(s1 s2:List ag)(hl:s1.length<4611686018427387904):fi s1 s2=some (ey s1 s2):=by
 unfold fi
 have key:∀(r s p q:List ag),s1=p++r->s2=q++s->p.length=q.length->
   (bL s1 s2 (s1.length:Int) (p.length:Int)).bind (fun o9=>match o9 with|(.inl o9)=>some o9|(.inr o9)=>if(decide ((s1.length:Int)<(s2.length:Int)))=true then some (-1)else some 0)=some (ey r s):=by
  intro r
  induction r with
  | nil =>
   intro s p q h1 h2 h3
   unfold bL
   rw[aG (x:=.inr ())]
   ·rw[vaa]
    simp only
    cases s with
    |nil=>rw[vag (by rw[h1,h2];simp;omega)];rfl
    |cons y s=>rw[vaf (by rw[h1,h2];simp;omega)];rfl
   ·unfold bz
    rw[vag (by rw[h1];simp)]
  | cons x r ih =>
   intro s p q h1 h2 h3
   have hlt:p.length<s1.length:=by rw[h1];simp
   unfold bL
   cases s with
   | nil =>
    rw[aG (x:=.inl 1)]
    ·rfl
    ·unfold bz
     rw[vaf (by simpa using hlt)]
     conv=>lhs;rw[h1]
     rw[dR,vaa,vaf (by rw[h2];simp;omega)]
   | cons y s =>
    have hb:bz s1 s2 (s1.length:Int) (p.length:Int)=(if(j3 x y !=0)=true then some (.inr (.inl (j3 x y)))else some (.inl (((p++[x]).length:Nat):Int))):=by
     unfold bz
     rw[vaf (by simpa using hlt)]
     have e1:d9 s1 (p.length:Int)=some x:=by rw[h1];exact dR p x r
     have e2:d9 s2 (p.length:Int)=some y:=by rw[h2,h3];exact dR q y s
     rw[e1,vaa,vag (by rw[h2];simp;omega),e2,vaa,BG,vaa,dh (by omega) (by omega)]
     congr 3
     simp
    by_cases ho:j3 x y=0
    ·rw[vag (by simp[ho])]at hb
     rw[cz hb]
     have:=ih s (p++[x]) (q++[y]) (by rw[h1];simp) (by rw[h2];simp) (by simp[h3])
     unfold bL at this
     rw[this]
     have e:ey (x::r) (y::s)=if j3 x y≠0 then j3 x y else ey r s:=rfl
     rw[e,vag (by simp[ho])]
    ·rw[vaf (by simpa using ho)]at hb
     rw[aG hb]
     have e:ey (x::r) (y::s)=if j3 x y≠0 then j3 x y else ey r s:=rfl
     rw[e,vaf ho]
     rfl
 exact key s1 s2 [] [] rfl rfl rfl
theorem y3(a b:aa)(hl:a.Arcs.length<4611686018427387904):be a b=some (yE a b):=by
 unfold be
 rw[tb,vaa,tb,vaa,DY _ (by simp),vaa]
 unfold yE
 by_cases h1:qz a.Caller b.Caller=0
 ·by_cases h2:qz a.Callee b.Callee=0
  ·have e:nz [qz a.Caller b.Caller,qz a.Callee b.Callee]=0:=by simp[nz,h1,h2]
   simp only[e]
   rw[vag (by simp),ud _ _ hl]
   simp[h1,h2]
  ·have e:nz [qz a.Caller b.Caller,qz a.Callee b.Callee]=qz a.Callee b.Callee:=by simp[nz,h1,h2]
   simp only[e]
   rw[vaf (by simp[h2])];simp[h1,h2]
 ·have e:nz [qz a.Caller b.Caller,qz a.Callee b.Callee]=qz a.Caller b.Caller:=by simp[nz,h1]
  simp only[e]
  rw[vaf (by simp[h1])];simp[h1]
theorem Bz(x y:ag):(l7 x y=true->j3 x y= -1)/\(l7 y x=true->j3 x y=1)/\(l7 x y=false->l7 y x=false->x.From=y.From/\x.To=y.To):=by
 refine⟨fun h=>?_,fun h=>?_,fun h1 h2=>?_⟩
 ·unfold l7 at h
  simp only[vaH,vae,vac,vaD]at h
  unfold j3 y2 wG
  (repeat' split)<;>omega
 ·unfold l7 at h
  simp only[vaH,vae,vac,vaD]at h
  unfold j3 y2 wG
  (repeat' split)<;>omega
 ·unfold l7 at h1 h2
  simp only[vbv,va0,vcz,vaD]at h1 h2
  omega
theorem zY(x y:ag):oS x.From x.To x.Strict y.From y.To y.Strict=some (l7 x y||l7 y x):=by
 unfold oS
 simp only[nT,vaa]
 cases l7 x y<;>simp[nT]
theorem zZ(a b:aa)(hl:a.Arcs.length<4611686018427387904):(fY a b (a.Arcs.length:Int) 0).bind (fun o20=>match o20 with|(.inl o20)=>some o20|(.inr o20)=>some (decide ((a.Arcs.length:Int)<(b.Arcs.length:Int))))=some (decide (ey a.Arcs b.Arcs<0)):=by
 have key:∀(r s p q:List ag),a.Arcs=p++r->b.Arcs=q++s->p.length=q.length->
   (fY a b (a.Arcs.length:Int) (p.length:Int)).bind (fun o20=>match o20 with|(.inl o20)=>some o20|(.inr o20)=>some (decide ((a.Arcs.length:Int)<(b.Arcs.length:Int))))=some (decide (ey r s<0)):=by
  intro r
  induction r with
  | nil =>
   intro s p q h1 h2 h3
   unfold fY
   rw[aG (x:=.inr ())]
   ·rw[vaa]
    simp only
    cases s with
    |nil=>rw[h1,h2];simp[ey,h3]
    |cons y s=>rw[h1,h2];simp[ey,h3];omega
   ·unfold gU
    rw[vag (by rw[h1];simp)]
  | cons x r ih =>
   intro s p q h1 h2 h3
   have hlt:p.length<a.Arcs.length:=by rw[h1];simp
   unfold fY
   cases s with
   | nil =>
    rw[aG (x:=.inl false)]
    ·rfl
    ·unfold gU
     rw[vaf (by simpa using hlt),vaf (by rw[h2];simp;omega)]
   | cons y s =>
    have e:ey (x::r) (y::s)=if j3 x y≠0 then j3 x y else ey r s:=rfl
    have hb:gU a b (a.Arcs.length:Int) (p.length:Int)=(if(l7 x y||l7 y x)=true then some (.inr (.inl (l7 x y)))else if(!(x.Strict==y.Strict))=true then some (.inr (.inl (!x.Strict)))else some (.inl (((p++[x]).length:Nat):Int))):=by
     unfold gU
     have e1:d9 a.Arcs (p.length:Int)=some x:=by rw[h1];exact dR p x r
     have e2:d9 b.Arcs (p.length:Int)=some y:=by rw[h2,h3];exact dR q y s
     rw[vaf (by simpa using hlt),vag (by rw[h2];simp;omega),e1,vaa,e2,vaa,zY,vaa,nT,vaa,dh (by omega) (by omega)]
     congr 4
     simp
    obtain⟨k1,k2,k3⟩:=Bz x y
    cases hxy:l7 x y with
    |true=>
     rw[hxy]at hb
     rw[aG hb,e,k1 hxy]
     rfl
    | false =>
     cases hyx:l7 y x with
     |true=>
      rw[hxy,hyx]at hb
      rw[aG hb,e,k2 hyx]
      rfl
     | false =>
      rw[hxy,hyx]at hb
      obtain⟨h5,h6⟩:=k3 hxy hyx
      have ho:j3 x y=wG (wa x.Strict) (wa y.Strict):=by
       unfold j3 y2
       rw[h5,h6]
       simp[wG]
      cases hs:x.Strict<;>cases ht:y.Strict<;>simp only[hs,ht,Bool.or_self,var,if_false,beq_self_eq_true,vbr,vbM,show(false==true)=false from rfl,show(true==false)=false from rfl,if_true]at hb ho
      ·rw[cz hb,e,ho,vag (by decide)]
       have:=ih s (p++[x]) (q++[y]) (by rw[h1];simp) (by rw[h2];simp) (by simp[h3])
       unfold fY at this
       exact this
      ·rw[aG hb,e,ho];rfl
      ·rw[aG hb,e,ho];rfl
      ·rw[cz hb,e,ho,vag (by decide)]
       have:=ih s (p++[x]) (q++[y]) (by rw[h1];simp) (by rw[h2];simp) (by simp[h3])
       unfold fY at this
       exact this
 exact key a.Arcs b.Arcs [] [] rfl rfl rfl
theorem AP(a b:aa)(hl:a.Arcs.length<4611686018427387904):uq a b=some (decide (yE a b<0)):=by
 unfold uq yE
 by_cases h1:a.Caller=b.Caller
 ·have e1:qz b.Caller b.Caller=0:=(sn.eq _ _).2 rfl
  simp only[h1,beq_self_eq_true,vbr,var,if_false,e1,ne_eq,not_true_eq_false]
  by_cases h2:a.Callee=b.Callee
  ·have e2:qz b.Callee b.Callee=0:=(sn.eq _ _).2 rfl
   simp only[h2,beq_self_eq_true,vbr,var,if_false,e2,ne_eq,not_true_eq_false]
   exact zZ a b hl
  ·have e2:qz a.Callee b.Callee≠0:=fun e=>h2 ((sn.eq _ _).1 e)
   rw[vaf (by simp[h2]),vaf e2]
   congr 1
   unfold qz
   cases hb:Op.bytesLess a.Callee b.Callee<;>simp[h2]
 ·have e1:qz a.Caller b.Caller≠0:=fun e=>h1 ((sn.eq _ _).1 e)
  rw[vaf (by simp[h1]),vaf e1]
  congr 1
  unfold qz
  cases hb:Op.bytesLess a.Caller b.Caller<;>simp[h1]
def qJ(a b:aa):Bool:=decide (yE a b<0)
theorem kp:Cc qJ (fun _=>True) where
 irr:=fun x _=>by unfold qJ;rw[(jx.eq x x).2 rfl];rfl
 trans:=fun x y z _ _ _ h1 h2=>by unfold qJ at *;simp only[vae]at *;exact jx.tr _ _ _ h1 h2
 ntrans:=fun x y z _ _ _ h1 h2=>by
  unfold qJ at *
  simp only[va0]at *
  intro h3
  have a1:=jx.sym x y
  have a2:=jx.sym y z
  have a3:=jx.sym x z
  by_cases c1:yE x y=0
  ·rw[(jx.eq _ _).1 c1]at h3;exact h2 h3
  ·by_cases c2:yE y z=0
   ·rw[(jx.eq _ _).1 c2]at h1;exact h1 h3
   ·have:=jx.tr z y x (by omega) (by omega)
    omega
 tot:=fun x y _ _ h1 h2=>by
  unfold qJ at *
  simp only[va0]at *
  have a1:=jx.sym x y
  exact(jx.eq _ _).1 (by omega)
theorem BC{a b:aa}(hl:a.Arcs.length<4611686018427387904):yh be a b=qJ a b:=by
 unfold yh qJ
 rw[y3 a b hl]
theorem xY{l:List aa}(h:∀g∈l,g.Arcs.length<=40)(hl:l.length<=1000000):∃r,qr be l=some r/\r.Perm l/\my qJ r:=by
 have hlt:∀x∈l,∀y,yh be x y=qJ x y:=fun x hx y=>BC (by have:=h x hx;omega)
 have hok:Ff be l=true:=by
  unfold Ff
  simp only[vac,vae,van,vaM,vaH]
  refine⟨by unfold dF;omega,fun x hx y hy=>?_,fun x hx=>?_,fun x hx y hy z hz=>?_,fun x hx y hy=>?_⟩
  ·rw[y3 x y (by have:=h x hx;omega)];rfl
  ·rw[hlt x hx];exact kp.irr x trivial
  ·rw[hlt x hx,hlt x hx,hlt y hy]
   have t1:=kp.trans x y z trivial trivial trivial
   have t2:=kp.ntrans x y z trivial trivial trivial
   cases h1:qJ x y<;>cases h2:qJ y z<;>cases h3:qJ x z<;>simp_all
  ·rw[hlt x hx,hlt y hy]
   have t:=kp.tot x y trivial trivial
   cases h1:qJ x y<;>cases h2:qJ y x<;>simp_all
 refine⟨pd (yh be) l,by unfold qr;rw[vaf hok],ip _ l,?_⟩
 obtain⟨_,_,ho⟩:=vd hok
 have hs:=ma ho (l:=l) fun y hy=>hy
 refine List.Pairwise.imp_of_mem ?_ hs
 intro a b ha hb hab
 rw[hlt b ((ip _ l).mem_iff.1 hb)]at hab
 exact hab
theorem ji:gC=some true:=by kernel_rfl
theorem EE(n:Int)(l:List aa)(hl:l.length<4611686018427387904):tU n l=some (l.all (fun g=>decide (g.Arcs.length<=40))&&decide ((l.length:Int)<=n)):=by
 unfold tU qv
 rw[mC l (by omega) (fun zz=>nv l (l.length:Int) zz) (fun i x2=>if(decide ((x2.Arcs.length:Int)>40))=true then some (.inr (.inl ()))else some (.inl (bN (i+1)))) (fun g=>decide ((g.Arcs.length:Int)>40)) (.inl ()) (.inr ()) (fun i=>rfl) (fun x hx i=>by split<;>simp_all),vaa]
 have:l.any (fun g=>decide ((g.Arcs.length:Int)>40))= !l.all (fun g=>decide (g.Arcs.length<=40)):=by
  rw[List.not_all_eq_any_not]
  congr 1
  funext g
  rw[vby];simp;omega
 rw[this]
 cases l.all (fun g=>decide (g.Arcs.length<=40))<;>simp
theorem Cz{n:Int}{l:List aa}(h:(l.all (fun g=>decide (g.Arcs.length<=40))&&decide ((l.length:Int)<=n))=true):(∀g∈l,g.Arcs.length<=40)/\(l.length:Int)<=n:=by
 simp only[vac,van,vae]at h
 exact h
theorem uH:∀(s:ah) (c:UInt8),c∈s->c=46\/∃p∈fk s,c∈p
 |[],c,h=>by cases h
 | d :: r,c,h => by
  unfold fk
  by_cases hd:(d==46)=true
  ·rw[vaf hd]
   rcases vay.1 h with rfl|h
   ·exact .inl (by simpa using hd)
   ·rcases uH r c h with h|⟨p,hp,hc⟩
    ·exact .inl h
    ·exact .inr ⟨p,by simp[hp],hc⟩
  ·rw [vag hd]
   cases hr:fk r with
   |nil=>exact absurd hr (lJ r)
   | cons a t =>
    simp only
    rcases vay.1 h with rfl|h
    ·exact .inr ⟨c::a,by simp,by simp⟩
    ·rcases uH r c h with h|⟨p,hp,hc⟩
     ·exact .inl h
     ·rw[hr]at hp
      rcases vay.1 hp with rfl|hp
      ·exact .inr ⟨d::p,by simp,by simp[hc]⟩
      ·exact .inr ⟨p,by simp[hp],hc⟩
def Gj(c:UInt8):Prop:=c≠32/\c≠58
theorem A4{c:UInt8}(h:e8 c=true):Gj c:=by
 refine⟨fun e=>?_,fun e=>?_⟩<;>subst e<;>revert h<;>decide
theorem yq{c:UInt8}(h:dE c=true):Gj c:=by
 refine⟨fun e=>?_,fun e=>?_⟩<;>subst e<;>revert h<;>decide
theorem nB{s:ah}(h:dq s=true):∀c∈s,Gj c:=fun c hc=>by
 unfold dq at h
 rw[vac]at h
 have h2:=h.2
 rcases uH s c hc with rfl|⟨p,hp,hcp⟩
 ·exact⟨by decide,by decide⟩
 ·cases hd:fk s with
  |nil=>exact absurd hd (lJ s)
  | cons f r =>
   rw[hd]at h2 hp
   simp only[vac]at h2
   have hpart:∀q,gd q=true->c∈q->Gj c:=fun q hq hcq=>by
    unfold gd zw at hq
    simp only[vac,vaH]at hq
    rcases hq.2 with h|h
    ·exact yq (van.1 h c hcq)
    ·exact A4 (van.1 h.2 c hcq)
   rcases vay.1 hp with rfl|hp
   ·have h3:=h2.1
    simp only[vaH,vac,vaD]at h3
    rcases h3 with(h3|h3)|h3
    ·unfold iP at h3
     simp only[vac]at h3
     exact A4 (van.1 h3.2 c hcp)
    ·unfold fR at h3
     simp only[vac]at h3
     exact yq (van.1 h3.1.1.1.1.2 c hcp)
    ·rw[h3.1]at hcp
     rw[vaW.1 hcp]
     exact⟨by decide,by decide⟩
   ·exact hpart p (van.1 h2.2 p hp) hcp
theorem yI{s:ah}(h:dq s=true):s.length<=120:=by
 unfold dq at h
 rw[vac]at h
 simpa using h.1
def dg(n:Int):UInt8:=UInt8.ofNat (48+n.toNat)
def EV(b:Bool):ah:=if b=true then[32,62,32]else[32,62,61,32]
def we(x:ag):ah:=([32]++[dg x.From]++EV x.Strict)++[dg x.To]
def eL:Nat->List ag->ah
 |_,[]=>[]
 |i,x::r=>((if i>0 then[44]else[])++we x)++eL (i+1) r
def Ea(g:aa):ah:=(((g.Caller++[32,45,62,32])++g.Callee)++[58])++eL 0 g.Arcs
theorem GO{n:Int}(h0:0<=n)(h1:n<6):n=0\/n=1\/n=2\/n=3\/n=4\/n=5:=by omega
theorem D4{n:Int}(h0:0<=n)(h1:n<6):AN n=some [dg n]:=by
 rcases GO h0 h1 with rfl|rfl|rfl|rfl|rfl|rfl<;>kernel_rfl
theorem Cx(x:ag):(we x).length<=7:=by unfold we EV;split<;>simp
theorem EY(b:Bool):fg b=some (EV b):=by unfold fg EV;split<;>rfl
theorem uS(g:aa)(h:wP g.Arcs):∀(r pre:List ag) (s:ah),g.Arcs=pre++r->s.length<=1000+8 * pre.length->cV g.Arcs (g.Arcs.length:Int) s (pre.length:Int)=some (s++eL pre.length r)
 | [],pre,s,hg,hs => by
  unfold cV
  rw[aG (x:=s)]
  ·simp[eL]
  ·unfold df
   rw[vag (by rw[hg];simp)]
 | x :: r,pre,s,hg,hs => by
  have hl:=gH h
  have hlt:pre.length<g.Arcs.length:=by rw[hg];simp
  obtain⟨a,b,c,d⟩:=h.1 x (by rw[hg];simp)
  have hJ2:ff s (pre.length:Int)=some (s++(if pre.length>0 then[44]else[])):=by
   unfold ff
   by_cases hp:pre.length>0
   ·rw[vaf (by simpa using hp),oX (by simp;omega),vaf hp];rfl
   ·rw[vag (by simpa using hp),vag hp];simp
  have hpl:(if pre.length>0 then([44]:ah)else[]).length<=1:=by split<;>simp
  have hsg:(EV x.Strict).length<=4:=by unfold EV;split<;>simp
  have he:=Cx x
  have hb:df g.Arcs (g.Arcs.length:Int) s (pre.length:Int)=some (.inl ((s++(if pre.length>0 then[44]else[]))++we x,(((pre++[x]).length:Nat):Int))):=by
   unfold df
   have hi:d9 g.Arcs (pre.length:Int)=some x:=by rw[hg];exact dR pre x r
   rw[vaf (by simpa using hlt),hi,vaa,hJ2,vaa,EY,vaa,D4 a b,vaa,oX (by simp),vaa,oX (by simp;omega),vaa,D4 c d,vaa,
    oX (by simp;omega),vaa,oX (by simp at hpl ⊢;omega),vaa,dh (by omega) (by omega)]
   congr 3
   simp
  unfold cV
  rw[cz hb]
  have:=uS g h r (pre++[x]) ((s++(if pre.length>0 then[44]else[]))++we x) (by rw[hg];simp) (by simp only[vaP,List.length_singleton]at *;omega)
  unfold cV at this
  rw[this]
  simp[eL,vbs]
theorem Dn{g:aa}(h:od g):fC g=some (Ea g):=by
 have h1:=yI h.caller
 have h2:=yI h.callee
 unfold fC
 rw[oX (by simp;omega),vaa,oX (by simp;omega),vaa,oX (by simp;omega),vaa]
 have:=uS g h.arcs g.Arcs [] (((g.Caller++[32,45,62,32])++g.Callee)++[58]) rfl (by simp;omega)
 rw[show(([]:List ag).length:Int)=0 from rfl]at this
 rw[this]
 rfl
theorem zL{c:UInt8}:∀{A B X Y:ah},(∀x∈A,x≠c)->(∀x∈B,x≠c)->A++c::X=B++c::Y->A=B/\X=Y
 |[],[],X,Y,_,_,h=>by simpa using h
 |[],b::B,X,Y,_,hB,h=>by
  simp at h
  exact absurd h.1.symm (hB b (by simp))
 |a::A,[],X,Y,hA,_,h=>by
  simp at h
  exact absurd h.1 (hA a (by simp))
 |a::A,b::B,X,Y,hA,hB,h=>by
  simp at h
  obtain⟨h1,h2⟩:=zL (fun x hx=>hA x (by simp[hx])) (fun x hx=>hB x (by simp[hx])) h.2
  exact⟨by rw[h.1,h1],h2⟩
theorem xj{a b:Int}(h0:0<=a)(h1:a<6)(h2:0<=b)(h3:b<6)(h:dg a=dg b):a=b:=by
 rcases GO h0 h1 with rfl|rfl|rfl|rfl|rfl|rfl<;>rcases GO h2 h3 with rfl|rfl|rfl|rfl|rfl|rfl<;>first|rfl|(revert h;decide)
theorem Cw{x y:ag}(hx:rg x)(hy:rg y){R S:ah}(h:we x++R=we y++S):x=y/\R=S:=by
 obtain⟨a,b,c,d⟩:=hx
 obtain⟨a',b',c',d'⟩:=hy
 obtain⟨xf,xt,xs⟩:=x
 obtain⟨yf,yt,ys⟩:=y
 unfold we EV at h
 simp only at *
 cases xs<;>cases ys<;>simp at h
 ·obtain⟨h1,h2,h3⟩:=h
  rw[xj a b a' b' h1,xj c d c' d' h2]
  exact⟨rfl,h3⟩
 ·obtain⟨h1,h2,h3⟩:=h
  rw[xj a b a' b' h1,xj c d c' d' h2]
  exact⟨rfl,h3⟩
theorem Cv:∀{l m:List ag} {i:Nat},(∀x∈l,rg x)->(∀x∈m,rg x)->eL i l=eL i m->l=m
 |[],[],_,_,_,_=>rfl
 |[],y::m,i,_,_,h=>by
  unfold eL at h
  have:=vbk List.length h
  simp[we]at this
 |x::l,[],i,_,_,h=>by
  unfold eL at h
  have:=vbk List.length h
  simp[we]at this
 |x::l,y::m,i,hl,hm,h=>by
  unfold eL at h
  rw[vbs,vbs]at h
  have h2:=List.append_cancel_left h
  obtain⟨h3,h4⟩:=Cw (hl x (by simp)) (hm y (by simp)) h2
  rw[h3,Cv (fun z hz=>hl z (by simp[hz])) (fun z hz=>hm z (by simp[hz])) h4]
theorem DT{g h:aa}(hg:od g)(hh:od h)(e:Ea g=Ea h):g=h:=by
 unfold Ea at e
 obtain⟨g1,g2,g3⟩:=g
 obtain⟨k1,k2,k3⟩:=h
 have e2:g1++32::(45::62::32::(g2++58::eL 0 g3))=k1++32::(45::62::32::(k2++58::eL 0 k3)):=by simpa using e
 obtain⟨h1,h2⟩:=zL (fun x hx=>(nB hg.caller x hx).1) (fun x hx=>(nB hh.caller x hx).1) e2
 simp only[vbG,vb8]at h2
 obtain⟨h3,h4⟩:=zL (fun x hx=>(nB hg.callee x hx).2) (fun x hx=>(nB hh.callee x hx).2) h2
 have h5:=Cv hg.arcs.1 hh.arcs.1 h4
 simp only at h1 h3 h5
 subst h1;subst h3;subst h5;rfl
end Go.Proofs.YtoficachfgggjaaDoor
