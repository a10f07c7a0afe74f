/- PROVED: a part of the proof. Conditions: none. -/
import Derived.Test.YtkdahfeiedaahaaGreatDoorPkR19
import Derived.Test.YtkdahfeiedaahaaGreatDoorPkR16
import Derived.Test.YtkdahfeiedaahaaGreatDoorPkR18
import Derived.Test.YtkdahfeiedaahaaGreatDoorPkR11
import Derived.Shelf.SlicesE.DeleteFunc
import Derived.Shelf.SlicesE.Index
set_option linter.unusedSimpArgs false
set_option linter.unusedVariables false
noncomputable section
namespace Go.Proofs.YtkdahfeiedaahaaGreatDoor
open Go
set_option linter.unusedVariables false
set_option linter.unusedSimpArgs false
def Pb(y n o s:ai):ai:=if((s==y)&&!(n==y))=true then o else s
def dP(n y s:ai):ai:=if(s==n)=true then y else s
def gb(y n o:ai):Mu:=λs u=>(Pb y n o s,u)
theorem qcb(y n o s:ai)(u:List ai):(gb y n o s u).2.length<=u.length+1:=by simp[gb]
theorem Ue(s n y:ai):ol s n y=some (dP n y s):=by
 unfold ol dP
 split<;>rfl
theorem Nx(s:ai)(a:List af)(y n o:ai):kX s a y n o=some (Pb y n o s):=by
 unfold kX om Pb
 cases h:(s==y)with
 |false=>simp
 |true=>
  simp only[if_true,vaa,vcl]
  split<;>rfl
section
variable{y n o:ai}
theorem RU:∀(l:List ai) (sc:List af) (u:List ai),(gf (gb y n o) l sc u).2.2=u
 |[],sc,u=>rfl
 |s::l,sc,u=>by rw[gf];exact RU l _ _
theorem ZS{fe:ai->ai}(k:Int)(m:ai)(sc:List af)(u:List ai):(kQ fe (gb y n o) k m sc u).2.2=u:=by
 unfold kQ
 split
 ·rfl
 ·split<;>rfl
theorem VW(t:Bool)(ps:List am)(sc:List af)(u:List ai):(lz (gb y n o) t ps sc u).2.2=u:=by
 unfold lz
 split
 ·exact RU ..
 ·rfl
theorem VS{fe:ai->ai}(e:ag)(sc:List af)(u:List ai):(xt fe (gb y n o) e sc u).2=u:=
 VP (I:=λv=>v=u) (λs v h=>h) e sc u rfl
theorem RW{fe:ai->ai}(l:List ag)(s0 s1:List af)(u:List ai):(vQ fe (gb y n o) l s0 s1 u).2=u:=
 VT (I:=λv=>v=u) (λs v h=>h) l s0 s1 u rfl
theorem ZQ{fe:ai->ai}(l:List az)(sc:List af)(u:List ai):(ws fe (gb y n o) l sc u).2=u:=
 VM (I:=λv=>v=u) (λs v h=>h) l sc u rfl
theorem KX(s:ai)(a sc:List af)(c4 c5:ai)(hc:sc.length<=100000000):cp s a y n o c4 c5 sc=some (Pb y n o s,sc++[⟨s,Pb y n o s⟩]):=by
 unfold cp
 rw[Nx,vaa,b9 (by simp;omega),vaa]
theorem RZ(p:am)(t:Bool)(c sc:List af)(c4 c5:ai)(hc:sc.length<=100000000)(ht:Ni p.Type_):bQ p t c y n o c4 c5 sc=some ((Jo (gb y n o) t p sc []).1,(Jo (gb y n o) t p sc []).2.1):=by
 unfold bQ ck Jo
 cases t with
 |false=>
  simp only[vaD,if_false,vaa]
  rw[rq _ ht,vaa]
 |true=>
  simp only[if_true]
  rw[KX _ _ _ _ _ hc]
  simp only[vaa]
  rw[rq _ ht,vaa]
  rfl
theorem Up(l:List am)(t:Bool)(c sc:List af)(c4 c5:ai)(hl:l.length<=100000000)(hc:sc.length+l.length<=100000000)(hs:∀p∈l,Ni p.Type_):bF l t c y n o c4 c5 sc=some ((lz (gb y n o) t l sc []).1,(lz (gb y n o) t l sc []).2.1):=by
 unfold bF cW
 have g:=cZ l.length (λ(zz:(List am)×Int×(List af))=>aG t l (l.length:Int) c y n o c4 c5 zz.1 zz.2.1 zz.2.2) (λi=>((lz (gb y n o) t (l.take i) sc []).1,(i:Int),(lz (gb y n o) t (l.take i) sc []).2.1)) ((lz (gb y n o) t l sc []).1,(lz (gb y n o) t l sc []).2.1) (λi hi=>?_) ?_
 ·simp only[List.take_zero,Tg]at g
  rw[show((0:Nat):Int)=0 from rfl]at g
  rw[g,vaa]
 ·have hm:=vaC hi
  have hsl:=EY (fr:=gb y n o) t (l.take i) sc []
  have hpl:=O1 (fr:=gb y n o) t (l.take i) sc []
  have hu:=VW (y:=y) (n:=n) (o:=o) t (l.take i) sc []
  rw[vaQ]at hsl hpl
  show aG t l (l.length:Int) c y n o c4 c5 (lz (gb y n o) t (l.take i) sc []).1 (i:Int) (lz (gb y n o) t (l.take i) sc []).2.1=_
  unfold aG
  rw[vah (by simpa using hi),bE _ _ hi,vaa,RZ _ _ _ _ _ _ (by omega) (hs _ hm)]
  simp only[vaa]
  rw[b9 (by simp only[vau,List.length_nil];omega),vaa,bR (by omega) (by omega),Qr _ _ _ _ hi,hu]
  rfl
 ·show aG t l (l.length:Int) c y n o c4 c5 _ (l.length:Int) _=_
  unfold aG
  rw[van (by simp),vaG]
theorem WL(e:ag)(ts:List al)(sc:List af)(c4 c5:ai)(hc:sc.length<=100000000):cP sc y n o c4 c5 e.Op e.Name e.N e.Kids e.Params e.Alts ts sc=some ((kQ (dP c4 c5) (gb y n o) e.Op e.Name sc []).1,(kQ (dP c4 c5) (gb y n o) e.Op e.Name sc []).2.1):=by
 unfold cP kQ
 rw[vC,vaa,show mV ⟨e.Op,e.Name,e.N,e.Kids,e.Params,e.Alts,ts⟩=(e.Op==3||e.Op==5)from rfl]
 by_cases h3:(e.Op==3||e.Op==5)=true
 ·rw[vah h3,vah h3,Tu _ _ (by omega),vaa]
  cases kT sc e.Name with
  |none=>
   simp only[Option.isSome_none,vaD,if_false]
   rw[Ue]
   rfl
  |some s=>simp only[Option.isSome_some,if_true];rfl
 ·rw[van h3,van h3]
  by_cases h7:(e.Op==7)=true
  ·rw[vah h7,vah h7,KX _ _ _ _ _ hc]
   rfl
  ·rw[van h7,van h7]
theorem VH(ns:List ai)(sc:List af)(hl:ns.length<=100000000)(hc:sc.length+ns.length<=100000000):dt sc ns (ns.length:Int) y n o sc [] 0=some ((gf (gb y n o) ns sc []).2.1,(gf (gb y n o) ns sc []).1):=by
 unfold dt
 have g:=cZ ns.length (λ(zz:(List af)×(List ai)×Int)=>aZ sc ns (ns.length:Int) y n o zz.1 zz.2.1 zz.2.2) (λi=>((gf (gb y n o) (ns.take i) sc []).2.1,(gf (gb y n o) (ns.take i) sc []).1,(i:Int))) ((gf (gb y n o) ns sc []).2.1,(gf (gb y n o) ns sc []).1) (λi hi=>?_) ?_
 ·simpa[gf]using g
 ·have hsl:=Af (fr:=gb y n o) (ns.take i) sc []
  have hpl:=Bv (fr:=gb y n o) (ns.take i) sc []
  rw[vaQ]at hsl hpl
  show aZ sc ns (ns.length:Int) y n o (gf (gb y n o) (ns.take i) sc []).2.1 (gf (gb y n o) (ns.take i) sc []).1 (i:Int)=_
  unfold aZ
  rw[vah (by simpa using hi),bE _ _ hi,vaa,Nx]
  simp only[vaa]
  rw[b9 (by simp only[vau,List.length_nil];omega),vaa,b9 (by simp only[vau,List.length_nil];omega),vaa,bR (by omega) (by omega),Qp _ _ _ hi]
  rfl
 ·show aZ sc ns (ns.length:Int) y n o _ _ (ns.length:Int)=_
  unfold aZ
  rw[van (by simp),vaG]
theorem VJ{c4 c5:ai}{R:ai->ai->ai->ai->ai->ag->List af->Option ag}(a:az)(sc:List af)(hl:a.Names.length<=100000000)(hc:sc.length+a.Names.length<=100000000)
  (hR:R y n o c4 c5 a.Body (gf (gb y n o) a.Names sc []).2.1=some (xt (dP c4 c5) (gb y n o) a.Body (gf (gb y n o) a.Names sc []).2.1 []).1):
  cq R a sc y n o c4 c5=some (KT (dP c4 c5) (gb y n o) a sc []).1:=by
 unfold cq
 rw[pk _ (by omega),vaa,VH _ _ hl hc]
 simp only[vaa]
 rw[hR]
 simp only[vaa]
 rw[VX,RU]
theorem Ww{c4 c5:ai}{R:ai->ai->ai->ai->ai->ag->List af->Option ag}(ks:List ag)(k:Int)(sc S1:List af)(hk:ks.length<=100000000)
  (hR:∀x∈ks,∀(s:List af),s=sc\/s=S1->R y n o c4 c5 x s=some (xt (dP c4 c5) (gb y n o) x s []).1):
  dO R sc ks (ks.length:Int) y n o c4 c5 k S1 [] 0=some (vQ (dP c4 c5) (gb y n o) ks (if(k==7)=true then sc else S1) S1 []).1:=by
 generalize hS0:(if(k==7)=true then sc else S1)=S0
 have h7:(k==7)=true->S0=sc:=λh=>by rw[<-hS0,vah h]
 have h6:¬(k==7)=true->S0=S1:=λh=>by rw[<-hS0,van h]
 unfold dO
 have g:=cZ ks.length (λ(zz:(List ag)×Int)=>bh R sc ks (ks.length:Int) y n o c4 c5 k S1 zz.1 zz.2) (λi=>((vQ (dP c4 c5) (gb y n o) (ks.take i) S0 S1 []).1,(i:Int))) (vQ (dP c4 c5) (gb y n o) ks S0 S1 []).1 (λi hi=>?_) ?_
 ·simp only[List.take_zero,pH]at g
  rw[show((0:Nat):Int)=0 from rfl]at g
  exact g
 ·have t3:=RW (fe:=dP c4 c5) (y:=y) (n:=n) (o:=o) (ks.take i) S0 S1 []
  have t4:=OZ (fe:=dP c4 c5) (fr:=gb y n o) (ks.take i) S0 S1 []
  have t5:=KR (dP c4 c5) (gb y n o) ks i hi S0 S1 []
  have hm:=vaC hi
  rw[vaQ]at t4
  show bh R sc ks (ks.length:Int) y n o c4 c5 k S1 (vQ (dP c4 c5) (gb y n o) (ks.take i) S0 S1 []).1 (i:Int)=some (.inl ((vQ (dP c4 c5) (gb y n o) (ks.take (i+1)) S0 S1 []).1,((i+1:Nat):Int)))
  rw[t5,t3]
  generalize vQ (dP c4 c5) (gb y n o) (ks.take i) S0 S1 []=K at t4
  unfold bh dN
  rw[vah (by simpa using hi),bE _ _ hi,vaa]
  by_cases ho:(k==7)=true
  ·rw[vah ho,vaa]
   cases i with
   |zero=>
    rw[vah (by decide),van (by decide),h7 ho,hR _ hm sc (.inl rfl)]
    simp only[vaa]
    rw[b9 (by simp only[vau,List.length_nil];omega),vaa,bR (by omega) (by omega)]
    rfl
   |succ j=>
    rw[van (by simp;omega),vah (Nat.succ_pos j),hR _ hm S1 (.inr rfl)]
    simp only[vaa]
    rw[b9 (by simp only[vau,List.length_nil];omega),vaa,bR (by omega) (by omega)]
    rfl
  ·rw[van ho,vaa,van (by decide),h6 ho,ite_self,hR _ hm S1 (.inr rfl)]
   simp only[vaa]
   rw[b9 (by simp only[vau,List.length_nil];omega),vaa,bR (by omega) (by omega)]
   rfl
 ·show bh R sc ks (ks.length:Int) y n o c4 c5 k S1 _ (ks.length:Int)=_
  unfold bh
  rw[van (by simp),vaG]
theorem VL{c4 c5:ai}{R:ai->ai->ai->ai->ai->ag->List af->Option ag}(as1:List az)(sc:List af)(hk:as1.length<=100000000)
  (hR:∀x∈as1,cq R x sc y n o c4 c5=some (KT (dP c4 c5) (gb y n o) x sc []).1):
  cx R as1 sc y n o c4 c5=some (ws (dP c4 c5) (gb y n o) as1 sc []).1:=by
 unfold cx ei
 have g:=cZ as1.length (λ(zz:(List az)×Int)=>aQ R sc as1 (as1.length:Int) y n o c4 c5 zz.1 zz.2) (λi=>((ws (dP c4 c5) (gb y n o) (as1.take i) sc []).1,(i:Int))) (ws (dP c4 c5) (gb y n o) as1 sc []).1 (λi hi=>?_) ?_
 ·simp only[List.take_zero,pG]at g
  rw[show((0:Nat):Int)=0 from rfl]at g
  rw[g,vaa]
 ·have t3:=ZQ (fe:=dP c4 c5) (y:=y) (n:=n) (o:=o) (as1.take i) sc []
  have t4:=OQ (fe:=dP c4 c5) (fr:=gb y n o) (as1.take i) sc []
  have t5:=KQ (dP c4 c5) (gb y n o) as1 i hi sc []
  rw[vaQ]at t4
  show aQ R sc as1 (as1.length:Int) y n o c4 c5 (ws (dP c4 c5) (gb y n o) (as1.take i) sc []).1 (i:Int)=some (.inl ((ws (dP c4 c5) (gb y n o) (as1.take (i+1)) sc []).1,((i+1:Nat):Int)))
  rw[t5,t3]
  generalize ws (dP c4 c5) (gb y n o) (as1.take i) sc []=K at t4
  unfold aQ
  rw[vah (by simpa using hi),bE _ _ hi,vaa,hR _ (vaC hi)]
  simp only[vaa]
  rw[b9 (by simp only[vau,List.length_nil];omega),vaa,bR (by omega) (by omega)]
  rfl
 ·show aQ R sc as1 (as1.length:Int) y n o c4 c5 _ (as1.length:Int)=_
  unfold aQ
  rw[van (by simp),vaG]
end
theorem Y3(y n o c4 c5:ai)(e:ag)(sc:List af)(he:Ca e)(hn:nE e<=100000000)(hc:sc.length+nE e<=100000000):ed y n o c4 c5 e sc=some (xt (dP c4 c5) (gb y n o) e sc []).1:=by
 refine nF (F:=dU) (λx=>nE x.2.2.2.2.2.1) (λx=>x.1=y/\x.2.1=n/\x.2.2.1=o/\x.2.2.2.1=c4/\x.2.2.2.2.1=c5/\Ca x.2.2.2.2.2.1/\nE x.2.2.2.2.2.1<=100000000/\x.2.2.2.2.2.2.length+nE x.2.2.2.2.2.1<=100000000) (λx=>(xt (dP c4 c5) (gb y n o) x.2.2.2.2.2.1 x.2.2.2.2.2.2 []).1) (λR x hx ih=>?_) (y,n,o,c4,c5,e,sc) ⟨rfl,rfl,rfl,rfl,rfl,he,hn,hc⟩ (mL (C8 he))
 obtain⟨y',n',o',c4',c5',e,sc⟩:=x
 obtain⟨h1,h2,h3,h4,h5,he,hne,hc⟩:=hx
 simp only[]at h1 h2 h3 h4 h5 he hne hc ih ⊢
 subst h1 h2 h3 h4 h5
 have hn:=uM e
 have lk:=rB e.Kids
 have la:=rA e.Alts
 have hR:∀(x:ag) (s:List af),nE x<nE e->Ca x->s.length+nE x<=100000000->R (y',n',o',c4',c5',x,s)=some (xt (dP c4' c5') (gb y' n' o') x s []).1:=λx s h1 h2 h3=>ih (y',n',o',c4',c5',x,s) h1 ⟨rfl,rfl,rfl,rfl,rfl,h2,by show nE x<=_;omega,h3⟩
 show cT (λc c2 c3 c4 c5 e scope=>R (c,c2,c3,c4,c5,e,scope)) y' n' o' c4' c5' e sc=some (xt (dP c4' c5') (gb y' n' o') e sc []).1
 have hNs:=Qq (fe:=dP c4' c5') (fr:=gb y' n' o') e.Op e.Name sc []
 have hPs:=EY (fr:=gb y' n' o') (e.Op==6) e.Params (kQ (dP c4' c5') (gb y' n' o') e.Op e.Name sc []).2.1 []
 unfold cT
 rw[Ok he,vaa,pk _ (by omega),vaa,WL _ _ _ _ _ (by omega)]
 simp only[vaa]
 rw[Up _ _ _ _ _ _ (by omega) (by omega) (λp hp=>BL he hp)]
 simp only[vaa]
 rw[Ww (R:=λc c2 c3 c4 c5 e scope=>R (c,c2,c3,c4,c5,e,scope)) e.Kids e.Op sc (lz (gb y' n' o') (e.Op==6) e.Params (kQ (dP c4' c5') (gb y' n' o') e.Op e.Name sc []).2.1 []).2.1 (by omega) (λx hm s hs=>by
  have t1:=Fi hm
  refine hR _ _ (ye hm) (JW he hm) ?_
  rcases hs with rfl|rfl<;>omega)]
 simp only[vaa]
 rw[VL (R:=λc c2 c3 c4 c5 e scope=>R (c,c2,c3,c4,c5,e,scope)) e.Alts sc (by omega) (λx hm=>by
  have t1:=uL hm
  have t5:=Il x
  have t7:=Af (fr:=gb y' n' o') x.Names sc []
  exact VJ _ _ (by omega) (by omega) (hR _ _ (xY hm) (BK he hm) (by omega)))]
 simp only[vaa]
 have hN0:=ZS (fe:=dP c4' c5') (y:=y') (n:=n') (o:=o') e.Op e.Name sc []
 have hH:uA (dP c4' c5') (gb y' n' o') e.Op e.Name e.Params sc []=lz (gb y' n' o') (e.Op==6) e.Params (kQ (dP c4' c5') (gb y' n' o') e.Op e.Name sc []).2.1 []:=by
  show lz _ _ _ _ (kQ (dP c4' c5') (gb y' n' o') e.Op e.Name sc []).2.2=_
  rw[hN0]
 have hu0:(uA (dP c4' c5') (gb y' n' o') e.Op e.Name e.Params sc []).2.2=[]:=by rw[hH,VW]
 have hC:ND (dP c4' c5') (gb y' n' o') e.Op e.Name e.Params e.Kids sc []=vQ (dP c4' c5') (gb y' n' o') e.Kids (if(e.Op==7)=true then sc else(uA (dP c4' c5') (gb y' n' o') e.Op e.Name e.Params sc []).2.1) (uA (dP c4' c5') (gb y' n' o') e.Op e.Name e.Params sc []).2.1 []:=by
  show vQ _ _ _ _ _ (uA (dP c4' c5') (gb y' n' o') e.Op e.Name e.Params sc []).2.2=_
  rw[hu0]
 rw[VQ,hC,hH,RW]
def Js(e:ag)(y:ai):ai:=iS (D3 (oI e)++[y]) y
def Vd(e:ag)(n y:ai):ag:=(xt (dP n y) (gb y n (Js e y)) e [] []).1
theorem VA(e:ag)(n y:ai)(he:Ca e)(hn:nE e<=50000000)(hy:y.length<=1073741824):oh e n y=some (Vd e n y):=by
 have h1:=wX (oI e)
 have h2:(oI e).length<=nE e:=sH e
 have h3:(D3 (oI e)++[y]).length<=100000000:=by simp;omega
 unfold oh
 rw[ZO e he,vaa,b9 (by simp;omega),vaa,(vZ _ y h3 (by omega)).1,vaa,mU h3,Y3 _ _ _ _ _ e [] he (by omega) (by simp;omega)]
 rfl
theorem W1(e:ag)(y:ai):Js e y∉oI e/\Js e y≠y:=by
 have h:=Sq (D3 (oI e)++[y]) y
 unfold Js
 constructor
 ·intro hc
  exact h (vaw.2 (.inl (((D4 (oI e)).2 _).2 hc)))
 ·intro hc
  exact h (vaw.2 (.inr (by rw[hc];simp)))
set_option linter.unusedSectionVars false
def Hs(y z:ai)(sc:List af):Prop:=∀p∈sc,p.new=Bx y z p.old
def bO(y:ai)(sc:List af):Bool:=sc.any λp=>p.old==y
def bN(n:ai)(sc:List af):Bool:=sc.any λp=>p.new==n
def qaQ(n y z:ai)(b N:Bool)(e:ag):ag:=if N=true then JI y z e b else Xt n y (JI y z e b)
def Gl(y z:ai)(l:List ai):List af:=l.map λs=>⟨s,Bx y z s⟩
section
variable{n y z:ai}
theorem Sp(hny:n≠y)(s:ai)(u:List ai):gb y n z s u=(Bx y z s,u):=by
 unfold gb Pb Bx
 have:(n==y)=false:=by simpa using hny
 rw[this]
 simp
theorem OS(hny:n≠y):∀(l:List ai) (sc:List af) (u:List ai),gf (gb y n z) l sc u=(l.map (Bx y z),sc++Gl y z l,u)
 |[],sc,u=>by simp[gf,Gl]
 |s::l,sc,u=>by
  rw[gf,Sp hny,OS hny l]
  simp[Gl]
theorem RO{sc:List af}(h:Hs y z sc)(l:List ai):Hs y z (sc++Gl y z l):=λp hp=>by
 rcases vaw.1 hp with hp|hp
 ·exact h p hp
 ·obtain⟨s,_,rfl⟩:=vag.1 hp
  rfl
theorem R6(sc:List af)(l:List ai):bO y (sc++Gl y z l)=(bO y sc||l.any λs=>s==y):=by
 unfold bO Gl
 rw[vcq,vcg]
 rfl
theorem R5(sc:List af)(l:List ai):bN n (sc++Gl y z l)=(bN n sc||(l.map (Bx y z)).any λs=>s==n):=by
 unfold bN Gl
 rw[vcq,vcg,vcg]
 rfl
theorem Yw{sc:List af}(h:Hs y z sc)(s:ai):kT sc s=if bO s sc=true then some (Bx y z s)else none:=by
 unfold kT
 cases hf:sc.reverse.find? (λp=>p.old==s)with
 | none =>
  have:=vcv.1 hf
  rw[van]
  ·rfl
  ·intro hc
   obtain⟨p,hp,hq⟩:=vbn.1 hc
   exact this p (vbD.2 hp) hq
 |some p=>
  have h1:(p.old==s)=true:=by have:=vbH (p:=λp:af=>p.old==s) hf;exact this
  have h2:=vbD.1 (vbj hf)
  rw[vah (show bO s sc=true from vbn.2 ⟨p,h2,h1⟩)]
  show some p.new=_
  rw[h p h2,eq_of_beq h1]
theorem Yz(hny:n≠y){sc:List af}(h:Hs y z sc){o:Int}{m:ai}(u:List ai)(hz:(o==3||o==5)=true->m≠z):(kQ (dP n y) (gb y n z) o m sc u).1=if bN n sc=true then XG y z o m (bO y sc)else U7 n y o (XG y z o m (bO y sc)):=by
 unfold kQ U7 XG
 by_cases h35:(o==3||o==5)=true
 ·have h7:(o==7)=false:=by
   rw[va3,vaP,vaP]at h35
   rw[beq_eq_false_iff_ne];rcases h35 with rfl|rfl<;>decide
  rw[vah h35]
  show(kT sc m).getD (dP n y m)=_
  rw[Yw h,h7,h35]
  simp only[vb3,vc8,vcl]
  have hz:=hz h35
  by_cases hm:bO m sc=true
  ·rw[vah hm]
   obtain⟨p,hp,hq⟩:=vbn.1 hm
   have hnew:p.new=Bx y z m:=by rw[h p hp,eq_of_beq hq]
   have hN:(Bx y z m==n)=true->bN n sc=true:=λhc=>vbn.2 ⟨p,hp,by rw[hnew];exact hc⟩
   show Bx y z m=_
   by_cases hy:(m==y)=true
   ·have:m=y:=eq_of_beq hy
    subst this
    rw[hm]
    simp only[beq_self_eq_true,vcl,if_true]
    have ha:Bx m z m=z:=by unfold Bx;simp
    rw[ha]at hN ⊢
    by_cases hb:bN n sc=true
    ·rw[vah hb]
    ·rw[van hb,van (λhc=>hb (hN hc))]
   ·have ha:Bx y z m=m:=by unfold Bx;rw[van hy]
    rw[ha]at hN ⊢
    have:(bO y sc&&m==y)=false:=by simp only[vbW]at hy;rw[hy,Bool.and_false]
    rw[this]
    simp only[vaD,if_false]
    by_cases hb:bN n sc=true
    ·rw[vah hb]
    ·rw[van hb,van (λhc=>hb (hN hc))]
  ·rw[van hm]
   show dP n y m=_
   unfold dP
   have hav:(bO y sc&&m==y)=false:=by
    by_cases hy:(m==y)=true
    ·rw[<-eq_of_beq hy,vbW]at *
     rw[hm,vc0]
    ·rw[vbW]at hy
     rw[hy,Bool.and_false]
   rw[hav]
   simp only[vaD,if_false]
   by_cases hb:bN n sc=true
   ·rw[vah hb,van]
    intro hc
    have hc:=eq_of_beq hc
    subst hc
    obtain⟨p,hp,hq⟩:=vbn.1 hb
    have hq:=eq_of_beq hq
    rw[h p hp]at hq
    unfold Bx at hq
    split at hq
    ·exact hz hq.symm
    ·exact hm (vbn.2 ⟨p,hp,by rw[hq];simp⟩)
   ·rw[van hb]
 ·rw[van h35]
  have h35':(o==3||o==5)=false:=by simpa using h35
  rw[h35']
  by_cases h7:(o==7)=true
  ·rw[vah h7,Sp hny,h7]
   simp only[Bool.true_or,vcl,vc0,vaD,if_false,ite_self]
   rfl
  ·rw[van h7]
   have h7':(o==7)=false:=by simpa using h7
   rw[h7']
   simp
theorem Rw:∀(l:List ag),Rv n y l true true=l
 |[]=>by rw[Rv]
 |e::l=>by rw[Rv,Rw l];rfl
theorem YF(hny:n≠y)(t:Bool)(ps:List am)(sc:List af)(u:List ai):lz (gb y n z) t ps sc u=(Qs y z t ps,sc++Gl y z (if t=true then ps.map (·.Name)else[]),u):=by
 unfold lz Qs
 cases t with
 |false=>simp[Gl]
 |true=>
  simp only[if_true]
  rw[OS hny]
  refine Prod.ext ?_ rfl
  show FQ ps ((ps.map (·.Name)).map (Bx y z))=_
  unfold FQ
  clear hny
  induction ps with
  |nil=>rfl
  |cons p ps ih=>simp only[vaz,List.zipWith_cons_cons,ih]
mutual
theorem OX(hny:n≠y):∀(e:ag) (sc:List af),Hs y z sc->z∉(gT e).flatMap jv->(xt (dP n y) (gb y n z) e sc []).1=qaQ n y z (bO y sc) (bN n sc) e
 | ⟨o,m,k,ks,ps,as1,ts⟩,sc,h,hz => by
  rw[gT,vbP,vbh,vaw,vaw,vcZ,vcZ]at hz
  obtain⟨hz1,hz2,hz3⟩:=hz
  have hm:(o==3||o==5)=true->m≠z:=λhc he=>hz1 (by
   have hv:(mV ⟨o,m,k,ks,ps,as1,ts⟩||(ag.mk o m k ks ps as1 ts).Op==7)=true:=by
    show((o==3||o==5)||o==7)=true
    rw[hc];rfl
   unfold jv
   rw[vah hv]
   exact vaw.2 (.inl (by show z∈[m];rw[he];exact va4.2 rfl)))
  have hn:=Yz hny h (u:=[]) hm

  have hsc1:(kQ (dP n y) (gb y n z) o m sc []).2=(sc++Gl y z (if(o==7)=true then[m]else[]),[]):=by
   unfold kQ
   by_cases h35:(o==3||o==5)=true
   ·have h7:(o==7)=false:=by
     rw[va3,vaP,vaP]at h35
     rw[beq_eq_false_iff_ne];rcases h35 with rfl|rfl<;>decide
    rw[vah h35,h7];simp[Gl]
   ·rw[van h35]
    by_cases h7:(o==7)=true
    ·rw[vah h7,vah h7,Sp hny];rfl
    ·rw[van h7,van h7];simp[Gl]
  have hP:=YF (z:=z) hny (o==6) ps (sc++Gl y z (if(o==7)=true then[m]else[])) []
  have hH:uA (dP n y) (gb y n z) o m ps sc []=(Qs y z (o==6) ps,sc++Gl y z (if(o==7)=true then[m]else[])++Gl y z (if(o==6)=true then ps.map (·.Name)else[]),[]):=by
   show lz (gb y n z) (o==6) ps (kQ (dP n y) (gb y n z) o m sc []).2.1 (kQ (dP n y) (gb y n z) o m sc []).2.2=_
   rw[hsc1]
   exact hP
  have hs1:Hs y z (sc++Gl y z (if(o==7)=true then[m]else[])++Gl y z (if(o==6)=true then ps.map (·.Name)else[])):=RO (RO h _) _
  have hs0:Hs y z (if(o==7)=true then sc else(sc++Gl y z (if(o==7)=true then[m]else[])++Gl y z (if(o==6)=true then ps.map (·.Name)else[]))):=by
   by_cases h7:(o==7)=true
   ·rw[vah h7];exact h
   ·rw[van h7];exact hs1
  have hK:=Tf hny ks _ _ hs0 hs1 hz2
  have hA:=Tc hny as1 sc h hz3
  rw[DI]
  show ag.mk o (kQ (dP n y) (gb y n z) o m sc []).1 k (vQ (dP n y) (gb y n z) ks (if(o==7)=true then sc else(uA (dP n y) (gb y n z) o m ps sc []).2.1) (uA (dP n y) (gb y n z) o m ps sc []).2.1 (uA (dP n y) (gb y n z) o m ps sc []).2.2).1 (uA (dP n y) (gb y n z) o m ps sc []).1 (ws (dP n y) (gb y n z) as1 sc (ND (dP n y) (gb y n z) o m ps ks sc []).2).1 ts=_
  have hu:(ND (dP n y) (gb y n z) o m ps ks sc []).2=[]:=by
   show(vQ _ _ _ _ _ (uA (dP n y) (gb y n z) o m ps sc []).2.2).2=_
   rw[hH]
   exact RW ..
  rw[hu,hH,hn,hA]
  simp only
  rw[hK]

  have b1:bO y (sc++Gl y z (if(o==7)=true then[m]else[])++Gl y z (if(o==6)=true then ps.map (·.Name)else[]))=(bO y sc||lN y o ps||qj y o m):=by
   rw[R6,R6]
   unfold lN qj
   by_cases h7:(o==7)=true
   ·have h6:(o==6)=false:=by rw[vaP]at h7;subst h7;decide
    rw[vah h7,h7,h6];simp
   ·rw[van h7]
    have h7':(o==7)=false:=by simpa using h7
    rw[h7']
    by_cases h6:(o==6)=true
    ·rw[vah h6,h6];simp[vcg,Function.comp_def]
    ·have h6':(o==6)=false:=by simpa using h6
     rw[van h6,h6'];simp
  have b0:bO y (if(o==7)=true then sc else(sc++Gl y z (if(o==7)=true then[m]else[])++Gl y z (if(o==6)=true then ps.map (·.Name)else[])))=(bO y sc||lN y o ps):=by
   by_cases h7:(o==7)=true
   ·have h6:(o==6)=false:=by rw[vaP]at h7;subst h7;decide
    rw[vah h7];unfold lN;rw[h6];simp
   ·rw[van h7,b1]
    unfold qj
    have h7':(o==7)=false:=by simpa using h7
    rw[h7'];simp
  have n1:bN n (sc++Gl y z (if(o==7)=true then[m]else[])++Gl y z (if(o==6)=true then ps.map (·.Name)else[]))=(bN n sc||(lN n o (Qs y z (o==6) ps)||qj n o (XG y z o m (bO y sc)))):=by
   rw[R5,R5]
   unfold lN qj Qs XG
   by_cases h7:(o==7)=true
   ·have h6:(o==6)=false:=by rw[vaP]at h7;subst h7;decide
    rw[vah h7,h7,h6];simp[Bx]
   ·rw[van h7]
    have h7':(o==7)=false:=by simpa using h7
    rw[h7']
    by_cases h6:(o==6)=true
    ·rw[vah h6,vah h6,h6];simp[vcg,Function.comp_def]
    ·have h6':(o==6)=false:=by simpa using h6
     rw[van h6,h6'];simp
  have n0:bN n (if(o==7)=true then sc else(sc++Gl y z (if(o==7)=true then[m]else[])++Gl y z (if(o==6)=true then ps.map (·.Name)else[])))=(bN n sc||lN n o (Qs y z (o==6) ps)):=by
   by_cases h7:(o==7)=true
   ·have h6:(o==6)=false:=by rw[vaP]at h7;subst h7;decide
    rw[vah h7];unfold lN;rw[h6];simp
   ·rw[van h7,n1]
    unfold qj
    have h7':(o==7)=false:=by simpa using h7
    rw[h7'];simp
  rw[b0,b1,n0,n1]
  unfold qaQ
  by_cases hb:bN n sc=true
  ·rw[vah hb,vah hb,vah hb,hb,JI]
   simp only[Bool.true_or,Rw]
  ·have hb':bN n sc=false:=by simpa using hb
   rw[van hb,van hb,van hb,hb',JI,Xt]
   simp only[vb3]
theorem X0(hny:n≠y):∀(a:az) (sc:List af),Hs y z sc->z∉(DW a).flatMap jv->(KT (dP n y) (gb y n z) a sc []).1=if bN n sc=true then By y z a (bO y sc)else qa0 n y (By y z a (bO y sc))
 |⟨c,ns,b⟩,sc,h,hz=>by
  rw[DW]at hz
  rw[Ag,OS hny]
  simp only
  rw[OX hny b _ (RO h ns) hz,R6,R5,By,qa0]
  unfold qaQ
  cases bN n sc with
  |true=>simp
  |false=>simp only[vb3,vaD,if_false]
theorem Tf(hny:n≠y):∀(l:List ag) (s0 s1:List af),Hs y z s0->Hs y z s1->z∉(vV l).flatMap jv->(vQ (dP n y) (gb y n z) l s0 s1 []).1=Rv n y (NE y z l (bO y s0) (bO y s1)) (bN n s0) (bN n s1)
 |[],s0,s1,_,_,_=>by rw[pH,NE,Rv]
 |e::l,s0,s1,h0,h1,hz=>by
  rw[vV,vbh,vaw,vcZ]at hz
  rw[mb,VS]
  simp only
  rw[OX hny e s0 h0 hz.1,Tf hny l s1 s1 h1 h1 hz.2,NE,Rv]
  rfl
theorem Tc(hny:n≠y):∀(l:List az) (sc:List af),Hs y z sc->z∉(vU l).flatMap jv->(ws (dP n y) (gb y n z) l sc []).1=if bN n sc=true then Vp y z l (bO y sc)else T4 n y (Vp y z l (bO y sc))
 |[],sc,_,_=>by rw[pG,Vp,T4];simp
 | a :: l,sc,h,hz => by
  rw[vU,vbh,vaw,vcZ]at hz
  have hu:(KT (dP n y) (gb y n z) a sc []).2=[]:=by
   obtain⟨c,ns,b⟩:=a
   rw[Ag,OS hny]
   exact VS ..
  rw[ma,hu]
  simp only
  rw[X0 hny a sc h hz.1,Tc hny l sc h hz.2,Vp,T4]
  cases bN n sc<;>rfl
end
theorem OR{fr:Mu}(hr:∀s u,fr s u=(s,u)):∀(l:List ai) (sc:List af) (u:List ai),gf fr l sc u=(l,sc++l.map (λs=>⟨s,s⟩),u)
 |[],sc,u=>by simp[gf]
 |s::l,sc,u=>by rw[gf,hr,OR hr l];simp
end
def Hi(sc:List af):Prop:=∀p∈sc,p.new=p.old
theorem Yv{sc:List af}(h:Hi sc)(s:ai):(kT sc s).getD s=s:=by
 unfold kT
 cases hf:sc.reverse.find? (λp=>p.old==s)with
 |none=>rfl
 |some p=>
  have h1:(p.old==s)=true:=by have:=vbH (p:=λp:af=>p.old==s) hf;exact this
  have h2:=vbD.1 (vbj hf)
  show p.new=s
  rw[h p h2,eq_of_beq h1]
theorem J3{sc:List af}(h:Hi sc)(l:List ai):Hi (sc++l.map λs=>⟨s,s⟩):=λp hp=>by
 rcases vaw.1 hp with hp|hp
 ·exact h p hp
 ·obtain⟨s,_,rfl⟩:=vag.1 hp
  rfl
section
variable{fe:ai->ai}{fr:Mu}(he:∀s,fe s=s)(hr:∀s u,fr s u=(s,u))
include he hr
mutual
theorem OT:∀(e:ag) (sc:List af) (u:List ai),Hi sc->xt fe fr e sc u=(e,u)
 | ⟨o,m,k,ks,ps,as1,ts⟩,sc,u,h => by
  have hN:∃l:List ai,kQ fe fr o m sc u=(m,sc++l.map (λs=>⟨s,s⟩),u):=by
   unfold kQ
   split
   ·exact⟨[],by rw[he,Yv h];simp⟩
   ·split
    ·exact⟨[m],by rw[hr];rfl⟩
    ·exact⟨[],by simp⟩
  obtain⟨l,hN⟩:=hN
  have hP:∃l':List ai,lz fr (o==6) ps (sc++l.map λs=>⟨s,s⟩) u=(ps,sc++l.map (λs=>⟨s,s⟩)++l'.map (λs=>⟨s,s⟩),u):=by
   unfold lz
   split
   ·exact⟨ps.map (·.Name),by rw[OR hr,Oc]⟩
   ·exact⟨[],by simp⟩
  obtain⟨l',hP⟩:=hP
  have hH:uA fe fr o m ps sc u=(ps,sc++l.map (λs=>⟨s,s⟩)++l'.map (λs=>⟨s,s⟩),u):=by
   show lz fr (o==6) ps (kQ fe fr o m sc u).2.1 (kQ fe fr o m sc u).2.2=_
   rw[hN]
   exact hP
  have hC:ND fe fr o m ps ks sc u=(ks,u):=by
   show vQ fe fr ks (if(o==7)=true then sc else(uA fe fr o m ps sc u).2.1) (uA fe fr o m ps sc u).2.1 (uA fe fr o m ps sc u).2.2=_
   rw[hH]
   refine Te ks _ _ u ?_ (J3 (J3 h l) l')
   split
   ·exact h
   ·exact J3 (J3 h l) l'
  rw[DI,hC,hH,hN,Tb as1 sc u h]
theorem XZ:∀(a:az) (sc:List af) (u:List ai),Hi sc->KT fe fr a sc u=(a,u)
 |⟨c,ns,b⟩,sc,u,h=>by
  rw[Ag,OR hr]
  simp only
  rw[OT b _ u (J3 h ns)]
theorem Te:∀(l:List ag) (s0 s1:List af) (u:List ai),Hi s0->Hi s1->vQ fe fr l s0 s1 u=(l,u)
 |[],s0,s1,u,_,_=>by rw[pH]
 |e::l,s0,s1,u,h0,h1=>by
  rw[mb,OT e s0 u h0]
  simp only
  rw[Te l s1 s1 u h1 h1]
theorem Tb:∀(l:List az) (sc:List af) (u:List ai),Hi sc->ws fe fr l sc u=(l,u)
 |[],sc,u,_=>by rw[pG]
 |a::l,sc,u,h=>by
  rw[ma,XZ a sc u h]
  simp only
  rw[Tb l sc u h]
end
end
def Xv(e:ag)(n y z:ai):ag:=if(n==y)=true then e else Xt n y (JI y z e false)
theorem Xu(e:ag)(n y:ai):Xv e n y (Js e y)=Vd e n y:=by
 unfold Xv Vd
 by_cases h:(n==y)=true
 ·have:=eq_of_beq h
  subst this
  rw[vah h,OT (λs=>by unfold dP;split<;>simp_all) (λs u=>by unfold gb Pb;simp) e [] [] (λp hp=>by cases hp)]
 ·rw[van h,OX (λhc=>h (by rw[hc];simp)) e [] (λp hp=>by cases hp) (W1 e y).1]
  rfl
end Go.Proofs.YtkdahfeiedaahaaGreatDoor
namespace Go.Proofs.YtkdahfeiedaahaaGreatDoor
open Go
set_option linter.unusedVariables false
set_option linter.unusedSimpArgs false
def T7(sc:List af):Prop:=∀p∈sc,p.new.length<=p.old.length+110
theorem RB{sc:List af}(h:T7 sc){s t:ai}(ht:t.length<=s.length+110):T7 (sc++[⟨s,t⟩]):=λq hq=>by
 rcases vaw.1 hq with hq|hq
 ·exact h q hq
 ·rw[va4.1 hq];exact ht
theorem TS(s:ai):fN (cS s)=s.length+1:=by simp only[cS,fN,pm]
theorem TY:∀(ps:List am) (ns:List ai),ns.length=ps.length->bD ((FQ ps ns).map aj)+bD ((ps.map (·.Name)).map cS)=bD (ps.map aj)+bD (ns.map cS)
 |[],[],_=>by simp[FQ]
 |[],_::_,h=>by simp at h
 |_::_,[],h=>by simp at h
 |p::ps,n::ns,h=>by
  have ih:=TY ps ns (by simpa using h)
  unfold FQ at ih ⊢
  simp only[List.zipWith_cons_cons,vaz,bD]
  have h1:=pq p
  have h2:=pq ⟨n,p.Type_⟩
  have h3:=TS p.Name
  have h4:=TS n
  simp only[am.Name,am.Type_]at h2
  omega
section
variable{fe:ai->ai}{fr:Mu}{B:Nat}
theorem RT(hfr:∀s u,u.length<=B->(fr s u).1.length<=s.length+110)(hl:∀s u,(fr s u).2.length<=u.length+1):∀(l:List ai) (sc:List af) (u:List ai),T7 sc->u.length+l.length<=B->bD ((gf fr l sc u).1.map cS)<=bD (l.map cS)+110 * l.length/\T7 (gf fr l sc u).2.1
 |[],sc,u,h,hu=>⟨by simp[gf],h⟩
 |n::l,sc,u,h,hu=>by
  simp only[vau]at hu
  have hn:=hfr n u (by omega)
  have hu2:=hl n u
  obtain⟨h1,h2⟩:=RT hfr hl l (sc++[⟨n,(fr n u).1⟩]) (fr n u).2 (RB h hn) (by omega)
  rw[gf]
  refine⟨?_,h2⟩
  simp only[vaz,bD,vau]
  have h3:=TS n
  have h4:=TS (fr n u).1
  omega
theorem ZR(hfe:∀s,(fe s).length<=s.length+110)(hfr:∀s u,u.length<=B->(fr s u).1.length<=s.length+110)(o:Int)(n:ai)(sc:List af)(u:List ai)(h:T7 sc)(hu:u.length<=B):(kQ fe fr o n sc u).1.length<=n.length+110/\T7 (kQ fe fr o n sc u).2.1:=by
 unfold kQ
 split
 ·refine⟨?_,h⟩
  cases hq:kT sc n with
  |none=>exact hfe n
  |some t=>
   obtain⟨p,hp,rfl,rfl⟩:=UF hq
   exact h p hp
 ·split
  ·exact⟨hfr n u hu,RB h (hfr n u hu)⟩
  ·exact⟨by show n.length<=_;omega,h⟩
theorem ZT(hfr:∀s u,u.length<=B->(fr s u).1.length<=s.length+110)(hl:∀s u,(fr s u).2.length<=u.length+1)(t:Bool)(ps:List am)(sc:List af)(u:List ai)(h:T7 sc)(hu:u.length+ps.length<=B):bD ((lz fr t ps sc u).1.map aj)<=bD (ps.map aj)+110 * ps.length/\T7 (lz fr t ps sc u).2.1:=by
 unfold lz
 split
 ·obtain⟨h1,h2⟩:=RT hfr hl (ps.map (·.Name)) sc u h (by rw[vaO];exact hu)
  refine⟨?_,h2⟩
  have h3:=TY ps (gf fr (ps.map (·.Name)) sc u).1 (by rw[Bv,vaO])
  rw[vaO]at h1
  show bD ((FQ ps (gf fr (ps.map (·.Name)) sc u).1).map aj)<=_
  omega
 ·exact⟨by show bD (ps.map aj)<=_;omega,h⟩
mutual
theorem OW(hfe:∀s,(fe s).length<=s.length+110)(hfr:∀s u,u.length<=B->(fr s u).1.length<=s.length+110)(hl:∀s u,(fr s u).2.length<=u.length+1):∀(e:ag) (sc:List af) (u:List ai),T7 sc->u.length+nE e<=B->fN (ae (xt fe fr e sc u).1)<=fN (ae e)+110 * nE e
 | ⟨o,n,k,ks,ps,as1,ts⟩,sc,u,h,hu => by
  rw[nE]at hu
  obtain⟨n1,n2⟩:=ZR hfe hfr o n sc u h (by omega)
  have n3:=O0 (fe:=fe) hl o n sc u
  obtain⟨p1,p2⟩:=ZT hfr hl (o==6) ps (kQ fe fr o n sc u).2.1 (kQ fe fr o n sc u).2.2 n2 (by omega)
  have p3:=O2 hl (o==6) ps (kQ fe fr o n sc u).2.1 (kQ fe fr o n sc u).2.2
  have hS:T7 (Vn fe fr o n ps sc u):=by unfold Vn;split;exact h;exact p2
  have k1:=VU hfe hfr hl ks (Vn fe fr o n ps sc u) (uA fe fr o n ps sc u).2.1 (uA fe fr o n ps sc u).2.2 hS p2 (by show(lz fr (o==6) ps (kQ fe fr o n sc u).2.1 (kQ fe fr o n sc u).2.2).2.2.length+_<=_;omega)
  have k2:=G5 (fe:=fe) hl ks (Vn fe fr o n ps sc u) (uA fe fr o n ps sc u).2.1 (uA fe fr o n ps sc u).2.2
  have a1:=VN hfe hfr hl as1 sc (ND fe fr o n ps ks sc u).2 h (by
   have:(uA fe fr o n ps sc u).2.2.length<=u.length+1+ps.length:=RV (fe:=fe) hl o n ps sc u
   show(vQ fe fr ks (Vn fe fr o n ps sc u) (uA fe fr o n ps sc u).2.1 (uA fe fr o n ps sc u).2.2).2.length+_<=_
   omega)
  rw[DI,jV,jV,nE]
  show 1+((kQ fe fr o n sc u).1.length+1+(1+(bD ((vQ fe fr ks (Vn fe fr o n ps sc u) (uA fe fr o n ps sc u).2.1 (uA fe fr o n ps sc u).2.2).1.map ae)+1+(bD ((lz fr (o==6) ps (kQ fe fr o n sc u).2.1 (kQ fe fr o n sc u).2.2).1.map aj)+1+(bD ((ws fe fr as1 sc (ND fe fr o n ps ks sc u).2).1.map au)+1+(bD (ts.map ah)+1+0))))))<=1+(n.length+1+(1+(bD (ks.map ae)+1+(bD (ps.map aj)+1+(bD (as1.map au)+1+(bD (ts.map ah)+1+0))))))+_
  omega
theorem ZU(hfe:∀s,(fe s).length<=s.length+110)(hfr:∀s u,u.length<=B->(fr s u).1.length<=s.length+110)(hl:∀s u,(fr s u).2.length<=u.length+1):∀(a:az) (sc:List af) (u:List ai),T7 sc->u.length+nA a<=B->fN (au (KT fe fr a sc u).1)<=fN (au a)+110 * nA a
 |⟨c,ns,b⟩,sc,u,h,hu=>by
  rw[nA]at hu
  obtain⟨b1,b2⟩:=RT hfr hl ns sc u h (by omega)
  have b3:=DH hl ns sc u
  have e1:=OW hfe hfr hl b (gf fr ns sc u).2.1 (gf fr ns sc u).2.2 b2 (by omega)
  rw[Ag,uS,uS,nA]
  show c.length+1+(bD ((gf fr ns sc u).1.map cS)+1+fN (ae (xt fe fr b (gf fr ns sc u).2.1 (gf fr ns sc u).2.2).1))<=c.length+1+(bD (ns.map cS)+1+fN (ae b))+_
  omega
theorem VU(hfe:∀s,(fe s).length<=s.length+110)(hfr:∀s u,u.length<=B->(fr s u).1.length<=s.length+110)(hl:∀s u,(fr s u).2.length<=u.length+1):∀(l:List ag) (s0 s1:List af) (u:List ai),T7 s0->T7 s1->u.length+qk l<=B->bD ((vQ fe fr l s0 s1 u).1.map ae)<=bD (l.map ae)+110 * qk l
 |[],s0,s1,u,_,_,_=>by rw[pH];exact vbB _ _
 |e::l,s0,s1,u,h0,h1,hu=>by
  rw[qk]at hu
  have e1:=OW hfe hfr hl e s0 u h0 (by omega)
  have e2:=OY (fe:=fe) hl e s0 u
  have e3:=VU hfe hfr hl l s1 s1 (xt fe fr e s0 u).2 h1 h1 (by omega)
  rw[mb,qk]
  simp only[vaz,bD]
  omega
theorem VN(hfe:∀s,(fe s).length<=s.length+110)(hfr:∀s u,u.length<=B->(fr s u).1.length<=s.length+110)(hl:∀s u,(fr s u).2.length<=u.length+1):∀(l:List az) (sc:List af) (u:List ai),T7 sc->u.length+sT l<=B->bD ((ws fe fr l sc u).1.map au)<=bD (l.map au)+110 * sT l
 |[],sc,u,_,_=>by rw[pG];exact vbB _ _
 |a::l,sc,u,h,hu=>by
  rw[sT]at hu
  have e1:=ZU hfe hfr hl a sc u h (by omega)
  have e2:=RX (fe:=fe) hl a sc u
  have e3:=VN hfe hfr hl l sc (KT fe fr a sc u).2 h (by omega)
  rw[ma,sT]
  simp only[vaz,bD]
  omega
end
end
theorem Yn(s:ai)(u:List ai)(h:u.length<=100000000):(dC s u).1.length<=s.length+110:=by
 show(iS u s).length<=_
 rw[<-mU h]
 exact vaH (Ih u s) (by omega)
def YT(e:ag):ag:=(xt io dC e [] (D3 (Aq e))).1
theorem YU(e:ag)(hn:nE e<=50000000):fN (ae (YT e))<=fN (ae e)+110 * nE e:=by
 have h1:=wX (Aq e)
 have h2:=wA e
 exact OW (fe:=io) (fr:=dC) (B:=100000000) (λs=>by show s.length<=_;omega) Yn sO e [] _ (λp hp=>by cases hp) (by omega)
theorem Ru{l:List ai}(s:ai)(h:l.length<=1073741824):qZ l s=some (l.any λk=>k==s):=by
 unfold qZ
 rw[mR _ _ (by omega)]
 simp only[vaa,jI]
theorem XX(e:ag):oI e=jv e++(d9 e).flatMap oI:=by
 unfold oI
 rw[HC,vbP,List.flatMap_assoc]
theorem YR(e:ag)(he:nE e<=d4):Ox e=some (oI e):=by
 refine nF (F:=Gv) nE (λx=>nE x<=d4) oI (λR e he ih=>?_) e he (mL he)
 have hB:nE e<=1073741824:=he
 have hl:(oI e).length<=nE e:=sH e
 have hce:=XX e
 have hcl:=vbd List.length hce
 rw[vam]at hcl
 have hn1:(jv e).length=(if(mV e||e.Op==7)=true then[e.Name]else[]).length+((if(e.Op==6)=true then e.Params.map (·.Name)else[]).length+(e.Alts.flatMap (·.Names)).length):=by unfold jv;rw[vam,vam]
 have l2:=Bu e
 have l3:=AH e
 have hbl:=H7 e
 show Bk (λe=>R e) e=_
 have hJ:xE e=some (if(mV e||e.Op==7)=true then[e.Name]else[]):=by
  unfold xE
  have:xG e=some (mV e||e.Op==7):=by
   unfold xG mV
   cases(e.Op==3)<;>cases(e.Op==5)<;>rfl
  rw[this,vaa]
  split
  ·rw[b9 (by simp)];rfl
  ·rfl
 unfold Bk
 rw[hJ]
 simp only[vaa]
 generalize hv:(if(mV e||e.Op==7)=true then[e.Name]else[])=V at *
 have h3:Dw e V 0=some (V++if(e.Op==6)=true then e.Params.map (·.Name)else[]):=by
  unfold Dw
  by_cases h6:(e.Op==6)=true
  ·rw[vah h6]at hn1
   rw[vaO]at hn1
   have g:=cZ e.Params.length (λzz:(List ai)×Int=>gg e zz.1 zz.2) (λk=>(V++(e.Params.take k).map (·.Name),(k:Int))) (V++e.Params.map (·.Name)) (λk hk=>?_) ?_
   ·rw[vah h6];simpa using g
   ·show gg e _ (k:Int)=_
    unfold gg sn
    rw[vah (by simpa using hk)]
    simp only[vaa]
    rw[vah h6,bE _ _ hk,vaa,b9 (by simp;omega),vaa,bR (by omega) (by omega),vay hk,va5,<-vaL]
    rfl
   ·show gg e _ (e.Params.length:Int)=_
    unfold gg sn
    rw[van (by simp),vaG]
    simp
  ·have h6':(e.Op==6)=false:=by simpa using h6
   rw[van h6,va6]
   refine ki ?_
   show gg e V 0=_
   unfold gg sn
   rw[h6',ite_self]
   simp
 rw[h3,vaa]
 have h5:Dx e (V++if(e.Op==6)=true then e.Params.map (·.Name)else[]) 0=some (jv e):=by
  have hal:jv e=(V++if(e.Op==6)=true then e.Params.map (·.Name)else[])++e.Alts.flatMap (·.Names):=by unfold jv;rw[hv,vaL]
  have hal2:=vbd List.length hal
  rw[vam]at hal2
  rw[hal]
  generalize (V++if(e.Op==6)=true then e.Params.map (·.Name)else[])=W at *
  have g:=cZ e.Alts.length (λzz:(List ai)×Int=>jE e zz.1 zz.2) (λi=>(W++(e.Alts.take i).flatMap (·.Names),(i:Int))) (W++e.Alts.flatMap (·.Names)) (λi hi=>?_) ?_
  ·unfold Dx;simpa using g
  ·have ht:(e.Alts.take (i+1)).flatMap (·.Names)=(e.Alts.take i).flatMap (·.Names)++e.Alts[i].Names:=by rw[vay hi,vbh];simp
   have ht2:((e.Alts.take (i+1)).flatMap (·.Names)).length<=(e.Alts.flatMap (·.Names)).length:=by
    have e1:e.Alts.take (i+1)++e.Alts.drop (i+1)=e.Alts:=vce _ _
    have:(e.Alts.flatMap (·.Names)).length=((e.Alts.take (i+1)).flatMap (·.Names)).length+((e.Alts.drop (i+1)).flatMap (·.Names)).length:=by rw[<-vam,<-vbh,e1]
    omega
   have ht3:=vbd List.length ht
   rw[vam]at ht3
   show jE e _ (i:Int)=_
   unfold jE
   rw[vah (by simpa using hi),bE _ _ hi,vaa,b9 (by rw[vam];omega),vaa,bR (by omega) (by omega),ht,<-vaL]
   rfl
  ·show jE e _ (e.Alts.length:Int)=_
   unfold jE
   rw[van (by simp),vaG]
 rw[h5,vaa,Uh e he,vaa]
 have g:=cZ (d9 e).length (λzz:(List ai)×Int=>jF (λe=>R e) (d9 e) zz.1 zz.2) (λi=>(jv e++((d9 e).take i).flatMap oI,(i:Int))) (oI e) (λi hi=>?_) ?_
 ·have h':Dy (λe=>R e) (d9 e) (jv e) 0=some (oI e):=by unfold Dy;simpa using g
  rw[h'];rfl
 ·have hm:(d9 e)[i]∈d9 e:=vaC hi
  have hlt:=Pc hm
  have ht:=Uv oI (d9 e) i hi
  have ht2:=M8 oI (d9 e) (i+1)
  have ht3:=vbd List.length ht
  rw[vam]at ht3
  show jF (λe=>R e) (d9 e) _ (i:Int)=_
  unfold jF
  rw[vah (by simpa using hi),bE _ _ hi,vaa]
  show(R _).bind _=_
  rw[ih _ hlt (by unfold d4;omega),vaa,b9 (by simp only[vam];omega),vaa,bR (by omega) (by omega),ht,<-vaL]
  rfl
 ·show jF (λe=>R e) (d9 e) _ ((d9 e).length:Int)=_
  unfold jF
  rw[van (by simp),vaG,<-hce]
mutual
theorem K3:∀e:ag,nE e<=d4->RJ e=true
 |⟨o,m,k,ks,ps,as1,ts⟩,h=>by
  rw[nE]at h
  have h1:=rB ks
  have h2:=rA as1
  have hb:d4=1073741824:=rfl
  rw[RJ,Wf ks (by omega),Wg as1 (by omega),vc8,vc8]
  unfold Yh
  simp only[vad,vao,vas]
  show((ks.length<=bo/\ps.length<=bo)/\as1.length<=bo)/\∀a∈as1,qcD a=true
  unfold bo
  refine⟨⟨⟨by omega,by omega⟩,by omega⟩,λa ha=>?_⟩
  have:=uL ha
  unfold qcD
  rw[vao]
  obtain⟨c,ns,b⟩:=a
  rw[nA]at this
  show ns.length<=bo
  unfold bo
  omega
theorem Wf:∀l:List ag,qk l<=d4->qay l=true
 |[],_=>by rw[qay]
 |e::l,h=>by rw[qk]at h;rw[qay,K3 e (by omega),Wf l (by omega)];rfl
theorem Wg:∀l:List az,sT l<=d4->qaz l=true
 |[],_=>by rw[qaz]
 |a::l,h=>by rw[sT]at h;rw[qaz,qaA a (by omega),Wg l (by omega)];rfl
theorem qaA:∀a:az,nA a<=d4->qcE a=true
 |⟨c,ns,b⟩,h=>by rw[nA]at h;rw[qcE];exact K3 b (by omega)
end
section
variable{n y:ai}
theorem T6:∀(l:List ag) (b0 b1:Bool) (i:Nat),(Rv n y l b0 b1)[i]? =(l[i]?).map λe=>if(if i=0 then b0 else b1)=true then e else Xt n y e
 |[],b0,b1,i=>by rw[Rv];simp
 |e::l,b0,b1,0=>by rw[Rv];simp
 |e::l,b0,b1,i+1=>by rw[Rv,List.getElem?_cons_succ,List.getElem?_cons_succ,T6 l b1 b1 i,ite_self,van (Nat.succ_ne_zero i)]
theorem T5:∀(l:List az) (i:Nat),(T4 n y l)[i]? =(l[i]?).map (qa0 n y)
 |[],i=>by rw[T4];simp
 |e::l,0=>by rw[T4];simp
 |e::l,i+1=>by rw[T4,List.getElem?_cons_succ,List.getElem?_cons_succ,T5 l i]
theorem P4:∀(l:List ag) (b0 b1:Bool),(Rv n y l b0 b1).length=l.length
 |[],b0,b1=>by rw[Rv]
 |e::l,b0,b1=>by rw[Rv,vau,vau,P4 l]
theorem P3:∀(l:List az),(T4 n y l).length=l.length
 |[]=>by rw[T4]
 |e::l=>by rw[T4,vau,vau,P3 l]
theorem Yr(o:Int)(m:ai)(ps:List am)(i:Nat):(iJ o m ps (decide (0<i))).any (λk=>k==n)=if i=0 then lN n o ps else(lN n o ps||qj n o m):=by
 unfold iJ lN qj
 by_cases h7:(o==7)=true
 ·have h6:(o==6)=false:=by rw[vaP]at h7;subst h7;decide
  rw[h7,h6]
  by_cases hi:i=0
  ·subst hi;simp
  ·rw[van hi,vah (by simp;omega)];simp
 ·have h7':(o==7)=false:=by simpa using h7
  rw[h7']
  by_cases h6:(o==6)=true
  ·rw[h6];simp[vcg,Function.comp_def]
  ·have h6':(o==6)=false:=by simpa using h6
   rw[h6'];simp
theorem Yu(o:Int)(m:ai):qj n o (U7 n y o m)=qj n o m:=by
 unfold qj U7
 by_cases h7:(o==7)=true
 ·have h3:(o==3||o==5)=false:=by rw[vaP]at h7;subst h7;decide
  rw[h3];simp
 ·have h7':(o==7)=false:=by simpa using h7
  rw[h7'];rfl
end
theorem SV(n y:ai)(e:ag)(he:nE e<=d4):zW e n y=some (Xt n y e):=by
 refine nF (F:=vP) (λx=>nE x.1) (λx=>x.2.1=n/\x.2.2=y/\nE x.1<=d4) (λx=>Xt n y x.1) (λR x hx ih=>?_) (e,n,y) ⟨rfl,rfl,he⟩ (mL he)
 obtain⟨e,n',y'⟩:=x
 obtain⟨h1,h2,he⟩:=hx
 simp only[]at h1 h2 he ih ⊢
 subst h1 h2
 have hR:∀x:ag,nE x<nE e->R (x,n',y')=some (Xt n' y' x):=λx h1=>ih (x,n',y') h1 ⟨rfl,rfl,by show nE x<=_;omega⟩
 have hcp:nU e=some e:=by unfold nU;rw[vah (by have:=K3 e he;obtain⟨o,m,k,ks,ps,as1,ts⟩:=e;exact(Ph this).1)]
 have hB:nE e<=1073741824:=he
 have hn:=uM e
 have lk:=rB e.Kids
 have la:=rA e.Alts
 show pE (λe name a=>R (e,name,a)) e n' y'=_
 unfold pE
 rw[hcp,vaa,nG rfl,vaa]
 have hJ1:nu n' y' e.Op e.Name=some (U7 n' y' e.Op e.Name):=by
  unfold nu sw U7
  cases(e.Op==3)<;>cases(e.Op==5)<;>cases(e.Name==n')<;>rfl
 rw[hJ1,vaa]
 have hL3:sB (λe name a=>R (e,name,a)) n' y' e.Op (U7 n' y' e.Op e.Name) e.N e.Kids.length e.Params e.Alts.length e.Types e.Alts 0 e.Kids=some (Rv n' y' e.Kids (lN n' e.Op e.Params) (lN n' e.Op e.Params||qj n' e.Op e.Name)):=by
  unfold sB
  refine Fg e.Kids (Rv n' y' e.Kids (lN n' e.Op e.Params) (lN n' e.Op e.Params||qj n' e.Op e.Name)) (P4 _ _ _) (λi l=>((i:Int),l)) _ _ (λA B x x' hx hx'=>?_) ?_
  ·have hlt:A.length<e.Kids.length:=(vbM.1 hx).1
   have hm:x∈e.Kids:=vaA hx
   rw[T6,hx]at hx'
   have hx':=vbb hx'
   show gr (λe name a=>R (e,name,a)) n' y' e.Op (U7 n' y' e.Op e.Name) e.N e.Kids.length e.Params e.Alts.length e.Types e.Alts (A.length:Int) (A++x::B)=_
   have hu:z6 e.Op (U7 n' y' e.Op e.Name) e.N e.Kids.length e.Params e.Alts.length e.Types (A.length:Int) [] (A++x::B) e.Alts=wn ⟨e.Op,U7 n' y' e.Op e.Name,e.N,A++x::B,e.Params,e.Alts,e.Types⟩ (A.length:Int) []:=rfl
   unfold gr sy
   rw[vah (by simpa using hlt),hu,RE _ _ _ (by show 0+e.Params.length+1<=_;omega),vaa]
   rw[vaR]
   show((qZ (iJ e.Op (U7 n' y' e.Op e.Name) e.Params (decide (0<A.length))) n').bind _).bind _=_
   have hil:(iJ e.Op (U7 n' y' e.Op e.Name) e.Params (decide (0<A.length))).length<=1073741824:=by
    unfold iJ
    split
    ·simp
    ·split
     ·rw[vaO];omega
     ·simp
   rw[Ru _ hil,vaa,Yr,Yu]
   rw[Nv (by omega)]
   by_cases hb:(if A.length=0 then lN n' e.Op e.Params else(lN n' e.Op e.Params||qj n' e.Op e.Name))=true
   ·rw[hb]at hx' ⊢
    simp only[if_true]at hx'
    rw[<-hx']
    simp
   ·have hb':(if A.length=0 then lN n' e.Op e.Params else(lN n' e.Op e.Params||qj n' e.Op e.Name))=false:=vcI.2 hb
    rw[hb']at hx' ⊢
    simp only[vaD,if_false]at hx'
    rw[<-hx']
    simp only[vc1,if_true,pK hlt,vaa,hR x (ye hm),mG]
  ·show gr _ _ _ _ _ _ _ _ _ _ _ (e.Kids.length:Int) _=_
   unfold gr
   rw[van (by simp)]
 rw[hL3,vaa,nG (P4 _ _ _).symm,vaa]
 have hL5:sC (λe name a=>R (e,name,a)) n' y' e.Alts.length 0 e.Alts=some (T4 n' y' e.Alts):=by
  unfold sC
  refine Fg e.Alts (T4 n' y' e.Alts) (P3 _) (λi l=>((i:Int),l)) _ _ (λA B x x' hx hx'=>?_) ?_
  ·have hlt:A.length<e.Alts.length:=(vbM.1 hx).1
   have hm:x∈e.Alts:=vaA hx
   rw[T5,hx]at hx'
   have hx':=vbb hx'
   have hnl:=uL hm
   have hna:=Il x
   show gu (λe name a=>R (e,name,a)) n' y' e.Alts.length (A.length:Int) (A++x::B)=_
   unfold gu sA
   rw[vah (by simpa using hlt),pK hlt]
   simp only[vaa]
   rw[Ru _ (by omega)]
   simp only[vaa]
   rw[Nv (by omega),<-hx']
   have hxe:qa0 n' y' x=⟨x.Con,x.Names,if(x.Names.any λs=>s==n')=true then x.Body else Xt n' y' x.Body⟩:=by
    obtain⟨c,ns,b⟩:=x
    rw[qa0];rfl
   rw[hxe]
   cases hb:(x.Names.any λk=>k==n')with
   |true=>
    simp only[vc7,vaD,if_false,vaa,if_true]
    obtain⟨c,ns,b⟩:=x
    rfl
   |false=>
    simp only[vc1,vaD,if_false,vaa,if_true,hR x.Body (xY hm),mG]
  ·show gu _ _ _ _ (e.Alts.length:Int) _=_
   unfold gu
   rw[van (by simp)]
 rw[hL5,vaa,nG (P3 _).symm,vaa]
 obtain⟨o,m,k,ks,ps,as1,ts⟩:=e
 rw[Xt]
 rfl
def zp(f t:List ai):List af:=List.zipWith af.mk f t
theorem S7{f t g h:List ai}(hl:f.length=t.length):zp (f++g) (t++h)=zp f t++zp g h:=vc4 hl
theorem UG(sc:List af)(p:af)(s:ai):kT (sc++[p]) s=if(p.old==s)=true then some p.new else kT sc s:=by
 unfold kT
 rw[vc2,List.reverse_singleton,List.singleton_append,List.find?_cons]
 cases p.old==s<;>rfl
theorem FT{f t:List ai}(s:ai)(hl:f.length=t.length)(hb:f.length<=1000000000):∀k,k<=f.length->nr f t s ((k:Int) - 1)=some (match kT ((zp f t).take k) s with|some r=>.inl r|none=>.inr ())
 |0,_=>by
  refine ki ?_
  show gq f t s _=_
  unfold gq
  rw[van (by simp)]
  rfl
 | k + 1,hk => by
  have hz:(zp f t).length=f.length:=by unfold zp;rw[vb7,hl,Nat.min_self]
  have h1:(zp f t).take (k+1)=(zp f t).take k++[⟨f[k],t[k]⟩]:=by
   rw[vay (by omega)]
   unfold zp
   rw[List.getElem_zipWith]
  have h2:((k+1:Nat):Int) - 1=(k:Int):=by omega
  rw[h1,UG,h2]
  have ih:=FT s hl hb k (by omega)
  unfold nr at ih ⊢
  rw[gP]
  have hbd:gq f t s (k:Int)=if(f[k]==s)=true then some (.inr (.inl t[k]))else some (.inl ((k:Int) - 1)):=by
   unfold gq
   rw[vah (by simp),bE _ _ (by omega),vaa,bE _ _ (by omega),vaa,bR (by omega) (by omega)]
  rw[hbd]
  show _=some (match(if(f[k]==s)=true then some t[k]else kT ((zp f t).take k) s)with|some r=>(Sum.inl r:ai⊕Unit)|none=>Sum.inr ())
  cases f[k]==s with
  |true=>rfl
  |false=>exact ih
theorem SU{f t:List ai}(s:ai)(hl:f.length=t.length)(hb:f.length<=1000000000):uu f t s=some ((kT (zp f t) s).getD s):=by
 have hz:(zp f t).length=f.length:=by unfold zp;rw[vb7,hl,Nat.min_self]
 unfold uu
 rw[bR (by omega) (by omega),FT s hl hb f.length (var _),vaa,<-hz,vaG]
 cases kT (zp f t) s<;>rfl
theorem Xq:∀(l f t u:List ai),(∀s∈l,s.length<=d4)->f.length=t.length->u.length+l.length<=100000000->f.length+l.length<=1000000000->
  ∃f' t',Zq l f t u=some ((gf dC l (zp f t) u).1,f',t',(gf dC l (zp f t) u).2.2)/\f'.length=t'.length/\f'.length=f.length+l.length/\zp f' t'=(gf dC l (zp f t) u).2.1
 |[],f,t,u,_,hl,_,_=>⟨f,t,by rw[Zq];rfl,hl,rfl,rfl⟩
 |s::l,f,t,u,hs,hl,hu,hf=>by
  simp only[vau]at hu hf
  have hs0:=hs s (by simp)
  obtain⟨f',t',e1,e2,e3,e4⟩:=Xq l (f++[s]) (t++[iS u s]) (u++[iS u s]) (λx hx=>hs x (by simp[hx])) (by simp[hl]) (by simp;omega) (by simp;omega)
  rw[S7 hl]at e1 e4
  refine⟨f',t',?_,e2,by rw[e3];simp;omega,e4⟩
  rw[Zq,(vZ u s (by omega) (by unfold d4 at hs0;omega)).2.1,vaa,mU (by omega),b9 (by simp;omega),vaa,b9 (by simp;omega),vaa,b9 (by simp;omega),vaa,e1]
  rfl
theorem Xr{n:Nat}(hn:n<=1000000000):∀(B A:List am) (f t u:List ai),A.length+B.length=n->(∀p∈B,p.Name.length<=d4)->f.length=t.length->u.length+B.length<=100000000->f.length+B.length<=1000000000->
  ∃f' t',kf 6 n f t u (A.length:Int) (A++B)=some (f',t',(gf dC (B.map (·.Name)) (zp f t) u).2.2,A++FQ B (gf dC (B.map (·.Name)) (zp f t) u).1)/\f'.length=t'.length/\f'.length=f.length+B.length/\zp f' t'=(gf dC (B.map (·.Name)) (zp f t) u).2.1
 | [],A,f,t,u,hA,_,hl,_,_ => ⟨f,t,by
   refine ki ?_
   show eU 6 n f t u (A.length:Int) (A++[])=_
   unfold eU lX
   rw[van (by simp only[List.length_nil,Nat.add_zero]at hA;simp[hA])]
   rfl,hl,rfl,rfl⟩
 | p :: B,A,f,t,u,hA,hs,hl,hu,hf => by
  simp only[vau]at hu hf hA
  have hs0:=hs p (by simp)
  obtain⟨f',t',e1,e2,e3,e4⟩:=Xr hn B (A++[⟨iS u p.Name,p.Type_⟩]) (f++[p.Name]) (t++[iS u p.Name]) (u++[iS u p.Name]) (by simp;omega) (λx hx=>hs x (by simp[hx])) (by simp[hl]) (by simp;omega) (by simp;omega)
  rw[S7 hl]at e1 e4
  refine⟨f',t',?_,e2,by rw[e3];simp;omega,e4⟩
  have hlt:A.length<n:=by omega
  have hb:eU 6 n f t u (A.length:Int) (A++p::B)=some (.inl (f++[p.Name],t++[iS u p.Name],u++[iS u p.Name],((A++[(⟨iS u p.Name,p.Type_⟩:am)]).length:Int),(A++[(⟨iS u p.Name,p.Type_⟩:am)])++B)):=by
   unfold eU lX
   rw[vah (by simpa using hlt)]
   simp only[vaa,pK hlt]
   rw[vah (by decide),(vZ u p.Name (by omega) (by unfold d4 at hs0;omega)).2.1,vaa,mU (by omega),b9 (by simp;omega),vaa,b9 (by simp;omega),vaa,b9 (by simp;omega),vaa,b9 (by simp;omega),vaa,b9 (by simp;omega),vaa,mG,vaa,Nv (by omega)]
   simp
  unfold kf at e1 ⊢
  rw[gP]
  simp only[hb]
  rw[e1]
  simp[gf,FQ,dC,zp]
theorem YW{o:Int}(h6:(o==6)=false)(n:Nat)(f t u:List ai)(ps:List am):kf o n f t u 0 ps=some (f,t,u,ps):=by
 refine ki ?_
 show eU o n f t u 0 ps=_
 unfold eU lX
 rw[h6]
 split<;>rfl
theorem qaH(o:Int)(m:ai)(f t u:List ai)(hm:m.length<=d4)(hl:f.length=t.length)(hu:u.length<100000000)(hf:f.length<1000000000):∃m1 h,ke f t o m=some m1/\ik f t u o m1=some h/\h.1.length=h.2.1.length/\h.1.length<=f.length+1/\zp h.1 h.2.1=(kQ io dC o m (zp f t) u).2.1/\h.2.2.1=(kQ io dC o m (zp f t) u).2.2/\h.2.2.2=(kQ io dC o m (zp f t) u).1:=by
 have hJ:ke f t o m=some (if(o==3||o==5)=true then(kT (zp f t) m).getD m else m):=by
  unfold ke vN
  rw[SU m hl (by omega)]
  cases(o==3)<;>cases(o==5)<;>rfl
 unfold kQ
 by_cases h3:(o==3||o==5)=true
 ·have h7:(o==7)=false:=by
   rw[va3,vaP,vaP]at h3
   rw[beq_eq_false_iff_ne];rcases h3 with rfl|rfl<;>decide
  rw[vah h3]at hJ
  refine⟨_,(f,t,u,(kT (zp f t) m).getD m),hJ,?_,hl,vca _,?_⟩
  ·unfold ik;rw[h7];rfl
  ·rw[vah h3];exact⟨rfl,rfl,rfl⟩
 ·rw[van h3]at hJ
  by_cases h7:(o==7)=true
  ·refine⟨_,(f++[m],t++[iS u m],u++[iS u m],iS u m),hJ,?_,by simp[hl],by simp,?_⟩
   ·unfold ik
    rw[vah h7,(vZ u m (by omega) (by unfold d4 at hm;omega)).2.1,vaa,mU (by omega),b9 (by simp;omega),vaa,b9 (by simp;omega),vaa,b9 (by simp;omega),vaa,b9 (by simp;omega),vaa,b9 (by simp;omega),vaa]
    rfl
   ·rw[van h3,vah h7];exact⟨S7 hl,rfl,rfl⟩
  ·refine⟨_,(f,t,u,m),hJ,?_,hl,vca _,?_⟩
   ·unfold ik;rw[van h7]
   ·rw[van h3,van h7];exact⟨rfl,rfl,rfl⟩
theorem TT:∀{ps:List am} {p:am},p∈ps->p.Name.length<=bD (ps.map aj)
 | q :: ps,p,h => by
  simp only[vaz,bD]
  rcases vaB.1 h with rfl|h
  ·have:=pq p;omega
  ·have:=TT h;omega
mutual
theorem SW:∀(e:ag) (f t u:List ai),fN (ae e)<=d4->f.length=t.length->u.length+nE e<=100000000->f.length+nE e<=1000000000->Vr e f t u=some (xt io dC e (zp f t) u)
 | ⟨o,m,k,ks,ps,as1,ts⟩,f,t,u,hpm,hl,hu,hf => by
  have hB:d4=1073741824:=rfl
  rw[jV]at hpm
  change 1+(m.length+1+(1+(bD (ks.map ae)+1+(bD (ps.map aj)+1+(bD (as1.map au)+1+(bD (ts.map ah)+1+0))))))<=_ at hpm
  rw[nE]at hu hf
  obtain⟨m1,h,q1,q2,q3,q4,q5,q6,q7⟩:=qaH o m f t u (by omega) hl (by omega) (by omega)
  have n3:=O0 (fe:=io) (fr:=dC) sO o m (zp f t) u
  have hP:∃p,kf o ps.length h.1 h.2.1 h.2.2.1 0 ps=some p/\p.1.length=p.2.1.length/\p.1.length<=h.1.length+ps.length/\zp p.1 p.2.1=(uA io dC o m ps (zp f t) u).2.1/\p.2.2.1=(uA io dC o m ps (zp f t) u).2.2/\p.2.2.2=(uA io dC o m ps (zp f t) u).1:=by
   show ∃p,_/\_/\_/\_=(lz dC (o==6) ps (kQ io dC o m (zp f t) u).2.1 (kQ io dC o m (zp f t) u).2.2).2.1/\_=(lz dC (o==6) ps (kQ io dC o m (zp f t) u).2.1 (kQ io dC o m (zp f t) u).2.2).2.2/\_=(lz dC (o==6) ps (kQ io dC o m (zp f t) u).2.1 (kQ io dC o m (zp f t) u).2.2).1
   rw[<-q5,<-q6]
   unfold lz
   by_cases h6:(o==6)=true
   ·have ho:=eq_of_beq h6
    subst ho
    obtain⟨f',t',e1,e2,e3,e4⟩:=Xr (n:=ps.length) (by omega) ps [] h.1 h.2.1 h.2.2.1 (by simp) (λp hp=>by have:=TT hp;omega) q3 (by rw[q6];omega) (by omega)
    refine⟨_,e1,e2,by simp only;omega,?_,?_,?_⟩
    ·rw[vah h6];exact e4
    ·rw[vah h6]
    ·rw[vah h6];rfl
   ·refine⟨_,YW (by simpa using h6) _ _ _ _ _,q3,vbB _ _,?_⟩
    rw[van h6]
    exact⟨rfl,rfl,rfl⟩
  obtain⟨p,p1,p2,p3,p4,p5,p6⟩:=hP
  have pu:(uA io dC o m ps (zp f t) u).2.2.length<=u.length+1+ps.length:=RV (fe:=io) sO o m ps (zp f t) u
  have hpl:ps.length=p.2.2.2.length:=by
   rw[p6]
   exact(O1 (fr:=dC) (o==6) ps _ _).symm
  have hz:zp (if(o==7)=true then f else p.1) (if(o==7)=true then t else p.2.1)=Vn io dC o m ps (zp f t) u:=by
   unfold Vn
   split
   ·rfl
   ·exact p4
  have hzl:(if(o==7)=true then f else p.1).length=(if(o==7)=true then t else p.2.1).length:=by split;exact hl;exact p2
  have hzf:(if(o==7)=true then f else p.1).length<=f.length+1+ps.length:=by split<;>omega
  have hK:=Xp ks _ _ p.1 p.2.1 p.2.2.1 (by omega) hzl p2 (by rw[p5];omega) (by omega) (by omega)
  rw[hz,p4,p5]at hK
  have k2:(ND io dC o m ps ks (zp f t) u).2.length<=(uA io dC o m ps (zp f t) u).2.2.length+qk ks:=G5 (fe:=io) sO ks (Vn io dC o m ps (zp f t) u) (uA io dC o m ps (zp f t) u).2.1 (uA io dC o m ps (zp f t) u).2.2
  have hA:=Xo as1 f t (ND io dC o m ps ks (zp f t) u).2 (by omega) hl (by omega) (by omega)
  rw[Vr,q1,vaa,q2,vaa,p1,vaa,nG hpl,vaa,p5,hK,vaa]
  show(YV as1 f t (ND io dC o m ps ks (zp f t) u).2).bind _=_
  rw[hA,vaa,DI,q7,p6]
theorem qaI:∀(a:az) (f t u:List ai),fN (au a)<=d4->f.length=t.length->u.length+nA a<=100000000->f.length+nA a<=1000000000->qcG a f t u=some (KT io dC a (zp f t) u)
 |⟨c,ns,b⟩,f,t,u,hpm,hl,hu,hf=>by
  have hB:d4=1073741824:=rfl
  rw[uS]at hpm
  change c.length+1+(bD (ns.map cS)+1+fN (ae b))<=_ at hpm
  rw[nA]at hu hf
  obtain⟨f',t',e1,e2,e3,e4⟩:=Xq ns f t u (λs hs=>by have:=Rg hs;omega) hl (by omega) (by omega)
  have b3:=DH (fr:=dC) sO ns (zp f t) u
  rw[qcG,b9 (by simp;omega),vaa,b9 (by simp;omega),vaa]
  simp only[vaR]
  rw[e1,vaa]
  show(Vr b f' t' (gf dC ns (zp f t) u).2.2).bind _=_
  rw[SW b f' t' _ (by omega) e2 (by omega) (by omega),vaa,e4,Ag]
theorem Xp:∀(l:List ag) (f0 t0 f1 t1 u:List ai),bD (l.map ae)<=d4->f0.length=t0.length->f1.length=t1.length->u.length+qk l<=100000000->f0.length+qk l<=1000000000->f1.length+qk l<=1000000000->Zp l f0 t0 f1 t1 u=some (vQ io dC l (zp f0 t0) (zp f1 t1) u)
 |[],f0,t0,f1,t1,u,_,_,_,_,_,_=>by rw[Zp,pH]
 |e::l,f0,t0,f1,t1,u,hpm,h0,h1,hu,hf0,hf1=>by
  rw[qk]at hu hf0 hf1
  simp only[vaz,bD]at hpm
  have e2:=OY (fe:=io) (fr:=dC) sO e (zp f0 t0) u
  rw[Zp,SW e f0 t0 u (by omega) h0 (by omega) (by omega),vaa,Xp l f1 t1 f1 t1 _ (by omega) h1 h1 (by omega) (by omega) (by omega),vaa,mb]
theorem Xo:∀(l:List az) (f t u:List ai),bD (l.map au)<=d4->f.length=t.length->u.length+sT l<=100000000->f.length+sT l<=1000000000->YV l f t u=some (ws io dC l (zp f t) u)
 |[],f,t,u,_,_,_,_=>by rw[YV,pG]
 |a::l,f,t,u,hpm,hl,hu,hf=>by
  rw[sT]at hu hf
  simp only[vaz,bD]at hpm
  have e2:=RX (fe:=io) (fr:=dC) sO a (zp f t) u
  rw[YV,qaI a f t u (by omega) hl (by omega) (by omega),vaa,Xo l f t _ (by omega) hl (by omega) (by omega),vaa,ma]
end
set_option maxRecDepth 100000
theorem R2:Bp=some true:=by kernel_rfl
section
variable{n y:ai}
mutual
theorem R0:∀(e:ag) (b:Bool),nE (JI n y e b)=nE e
 |⟨o,m,k,ks,ps,as1,ts⟩,b=>by
  rw[JI,nE,nE,V3 ks,V2 as1]
  have:(Qs n y (o==6) ps).length=ps.length:=by unfold Qs;split<;>simp
  rw[this]
theorem ZX:∀(a:az) (b:Bool),nA (By n y a b)=nA a
 |⟨c,ns,e⟩,b=>by rw[By,nA,nA,R0 e,vaO]
theorem V3:∀(l:List ag) (b0 b1:Bool),qk (NE n y l b0 b1)=qk l
 |[],b0,b1=>by rw[NE]
 |e::l,b0,b1=>by rw[NE,qk,qk,R0 e,V3 l]
theorem V2:∀(l:List az) (b:Bool),sT (Vp n y l b)=sT l
 |[],b=>by rw[Vp]
 |a::l,b=>by rw[Vp,sT,sT,ZX a,V2 l]
end
end
theorem Xl(e:ag)(n y:ai)(he:nE e<=50000000)(hy:y.length<=1073741824):Bj e n y=some (Vd e n y):=by
 have hb:nE e<=d4:=by unfold d4;omega
 have hl:(oI e).length<=nE e:=sH e
 rw[<-Xu]
 unfold Bj Xv
 by_cases h:(n==y)=true
 ·rw[vah h,vah h]
 ·rw[van h,van h,YR e hb,vaa,b9 (by simp;omega),vaa,(vZ _ y (by simp;omega) (by omega)).2.1,vaa]
  have h1:=wX (oI e)
  have hz:qi (oI e++[y]) y=Js e y:=by
   unfold Js
   rw[<-mU (by simp;omega)]
   refine Pt (λx=>?_) y
   rw[vaw,vaw,(D4 (oI e)).2]
  rw[hz]
  unfold Bl
  rw[vah (K3 e hb),vaa,SV _ _ _ (by rw[R0];exact hb)]
  rfl
theorem SS(e:ag)(he:Ca e)(hn:nE e<=50000000):xz e=some (YT e):=by
 have h1:=wX (Aq e)
 have h2:=wA e
 unfold xz
 rw[Xk e (by omega),vaa,<-qaJ]
 unfold xQ
 rw[vah (K3 e (C8 he)),SW e [] [] _ he rfl (by omega) (by simp;omega)]
 rfl
theorem Y4(e:ag)(n y:ai)(hy:y.length<=100)(hn:nE e<=50000000):fN (ae (Vd e n y))<=fN (ae e)+110 * nE e:=by
 have h1:=wX (oI e)
 have h2:(oI e).length<=nE e:=sH e
 have ho:(Js e y).length<=110:=by
  unfold Js
  rw[<-mU (by simp;omega)]
  have:=Ih (D3 (oI e)++[y]) y
  omega
 refine OW (fe:=dP n y) (fr:=gb y n (Js e y)) (B:=nE e) (λs=>?_) (λs u _=>?_) (qcb y n (Js e y)) e [] [] (λp hp=>by cases hp) (by simp)
 ·unfold dP
  split<;>omega
 ·show(Pb y n (Js e y) s).length<=_
  unfold Pb
  split<;>omega
theorem PX(x0:ag)(x1 x2:ai)(h:fN (ae x0)+(pm (.str x1)+(pm (.str x2)+0))<=1048576):nB x0 x1 x2=some true:=by
 have hm:fN (ae x0)<=1048576:=by omega
 have hx2:x2.length<=1048576:=by simp only[pm]at h;omega
 obtain⟨b,hb,_⟩:=Va x0 (by unfold Gn;omega)
 have hn:=TK x0
 have he:Ca x0:=by unfold Ca d4;omega
 unfold nB kP
 rw[hb,R2]
 simp only[vaa]
 cases b with
 |false=>simp
 | true =>
  simp only[vc7,vaD,if_false]
  by_cases hl:decide ((x1.length:Int)>100)=true
  ·simp[hl]
  ·simp only[hl,vaD,if_false,vaa]
   by_cases hl2:decide ((x2.length:Int)>100)=true
   ·simp[hl2]
   ·simp only[hl2,vaD,if_false]
    have hy:x2.length<=100:=by simp at hl2;omega
    have hp:=Y4 x0 x1 x2 hy (by omega)
    have hr:=YU x0 (by omega)
    have ho:Ca (Vd x0 x1 x2):=by unfold Ca d4;omega
    have ho2:Ca (YT x0):=by unfold Ca d4;omega
    have hR1:kl x0=some (YT x0):=Ud x0 he (by omega)
    rw[VA x0 x1 x2 he (by omega) (by omega),vaa,Xl x0 x1 x2 (by omega) (by omega),vaa,Ro _ _ ho ho,vaa,vcA rfl,vah rfl,hR1,vaa,SS x0 he (by omega),vaa,Ro _ _ ho2 ho2,vaa,vcA rfl,vah rfl]
end Go.Proofs.YtkdahfeiedaahaaGreatDoor
