/- PROVED: a part of the proof. Conditions: none. -/
import Derived.Test.YtibglelmlnfojaaGreatDoorpa17
import Derived.Test.YtibglelmlnfojaaGreatDoorpa16
set_option linter.unusedSimpArgs false
set_option linter.unusedVariables false
noncomputable section
namespace Go.Proofs.YtibglelmlnfojaaGreatDoor
open Go
set_option linter.unusedVariables false
set_option linter.unusedSimpArgs false
mutual
def Zd:ae->Prop
 |⟨o,n,as1,ns,p,ps⟩=>nj ⟨o,n,as1,ns,p,ps⟩=some 0/\Xb as1
def Xb:List ae->Prop
 |[]=>True
 |t::l=>Zd t/\Xb l
end
mutual
def qa1:ae->Nat
 |⟨_,_,as1,_,_,_⟩=>xU as1+1
def xU:List ae->Nat
 |[]=>0
 |t::l=>max (qa1 t) (xU l)
end
theorem Ij(t:ae):Zd t↔nj t=some 0/\Xb t.Args:=by obtain⟨o,n,as1,ns,p,ps⟩:=t;rw[Zd];exact Iff.rfl
theorem D2:∀(l:List ae),Xb l↔∀t∈l,Zd t
 |[]=>by simp[Xb]
 |t::l=>by rw[Xb,D2 l];simp
theorem Y6(t:ae):qa1 t=xU t.Args+1:=by obtain⟨o,n,as1,ns,p,ps⟩:=t;rw[qa1];rfl
theorem KW:∀(a b:List ae),xU (a++b)=max (xU a) (xU b)
 |[],b=>by simp[xU]
 |x::a,b=>by rw[vaL,xU,xU,KW a b];omega
theorem SO:∀{l:List ae} {x:ae},x∈l->qa1 x<=xU l
 | y :: l,x,h => by
  rw[xU]
  rcases vaF.1 h with rfl|h
  ·omega
  ·have:=SO h;omega
mutual
theorem VB:∀(t:ae),qa1 t<=fH t
 |⟨o,n,as1,ns,p,ps⟩=>by rw[qa1,fH];have:=SN as1;omega
theorem SN:∀(l:List ae),xU l<=yZ l
 |[]=>vaw _
 |t::l=>by rw[xU,yZ];have:=VB t;have:=SN l;omega
end
theorem qeb(a b:Nat):(if(b:Int)>(a:Int)then(b:Int)else(a:Int))=((max a b:Nat):Int):=by
 by_cases h:(b:Int)>(a:Int)
 ·rw[vad h];congr 1;omega
 ·rw[vab h];congr 1;omega
theorem qbD(t:ae)(ht:fH t<=cm):z8 t=some (qa1 t:Int):=by
 refine Ak (F:=yy) fH (λx=>fH x<=cm) (λx=>some (qa1 x:Int)) (λR t ht ih=>?_) t ht (iJ ht)
 have hB:fH t<=1073741824:=ht
 show sR (λt=>R t) t=_
 have hlen:=lM t
 have hd:=VB t
 unfold sR
 have h:=dM t.Args.length (λzz:Int×Int=>jw (λt=>R t) t.Args (t.Args.length:Int) zz.1 zz.2) (λi=>((xU (t.Args.take i):Int),(i:Int))) (xU t.Args:Int) (λi hi=>?_) ?_
 ·have h':vp (λt=>R t) t.Args (t.Args.length:Int) 0 0=some (xU t.Args:Int):=by unfold vp;simpa[xU]using h
  have e1:=Y6 t
  rw[h',vaa,cW (by omega) (by omega),e1]
  rfl
 ·show jw (λt=>R t) t.Args _ _ (i:Int)=_
  unfold jw
  have hm:t.Args[i]∈t.Args:=vah hi
  have hlt:=kH hm
  rw[vad (by simpa using hi),aM _ _ hi,vaa]
  show(R _).bind _=_
  rw[ih _ hlt (by unfold cm;omega),vaa]
  dsimp only
  rw[cW (by omega) (by omega),qeb,vay hi,KW]
  have:max (xU (t.Args.take i)) (qa1 t.Args[i])=max (xU (t.Args.take i)) (xU [t.Args[i]]):=by rw[xU,xU];omega
  rw[this]
  rfl
 ·show jw (λt=>R t) t.Args _ _ (t.Args.length:Int)=_
  unfold jw
  rw[vab (by simp),va1]
theorem qbL(t:ae)(ht:fH t<=cm):gu (Aa t) (λr=>(r !=0)=false->Zd t):=by
 refine tN (F:=ww) fH (λx=>fH x<=cm) (λx r=>(r !=0)=false->Zd x) (λR x hx ih=>?_) t ht (iJ ht)
 show gu (j4 (λt=>R t) x) _
 unfold j4 oR
 have h1:=lM x
 obtain⟨q,hq,_⟩:=NG x
 refine dJ hq (aD (λh=>am (λh'=>by rw[h]at h';cases h')) λh=>aA (jT x.Args (by unfold cm at hx;omega) _ Zd (λr=>(r !=0)=true) (λi=>rfl) (λy hy i=>aA (ih _ (kH hy) (by have:=kH hy;omega)) λr hr=>aD (λh=>am h) λh=>am ⟨rfl,hr (by simpa using h)⟩)) λo ho=>?_)
 cases o with
 |inl r=>
  have ho:(r !=0)=true:=ho
  exact am λh'=>by rw[ho]at h';cases h'
 |inr _=>
  have hq0:q=0:=by simpa using h
  exact am λ_=>(Ij x).2 ⟨by rw[hq,hq0],(D2 _).2 ho⟩
theorem qbJ(t:ae)(ht:fH t<=cm)(h:Zd t):Aa t=some 0:=by
 refine Ak (F:=ww) fH (λx=>fH x<=cm/\Zd x) (λx=>some 0) (λR x hx ih=>?_) t ⟨ht,h⟩ (iJ ht)
 show j4 (λt=>R t) x=_
 have hB:fH x<=1073741824:=hx.1
 have h1:=lM x
 have h2:=(Ij x).1 hx.2
 unfold j4
 rw[h2.1]
 simp only[vaa]
 rw[vab (by simp)]
 have hL:oR (λt=>R t) x.Args (x.Args.length:Int) 0=some (.inr ()):=by
  unfold oR
  refine dM x.Args.length _ (λi=>(i:Int)) _ (λi hi=>?_) ?_
  ·simp only[zr]
   have hm:x.Args[i]∈x.Args:=vah hi
   rw[vad (by simpa using hi),aM _ _ hi,vaa]
   rw[ih _ (kH hm) ⟨by have:=kH hm;unfold cm;omega,(D2 _).1 h2.2 _ hm⟩,vaa]
   rw[vab (by simp),cW (by omega) (by omega),show((i:Int)+1)=((i+1:Nat):Int) by omega]
  ·simp only[zr]
   rw[vab (by simp)]
 rw[hL]
 rfl
abbrev qee(t:ae):Prop:=ig t=some 0
theorem Mq(t:ae)(ht:fH t<=cm):qee t↔qa1 t<=40/\Zd t:=by
 unfold qee ig
 rw[qbD t ht]
 simp only[vaa]
 constructor
 ·intro h
  rcases n9 h with⟨hc,h⟩|⟨hc,h⟩
  ·cases h
  ·obtain⟨r,e,hr⟩:=qbL t ht
   rw[e]at h
   have h0:r=0:=by simpa using h
   exact⟨by simp at hc;omega,hr (by rw[h0];rfl)⟩
 ·intro⟨h1,h2⟩
  rw[vab (by simp;omega),qbJ t ht h2]
  rfl
theorem qb4{t a:ae}(ht:fH t<=cm)(h:qee t)(ha:a∈t.Args):qee a:=by
 obtain⟨h1,h2⟩:=(Mq t ht).1 h
 have:=kH ha
 refine(Mq a (by omega)).2 ⟨?_,(D2 _).1 ((Ij t).1 h2).2 a ha⟩
 have:=SO ha
 rw[Y6]at h1
 omega
def qf9(t:ae):Prop:=(1<=t.Op/\t.Op<=6)/\(t.Op=6->2<=t.Args.length/\(t.Names=[]\/t.Names.length=t.Args.length - 1))
theorem V0(t:ae)(ht:fH t<=cm)(h:nj t=some 0):qf9 t:=by
 have hlen:=lM t
 have hB:fH t<=1073741824:=ht
 unfold nj at h
 obtain⟨o1,e1,h⟩:=Gd h
 rcases n9 h with⟨c,h⟩|⟨c,h⟩
 ·cases h
 obtain⟨o2,e2,h⟩:=Gd h
 rcases n9 h with⟨c2,h⟩|⟨c2,h⟩
 ·cases h
 obtain⟨o3,e3,h⟩:=Gd h
 rcases n9 h with⟨c3,h⟩|⟨c3,h⟩
 ·cases h
 subst c c3
 refine⟨?_,λh6=>?_⟩
 ·unfold ip at e1
  rcases n9 e1 with⟨c,e1⟩|⟨c,e1⟩
  ·cases e1
  rcases n9 e1 with⟨c',e1⟩|⟨c',e1⟩
  ·cases e1
  simp at c c'
  omega
 ·unfold jW at e3
  rw[vad (by simp[h6])]at e3
  rcases n9 e3 with⟨c,e3⟩|⟨c,e3⟩
  ·cases e3
  rcases n9 e3 with⟨c',e3⟩|⟨c',e3⟩
  ·cases e3
  simp at c c'
  refine⟨by omega,?_⟩
  rcases n9 e3 with⟨d,e3⟩|⟨d,e3⟩
  ·right
   have e3:=va3 e3
   rw[cW (by omega) (by omega)]at e3
   simp at e3
   omega
  ·left
   have:t.Names.length=0:=by simp at d;simp[d]
   exact vam this
theorem qef{t:ae}(ht:fH t<=cm)(h:qee t):qf9 t:=V0 t ht ((Ij t).1 ((Mq t ht).1 h).2).1
def pW(p:aa):Wr:=((ED p).1,(ED p).2 !=0)
def OC(p:aa):Wr:=if p=dK then tW eC else pW p
def qf7(a:ae):Bool:=decide (a.Pred=dK)&&(a.Op==6||(decide ((a.Args.length:Int)>0)||decide ((a.Preds.length:Int)>0)))
def R7(f:ae->Wr)(a:ae):Wr:=if qf7 a=true then aJ [tW cd,f a,tW bA]else f a
def Kq(l:List aa):List Wr:=if l=[]then[]else tW tO::(eU ax (l.map λp=>aJ [tW ed,OC p])++[tW EJ])
def SK(f:ae->Wr)(t:ae):List Wr:=qa true t.Name::(t.Args.flatMap (λa=>[tW ce,R7 f a])++Kq t.Preds)
def ub(f:ae->Wr)(ns:List ah)(x:ae×Nat):Wr:=aJ ((if ns=[]then[]else[qa false (ns.getD x.2 []),tW aS])++[f x.1])
def Nr(f:ae->Wr)(l:List ae):Wr:=((l[l.length - 1]?).map f).getD ([],false)
def Zf(f:ae->Wr)(t:ae):List Wr:=tW cd::(eU ax ((t.Args.take (t.Args.length - 1)).zipIdx.map (ub f t.Names))++[tW aR,Nr f t.Args])
def s9(f:ae->Wr)(t:ae):List Wr:=if t.Op=1 then[tW Lg]else if t.Op=2 then[tW EG]else if t.Op=3 then[tW EH]else if t.Op=5 then[qa false t.Name]else if t.Op=4 then SK f t else if t.Op=6 then Zf f t else[]
def Xh(t:ae):Bool:=(t.Op==6&&(!decide (t.Pred=dK)||decide ((t.Preds.length:Int)>0)))||(t.Op !=4&&decide ((t.Preds.length:Int)>0))
def Cs(f:ae->Wr)(t:ae):List Wr:=([],Xh t)::((if t.Pred=dK then[]else[tW dB])++(s9 f t++(if t.Pred=dK then[]else[tW fM,pW t.Pred,tW C0])))
def AU:Nat->ae->Wr
 |0,_=>([],false)
 |n+1,t=>aJ (Cs (AU n) t)
abbrev re(t:ae):Prop:=ff (aj t)<=16777216
theorem P6(t:ae):ff (aj t)=1+(t.Name.length+1)+(d8 (t.Args.map aj)+1)+(d8 (t.Names.map cS)+1)+ff (ac t.Pred)+(d8 (t.Preds.map ac)+1):=by
 rw[Ei,Eh]
 simp only[pm,sl]
 omega
theorem Ci{t a:ae}(h:re t)(ha:a∈t.Args):re a:=by
 have h1:=P6 t
 have h2:=AA (vaq.2 ⟨a,ha,rfl⟩:aj a∈t.Args.map aj)
 unfold re at *
 omega
theorem qz{t:ae}(h:re t):ff (ac t.Pred)<=16777216:=by have h1:=P6 t;unfold re at *;omega
theorem AT{t:ae}(h:re t){p:aa}(hp:p∈t.Preds):ff (ac p)<=16777216:=by
 have h1:=P6 t
 have h2:=AA (vaq.2 ⟨p,hp,rfl⟩:ac p∈t.Preds.map ac)
 unfold re at *
 omega
theorem qy{t:ae}(h:re t):fH t<=cm:=vau (Mn t) (vau h (by unfold cm;omega))
theorem xp(p:aa)(h:ff (ac p)<=16777216):mb p=some (decide (p=dK)):=by
 unfold mb
 have:=R5 p dK (vau (K3 p) (vau h (by unfold cm;omega)))
 unfold dK at this
 rw[this]
 rfl
theorem Wi(p:aa)(h:ff (ac p)<=16777216)(k:List Int)(b:Bool):RS eD Prod.mk k b [pW p] (iD p k b):=by
 unfold iD
 have hJ:iE (ED p).2 b=some (b||(pW p).2):=by unfold iE pW;cases b<;>rfl
 refine dw (qfQ p h) (dw hJ ?_)
 exact RS.cast (ws:=[([],(pW p).2),tW (ED p).1]) (qcs (bS ay (fk _ k _) λk'=>bm (mk:=Prod.mk) ay)) (by simp[aJ,pW])
theorem qck(p:aa)(h:ff (ac p)<=16777216)(k:List Int)(b:Bool):RS eD Prod.mk k b [OC p] (kj p k b):=by
 unfold kj OC
 refine dw (xp p h) (fi (λhc=>?_) λhc=>?_)
 ·rw[vad (by simpa using hc)]
  exact bS ay (fk _ k _) λk'=>bm (mk:=Prod.mk) ay
 ·rw[vab (by simpa using hc)]
  exact bI ay (Wi p h k b) λk' b'=>bm (mk:=Prod.mk) ay
theorem X4(a:ae)(h:ff (ac a.Pred)<=16777216):g5 a=some (qf7 a):=by
 unfold g5 qf7
 rw[xp _ h]
 simp only[vaa]
 generalize decide (a.Pred=dK)=z
 generalize (a.Op==6)=x
 generalize decide ((a.Args.length:Int)>0)=y
 cases z<;>cases x<;>cases y<;>rfl
theorem AV(n:Nat)(t:ae):AU (n+1) t=aJ (Cs (AU n) t):=rfl
theorem qcD{l:List ae}{i:Nat}(hi:i<(l.take (l.length - 1)).zipIdx.length):∃h:i<l.length,((l.take (l.length - 1)).zipIdx)[i]=(l[i],i):=by
 rw[vc2,vba]at hi
 refine⟨by omega,?_⟩
 rw[List.getElem_zipIdx]
 simp
section
variable{f:ae->Wr}{R:ae->List Int->Bool->Option (Bool×List Int)}
theorem qel(a:ae)(h:re a)(hR:∀k b,RS eD Ue k b [f a] (R a k b))(k:List Int)(b:Bool):RS eD Prod.mk k b [R7 f a] (ki R a k b):=by
 unfold ki R7
 refine dw (X4 a (qz h)) (fi (λhc=>?_) λhc=>?_)
 ·rw[vad hc]
  exact RS.one (bS ay (fk _ k b) λk1=>bI ay (hR k1 b) λk2 b2=>bS ay (fk _ k2 b2) λk3=>bm (mk:=Prod.mk) ay)
 ·rw[vab (by simp[hc])]
  exact bI ay (hR k b) λk1 b1=>bm (mk:=Prod.mk) ay
theorem NM(l:List ae)(hl:l.length<9223372036854775808)(hs:∀a∈l,re a)(hR:∀a∈l,∀k b,RS eD Ue k b [f a] (R a k b))(k:List Int)(b:Bool):RS eD Prod.mk k b (l.flatMap λa=>[tW ce,R7 f a]) (jo R l (l.length:Int) 0 k b):=by
 unfold jo
 refine qes ay l hl (λa=>[tW ce,R7 f a]) (λi hi k b=>?_) (λk b=>?_)
 ·show RS _ _ _ _ _ (d9 R l (l.length:Int) (i:Int) k b)
  unfold d9
  rw[vad (Xt hi)]
  exact dw (aM _ _ hi) (bS ay (fk _ k b) λk1=>bI ay (qel _ (hs _ (vah hi)) (hR _ (vah hi)) k1 b) λk2 b2=>bm ay)
 ·show d9 R l (l.length:Int) (l.length:Int) k b=_
  unfold d9
  rw[vab (Xs _)]
theorem qek(t:ae)(hl:t.Preds.length<9223372036854775808)(hs:∀p∈t.Preds,ff (ac p)<=16777216)(k:List Int)(b:Bool):RS eD Prod.mk k b (eU ax (t.Preds.map λp=>aJ [tW ed,OC p])) (gY (t.Preds.length:Int) t k b):=by
 unfold gY iN
 have h:=Hf (k:=k) (b:=b) ay t.Preds hl ax (λp=>aJ [tW ed,OC p]) (body:=λzz:Int×List Int×Bool=>cE t (t.Preds.length:Int) zz.1 zz.2.1 zz.2.2) (λi hi k b=>?_) (λk b=>?_)
 ·exact(eh ay h λk b=>bm (mk:=Prod.mk) ay).cast (by rw[vaC])
 ·show RS _ _ _ _ _ (cE t (t.Preds.length:Int) (i:Int) k b)
  unfold cE
  rw[vad (Xt hi)]
  refine xu ay (G2 ax i k b) λk1=>bI ay (mk:=Prod.mk) (w:=aJ [tW ed,OC t.Preds[i]]) (RS.one ?_) λk2 b2=>bm ay
  unfold oJ
  exact bS ay (fk _ k1 b) λk2=>dw (aM _ _ hi) (bI ay (qck _ (hs _ (vah hi)) k2 b) λk3 b3=>bm (mk:=Prod.mk) ay)
 ·show cE t (t.Preds.length:Int) (t.Preds.length:Int) k b=_
  unfold cE
  rw[vab (Xs _)]
theorem qjc(t:ae)(h6:2<=t.Args.length/\(t.Names=[]\/t.Names.length=t.Args.length - 1))(hl:t.Args.length<9223372036854775808)(hR:∀a∈t.Args,∀k b,RS eD Ue k b [f a] (R a k b))(k:List Int)(b:Bool):RS eD Prod.mk k b (Zf f t) (gZ R t k b):=by
 unfold gZ Zf
 have hw:dU ((t.Args.length:Int) - 1)=((t.Args.length - 1:Nat):Int):=by rw[cW (by omega) (by omega)];omega
 rw[hw]
 have hlen:((t.Args.take (t.Args.length - 1)).zipIdx).length=t.Args.length - 1:=by rw[vc2,vba];omega
 have hlast:Nr f t.Args=f (t.Args[t.Args.length - 1]'(by omega)):=by
  unfold Nr
  rw[vac (by omega)]
  rfl
 rw[hlast]
 refine bS ay (fk _ k b) λk1=>eh ay (mk:=Prod.mk) ?_ λk2 b2=>bS ay (fk _ k2 b2) λk3=>dw (aM _ _ (by omega)) (bI ay (hR _ (vah _) k3 b2) λk4 b4=>bm (mk:=Prod.mk) ay)
 unfold kK iO
 have h:=Hf (k:=k1) (b:=b) ay ((t.Args.take (t.Args.length - 1)).zipIdx) (by omega) ax (ub f t.Names) (body:=λzz:Int×List Int×Bool=>cF R t ((t.Args.length - 1:Nat):Int) zz.1 zz.2.1 zz.2.2) (λi hi k b=>?_) (λk b=>?_)
 ·exact(eh ay h λk b=>bm (mk:=Prod.mk) ay).cast (by rw[vaC])
 ·show RS _ _ _ _ _ (cF R t ((t.Args.length - 1:Nat):Int) (i:Int) k b)
  unfold cF
  obtain⟨hi',e⟩:=qcD hi
  rw[vad (Xt (by rw[hlen]at hi;exact hi)),e]
  refine xu ay (G2 ax i k b) λk1=>bI ay (mk:=Prod.mk) (w:=ub f t.Names (t.Args[i],i)) (RS.one ?_) λk2 b2=>bm ay
  unfold jM
  refine eh ay (mk:=Prod.mk) ?_ λk2 b2=>dw (aM _ _ hi') (bI ay (hR _ (vah _) k2 b2) λk3 b3=>bm (mk:=Prod.mk) ay)
  unfold gM
  by_cases hn:t.Names=[]
  ·rw[vad hn,vab (by simp[hn])]
   exact bm (mk:=Prod.mk) ay
  ·have hln:=h6.2.resolve_left hn
   have hin:i<t.Names.length:=by rw[hlen]at hi;omega
   rw[vab hn,vad (by simp;omega)]
   have eg:t.Names.getD i []=t.Names[i]:=by simp[List.getD,hin]
   simp only[]
   rw[eg]
   exact dw (aM _ _ hin) (bI ay (La _ k1 b) λk2 b2=>bS ay (fk _ k2 b2) λk3=>bm (mk:=Prod.mk) ay)
 ·show cF R t ((t.Args.length - 1:Nat):Int) (_:Int) k b=_
  unfold cF
  rw[hlen,vab (Xs _)]
theorem qjd(t:ae)(h:re t):jl t=some (Xh t):=by
 unfold jl Xh
 rw[xp _ (qz h)]
 simp only[vaa]
 generalize (t.Op==6)=A
 generalize (t.Op !=4)=B
 generalize decide (t.Pred=dK)=C
 generalize decide ((t.Preds.length:Int)>0)=D
 cases A<;>cases B<;>cases C<;>cases D<;>rfl
theorem qc6(t:ae)(ht:re t)(hs:qf9 t)(hR:∀a∈t.Args,∀k b,RS eD Ue k b [f a] (R a k b))(k:List Int)(b:Bool):RS eD Prod.mk k b (s9 f t) (jn R t k b):=by
 have hlen:=lM t
 have hplen:=AD t
 have hB:fH t<=1073741824:=qy ht
 unfold jn s9
 refine fi (λhc=>?_) λhc=>?_
 ·rw[vad (by simpa using hc)]
  exact bS ay (fk _ k b) λk1=>bm (mk:=Prod.mk) ay
 rw[vab (by simpa using hc)]
 refine fi (λhc=>?_) λhc=>?_
 ·rw[vad (by simpa using hc)]
  exact bS ay (fk _ k b) λk1=>bm (mk:=Prod.mk) ay
 rw[vab (by simpa using hc)]
 refine fi (λhc=>?_) λhc=>?_
 ·rw[vad (by simpa using hc)]
  exact bS ay (fk _ k b) λk1=>bm (mk:=Prod.mk) ay
 rw[vab (by simpa using hc)]
 refine fi (λhc=>?_) λhc=>?_
 ·rw[vad (by simpa using hc)]
  exact bI ay (La _ k b) λk1 b1=>bm (mk:=Prod.mk) ay
 rw[vab (by simpa using hc)]
 refine fi (λhc=>?_) λhc=>?_
 ·rw[vad (by simpa using hc)]
  unfold SK
  refine bI ay (U4 _ k b) λk1 b1=>eh ay (NM t.Args (by omega) (λa ha=>Ci ht ha) hR k1 b1) λk2 b2=>?_
  unfold Kq
  refine fi (λhp=>?_) λhp=>?_
  ·rw[vab (λe=>by rw[e]at hp;simp at hp)]
   exact bS ay (fk _ k2 b2) λk3=>eh ay (qek t (by omega) (λp hp=>AT ht hp) k3 b2) λk4 b4=>bS ay (fk _ k4 b4) λk5=>bm (mk:=Prod.mk) ay
  ·rw[vad (vam (by simp at hp;simp[hp]))]
   exact bm (mk:=Prod.mk) ay
 rw[vab (by simpa using hc)]
 refine fi (λhc=>?_) λhc=>?_
 ·rw[vad (by simpa using hc)]
  exact(eh ay (qjc t (hs.2 (by simpa using hc)) (by omega) hR k b) λk1 b1=>bm (mk:=Prod.mk) ay).cast (by rw[vaC])
 ·rw[vab (by simpa using hc)]
  exact bm (mk:=Prod.mk) ay
theorem qen(t:ae)(ht:re t)(hs:qf9 t)(hR:∀a∈t.Args,∀k b,RS eD Ue k b [f a] (R a k b))(k:List Int)(b:Bool):RS eD Ue k b (Cs f t) (kk R t k b):=by
 unfold kk Cs
 refine dw (qjd t ht) (fi (λhc=>R0 (by rw[bT,hc];rfl)) λhc=>?_)
 rw[hc]
 refine RS.cast (ws:=(if t.Pred=dK then[]else[tW dB])++(s9 f t++(if t.Pred=dK then[]else[tW fM,pW t.Pred,tW C0]))) (dw (xp _ (qz ht)) ?_) (by rw[bT];simp)
 by_cases hz:t.Pred=dK
 ·rw[vad hz,vad hz,vaJ]
  simp only[hz,decide_true,vcZ]
  unfold jm
  simp only[vaD,if_false,vaa]
  exact eh ay (qc6 t ht hs hR k b) λk1 b1=>bm (mk:=Ue) ay
 ·rw[vab hz,vab hz,List.singleton_append]
  simp only[hz,decide_false,Bool.not_false]
  unfold jm
  simp only[if_true]
  refine bS ay (qdk (fk _ k b)) λk1=>eh ay (qc6 t ht hs hR k1 b) λk2 b2=>?_
  exact bS ay (fk _ k2 b2) λk3=>bI ay (Wi _ (qz ht) k3 b2) λk4 b4=>bS ay (fk _ k4 b4) λk5=>bm (mk:=Ue) ay
end
theorem qje(t:ae)(n:Nat)(hn:fH t<=n)(ht:re t)(hc:qee t)(k:List Int)(b:Bool):RS eD Ue k b [AU n t] (rG t k b):=by
 have key:∀m n t k b,fH t<m->fH t<=n->re t->qee t->RS eD Ue k b [AU n t] (qcX oK m (t,k,b)):=by
  intro m
  induction m with
  |zero=>intro n t k b h;omega
  |succ m ih=>
   intro n t k b hm hn ht hc
   have hp:=Ns t
   obtain⟨n,rfl⟩:∃n',n=n'+1:=⟨n - 1,by omega⟩
   rw[AV]
   exact RS.one (qen t ht (qef (qy ht) hc) (λa ha k b=>ih n a k b (by have:=kH ha;omega) (by have:=kH ha;omega) (Ci ht ha) (qb4 (qy ht) hc ha)) k b)
 exact key _ n t k b (Nat.lt_of_le_of_lt (qy ht) (by unfold Uo cm;omega)) hn ht hc
def qeO(n:Nat)(t:ae):Wr:=if ig t=some 0 then AU n t else([],true)
theorem qfv(t:ae)(ht:re t):∃r,ig t=some r/\mf t=some r:=by
 obtain⟨r,e,_⟩:=yk t (qy ht)
 exact⟨r,e,by rw[Ky,e]⟩
theorem Ee(t:ae)(n:Nat)(hn:fH t<=n)(ht:re t)(k:List Int)(b:Bool):RS eD Ue k b [qeO n t] (dt t k b):=by
 obtain⟨r,e1,e2⟩:=qfv t ht
 unfold dt qeO
 refine dw e2 (fi (λh=>?_) λh=>?_)
 ·rw[vab (by rw[e1];simpa using h)]
  exact R0 (by simp[aJ])
 ·have h0:r=0:=by simpa using h
  subst h0
  rw[vad e1]
  exact bI ay (qje t n hn ht e1 k b) λk1 b1=>bm (mk:=Ue) ay
theorem Mc(e:af)(s:Int)(he:nE e<=cm):ng e s=Di (λs x=>gQ x s) (cp e) s:=by
 refine WH (F:=kT) (λs x=>gQ x s) (λR e s he=>?_) e s he
 show ib (λe k=>R (e,k)) e s=_
 unfold ib
 congr 1
 funext r
 obtain⟨b,s'⟩:=r
 cases b with
 |false=>rfl
 | true =>
  rw[vab (show ¬((!(true,s').1)=true) by simp)]
  refine Qo (λs x=>R (x,s)) e he s' (λzz=>df (λe k=>R (e,k)) e.Kids e.Kids.length zz.1 zz.2) (λzz=>dg (λe k=>R (e,k)) e.Alts e.Alts.length zz.1 zz.2) (λi h s=>?_) (λs=>?_) (λi h s=>?_) (λs=>?_) (λ_=>rfl) (λ_=>rfl) (λ_=>rfl) (λ_=>rfl)
  ·show df (λe k=>R (e,k)) e.Kids e.Kids.length i s=_
   unfold df
   rw[vad (by simpa using h),aM _ _ h];rfl
  ·show df (λe k=>R (e,k)) e.Kids e.Kids.length e.Kids.length s=_
   unfold df
   rw[vab (by simp)]
  ·show dg (λe k=>R (e,k)) e.Alts e.Alts.length i s=_
   unfold dg
   rw[vad (by simpa using h),aM _ _ h];rfl
  ·show dg (λe k=>R (e,k)) e.Alts e.Alts.length e.Alts.length s=_
   unfold dg
   rw[vab (by simp)]
theorem Mb(e:af)(s:Int)(he:nE e<=cm):jr e s=Di (λs x=>gP x s) (cp e) s:=by
 refine WH (F:=kS) (λs x=>gP x s) (λR e s he=>?_) e s he
 show hZ (λe k=>R (e,k)) e s=_
 unfold hZ
 congr 1
 funext r
 obtain⟨b,s'⟩:=r
 cases b with
 |false=>rfl
 | true =>
  rw[vab (show ¬((!(true,s').1)=true) by simp)]
  refine Qo (λs x=>R (x,s)) e he s' (λzz=>dc (λe k=>R (e,k)) e.Kids e.Kids.length zz.1 zz.2) (λzz=>de (λe k=>R (e,k)) e.Alts e.Alts.length zz.1 zz.2) (λi h s=>?_) (λs=>?_) (λi h s=>?_) (λs=>?_) (λ_=>rfl) (λ_=>rfl) (λ_=>rfl) (λ_=>rfl)
  ·show dc (λe k=>R (e,k)) e.Kids e.Kids.length i s=_
   unfold dc
   rw[vad (by simpa using h),aM _ _ h];rfl
  ·show dc (λe k=>R (e,k)) e.Kids e.Kids.length e.Kids.length s=_
   unfold dc
   rw[vab (by simp)]
  ·show de (λe k=>R (e,k)) e.Alts e.Alts.length i s=_
   unfold de
   rw[vad (by simpa using h),aM _ _ h];rfl
  ·show de (λe k=>R (e,k)) e.Alts e.Alts.length e.Alts.length s=_
   unfold de
   rw[vab (by simp)]
theorem YC(e:af)(he:nE e<=cm):wa e=some ((cp e).length:Int):=by
 have hB:nE e<=1073741824:=he
 have hn:=V1 e
 have key:∀(l:List af) (k:Nat),k+l.length<=1073741824->Di (λs x=>gQ x s) l (k:Int)=some (true,((k+l.length:Nat):Int)):=by
  intro l
  induction l with
  |nil=>intro k _;rfl
  | cons x l ih =>
   intro k hk
   simp only[vaM]at hk
   have e1:gQ x (k:Int)=some (true,((k+1:Nat):Int)):=by
    unfold gQ
    rw[cW (by omega) (by omega)];rfl
   rw[Di,e1]
   show Di _ l ((k+1:Nat):Int)=_
   rw[ih (k+1) (by omega)]
   simp only[vaM]
   congr 3;omega
 unfold wa
 rw[Mc e 0 he]
 have:=key (cp e) 0 (by omega)
 rw[vaT]at this
 rw[show(0:Int)=((0:Nat):Int)from rfl,this];rfl
theorem JD(e:af)(he:nE e<=cm):rj e=some (ba e):=by
 have hB:nE e<=1073741824:=he
 have l1:=yL e
 have l2:e.Kids.length+e.Alts.length<nE e:=by simpa[ba]using l1
 unfold rj
 rw[pK (by simp;omega)]
 show(nk e ([]++e.Kids) 0).bind _=_
 have h:=dM e.Alts.length (λzz:(List af)×Int=>fU e zz.1 zz.2) (λi=>(e.Kids++(e.Alts.take i).map (·.Body),(i:Int))) (ba e) (λi hi=>?_) ?_
 ·rw[vaJ]
  have h':nk e e.Kids 0=some (ba e):=by unfold nk;simpa using h
  rw[h'];rfl
 ·show fU e _ (i:Int)=_
  unfold fU
  rw[vad (by simpa using hi),aM _ _ hi,vaa,pK (by simp;omega),vaa,cW (by omega) (by omega),vay hi,vaB,<-vag]
  rfl
 ·show fU e _ (e.Alts.length:Int)=_
  unfold fU
  rw[vab (by simp),va1];rfl
theorem qez{l:List af}{n:Nat}(h:(l.map λx=>(cp x).length).sum<=n)(i:Nat):((l.take i).map λx=>(cp x).length).sum<=n:=by
 have e1:l.take i++l.drop i=l:=vbD i l
 have:(l.map λx=>(cp x).length).sum=((l.take i).map λx=>(cp x).length).sum+((l.drop i).map λx=>(cp x).length).sum:=by rw[<-vaQ,<-vaB,e1]
 omega
theorem Fj(e:af)(he:nE e<=cm):EM e=some ((cp e).length:Int):=by
 have hB:nE e<=1073741824:=he
 refine sj (F:=DC) nE (λx=>nE x<=cm) (λx=>((cp x).length:Int)) (λR e he ih=>?_) e he (iJ he)
 have hB:nE e<=1073741824:=he
 show yz (λe=>R e) e=_
 unfold yz
 rw[JD e he,vaa]
 have hn:=V1 e
 have hlen:=yL e
 have e1:(cp e).length=1+((ba e).map λx=>(cp x).length).sum:=by rw[pd,vaM,vcR];omega
 have hs:((ba e).map λx=>(cp x).length).sum<=1073741824:=by omega
 have h:=dM (ba e).length (λzz:Int×Int=>gv (λe=>R e) (ba e) zz.1 zz.2) (λi=>(((1+(((ba e).take i).map λx=>(cp x).length).sum:Nat):Int),(i:Int))) (((cp e).length:Nat):Int) (λi hi=>?_) ?_
 ·have h':vq (λe=>R e) (ba e) 1 0=some ((cp e).length:Int):=by unfold vq;simpa using h
  rw[h'];rfl
 ·show gv (λe=>R e) (ba e) _ (i:Int)=_
  unfold gv
  have hm:(ba e)[i]∈ba e:=vah hi
  have hlt:=ET hm
  have s1:=qez hs (i+1)
  have s2:(((ba e).take (i+1)).map λx=>(cp x).length).sum=(((ba e).take i).map λx=>(cp x).length).sum+(cp (ba e)[i]).length:=by
   rw[vay hi,vaB,vaQ];simp
  rw[vad (by simpa using hi),aM _ _ hi,vaa]
  show(R _).bind _=_
  rw[ih _ hlt (by unfold cm;omega),vaa]
  dsimp only
  rw[cW (by omega) (by omega),cW (by omega) (by omega)]
  congr 3;omega
 ·show gv (λe=>R e) (ba e) _ ((ba e).length:Int)=_
  unfold gv
  rw[vab (by simp),va1]
  congr 2;omega
theorem MZ(l:List af)(i:Nat)(h:i<l.length):EW (l.take (i+1))=max (EW (l.take i)) (dE l[i]):=by
 rw[vay h,BA];simp[EW]
theorem Rm(a b:Nat):(if(b:Int)>(a:Int)then(b:Int)else(a:Int))=((max a b:Nat):Int):=by
 by_cases h:(b:Int)>(a:Int)
 ·rw[vad h];congr 1;omega
 ·rw[vab h];congr 1;omega
theorem Ks(e:af)(he:nE e<=cm):Ps e=some (dE e:Int):=by
 have hB:nE e<=1073741824:=he
 refine sj (F:=KO) nE (λx=>nE x<=cm) (λx=>(dE x:Int)) (λR e he ih=>?_) e he (iJ he)
 have hB:nE e<=1073741824:=he
 show DB (λe=>R e) e=_
 unfold DB
 rw[JD e he,vaa]
 have hlen:=yL e
 have hd:=qcQ e
 have h:=dM (ba e).length (λzz:Int×Int=>jx (λe=>R e) (ba e) zz.1 zz.2) (λi=>((EW ((ba e).take i):Int),(i:Int))) (EW (ba e):Int) (λi hi=>?_) ?_
 ·have h':Bp (λe=>R e) (ba e) 0 0=some (EW (ba e):Int):=by unfold Bp;simpa[EW]using h
  have e1:=JI e
  rw[h',vaa,cW (by omega) (by omega),e1];rfl
 ·show jx (λe=>R e) (ba e) _ (i:Int)=_
  unfold jx
  have hm:(ba e)[i]∈ba e:=vah hi
  have hlt:=ET hm
  rw[vad (by simpa using hi),aM _ _ hi,vaa]
  show(R _).bind _=_
  rw[ih _ hlt (by unfold cm;omega),vaa]
  dsimp only
  rw[cW (by omega) (by omega),Rm,MZ _ _ hi]
  rfl
 ·show jx (λe=>R e) (ba e) _ ((ba e).length:Int)=_
  unfold jx
  rw[vab (by simp),va1]
theorem Yz(e:af)(he:nE e<=cm):Cm e=some (dE e:Int):=by
 have hB:nE e<=1073741824:=he
 refine sj (F:=xx) nE (λx=>nE x<=cm) (λx=>(dE x:Int)) (λR e he ih=>?_) e he (iJ he)
 have hB:nE e<=1073741824:=he
 show qA (λe=>R e) e=_
 unfold qA
 have hk:=An e
 have ha:=mw e
 have hd:=qcQ e
 have h:=dM e.Kids.length (λzz:Int×Int=>eM (λe=>R e) e.Kids (e.Kids.length:Int) zz.1 zz.2) (λi=>((EW (e.Kids.take i):Int),(i:Int))) (EW e.Kids:Int) (λi hi=>?_) ?_
 ·have h':oh (λe=>R e) e.Kids (e.Kids.length:Int) 0 0=some (EW e.Kids:Int):=by unfold oh;simpa[EW]using h
  rw[h',vaa]
  have g:=dM e.Alts.length (λzz:Int×Int=>eO (λe=>R e) e.Alts (e.Alts.length:Int) zz.1 zz.2) (λi=>(((max (EW e.Kids) (EW ((e.Alts.map (·.Body)).take i)):Nat):Int),(i:Int))) ((EW (ba e):Nat):Int) (λi hi=>?_) ?_
  ·have g':ol (λe=>R e) e.Alts (e.Alts.length:Int) (EW e.Kids:Int) 0=some (EW (ba e):Int):=by unfold ol;simpa[EW]using g
   have e1:=JI e
   rw[g',vaa,cW (by omega) (by omega),e1];rfl
  ·show eO (λe=>R e) e.Alts (e.Alts.length:Int) _ (i:Int)=_
   unfold eO
   have hm:e.Alts[i]∈e.Alts:=vah hi
   have hlt:=EO hm
   have hi':i<(e.Alts.map (·.Body)).length:=by simpa using hi
   rw[vad (by simpa using hi),aM _ _ hi,vaa]
   show(R _).bind _=_
   rw[ih _ hlt (by unfold cm;omega),vaa]
   dsimp only
   rw[cW (by omega) (by omega),Rm,MZ _ _ hi',vcB,Nat.max_assoc]
   rfl
  ·show eO (λe=>R e) e.Alts (e.Alts.length:Int) _ (e.Alts.length:Int)=_
   unfold eO
   rw[vab (by simp),ba,BA,List.take_of_length_le (by simp)]
 ·show eM (λe=>R e) e.Kids (e.Kids.length:Int) _ (i:Int)=_
  unfold eM
  have hm:e.Kids[i]∈e.Kids:=vah hi
  have hlt:=pX hm
  rw[vad (by simpa using hi),aM _ _ hi,vaa]
  show(R _).bind _=_
  rw[ih _ hlt (by unfold cm;omega),vaa]
  dsimp only
  rw[cW (by omega) (by omega),Rm,MZ _ _ hi]
  rfl
 ·show eM (λe=>R e) e.Kids (e.Kids.length:Int) _ (e.Kids.length:Int)=_
  unfold eM
  rw[vab (by simp),va1]
noncomputable instance decT:DecidableEq ae:=λa b=>Classical.propDecidable _
theorem WO{a b:Bool}:(if a=true then some b else some false)=some (a&&b):=by cases a<;>rfl
theorem qc5{a b:Bool}:(if a=true then some true else some b)=some (a||b):=by cases a<;>rfl
theorem Ic{α:Type}[DecidableEq α]{a b:List α}(ha:a.length<=cm)(body:Int->Option (Int⊕(Unit⊕Unit)))
  (hin:∀(i:Nat) (h1:i<a.length) (h2:i<b.length),body (i:Int)=some (if decide (a[i]=b[i])=true then .inl (dU ((i:Int)+1))else .inr (.inl ()))) (hend:body (a.length:Int)=some (.inr (.inr ()))) {k:Unit⊕Unit->Option Bool} (g1:k (.inl ())=some false) (g2:k (.inr ())=some true):
  (if((a.length:Int)!=(b.length:Int))=true then some false else(loop body 0).bind k)=some (decide (a=b)):=by
 by_cases hl:a.length=b.length
 ·rw[vab (by simp[hl]),Ip hl (by unfold cm at ha;omega) body (.inl ()) (.inr ()) hin hend]
  by_cases he:a=b
  ·simp only[he,decide_true,if_true,vaa];exact g2
  ·simp only[he,decide_false,vaD,if_false,vaa];exact g1
 ·rw[vad (by simp;omega),decide_eq_false (λhe=>hl (by rw[he]))]
theorem XJ{a b:List ah}(ha:a.length<=cm):v6 a b=some (decide (a=b)):=by
 unfold v6 uy
 refine Ic ha _ (λi h1 h2=>?_) ?_ rfl rfl
 ·show fT a b (a.length:Int) (i:Int)=_
  unfold fT
  rw[vad (by simpa using h1),aM a i h1]
  simp only[vaa]
  rw[aM b i h2]
  simp only[vaa]
  by_cases he:a[i]=b[i]<;>simp[he]
 ·show fT a b (a.length:Int) (a.length:Int)=_
  unfold fT
  rw[vab (by simp)]
theorem X7{a b:List ah}(ha:a.length<=cm):zt a b=some (decide (a=b)):=by
 unfold zt Ab
 refine Ic ha _ (λi h1 h2=>?_) ?_ rfl rfl
 ·show gw a b (i:Int)=_
  unfold gw
  rw[vad (by simpa using h1),aM a i h1]
  simp only[vaa]
  rw[aM b i h2]
  simp only[vaa]
  by_cases he:a[i]=b[i]<;>simp[he]
 ·show gw a b (a.length:Int)=_
  unfold gw
  rw[vab (by simp)]
theorem XK{a b:List aa}(ha:a.length<=cm)(h:∀x∈a,nP x<=cm):mA a b=some (decide (a=b)):=by
 unfold mA nf
 refine Ic ha _ (λi h1 h2=>?_) ?_ rfl rfl
 ·show eb b a (a.length:Int) (i:Int)=_
  unfold eb
  rw[vad (by simpa using h1),aM a i h1]
  simp only[vaa]
  rw[aM b i h2]
  simp only[vaa]
  rw[R5 _ _ (h _ (vah h1))]
  simp only[vaa]
  by_cases he:a[i]=b[i]<;>simp[he]
 ·show eb b a (a.length:Int) (a.length:Int)=_
  unfold eb
  rw[vab (by simp)]
theorem XL{R:ae->ae->Option Bool}{a b:List ae}(ha:a.length<=cm)(h:∀x∈a,∀y∈b,R x y=some (decide (x=y))):eY R a b=some (decide (a=b)):=by
 unfold eY fZ
 refine Ic ha _ (λi h1 h2=>?_) ?_ rfl rfl
 ·show cu R b a (a.length:Int) (i:Int)=_
  unfold cu
  rw[vad (by simpa using h1),aM a i h1]
  simp only[vaa]
  rw[aM b i h2]
  simp only[vaa]
  rw[h _ (vah h1) _ (vah h2)]
  simp only[vaa]
  by_cases he:a[i]=b[i]<;>simp[he]
 ·show cu R b a (a.length:Int) (a.length:Int)=_
  unfold cu
  rw[vab (by simp)]
theorem X8{R:ae->ae->Option Bool}{a b:List ae}(ha:a.length<=cm)(h:∀x∈a,∀y∈b,R x y=some (decide (x=y))):zu R a b=some (decide (a=b)):=by
 unfold zu Ac
 refine Ic ha _ (λi h1 h2=>?_) ?_ rfl rfl
 ·show gy R a b (i:Int)=_
  unfold gy
  rw[vad (by simpa using h1),aM a i h1]
  simp only[vaa]
  rw[aM b i h2]
  simp only[vaa]
  rw[h _ (vah h1) _ (vah h2)]
  simp only[vaa]
  by_cases he:a[i]=b[i]<;>simp[he]
 ·show gy R a b (a.length:Int)=_
  unfold gy
  rw[vab (by simp)]
theorem A2{a b:ae}:a=b↔a.Op=b.Op/\a.Name=b.Name/\a.Names=b.Names/\a.Pred=b.Pred/\a.Preds=b.Preds/\a.Args=b.Args:=by
 obtain⟨o,n,xs,ns,p,ps⟩:=a
 obtain⟨o',n',xs',ns',p',ps'⟩:=b
 constructor
 ·rintro h;cases h;exact⟨rfl,rfl,rfl,rfl,rfl,rfl⟩
 ·rintro⟨h1,h2,h3,h4,h5,h6⟩
  cases h1;cases h2;cases h3;cases h4;cases h5;cases h6;rfl
abbrev Tw(t:ae):Prop:=fH t<=cm/\QC (λp=>nP p<=cm) t
theorem Ru{t a:ae}(h:Tw t)(ha:a∈t.Args):Tw a:=⟨vau (vbJ (kH ha)) h.1,YF h.2 ha⟩
theorem X3(a b:ae)(ha:Tw a):uD a b=some (decide (a=b)):=by
 refine sj (F:=qL) (λx=>fH x.1) (λx=>Tw x.1) (λx=>decide (x.1=x.2)) (λR x hx ih=>?_) (a,b) ha (iJ ha.1)
 obtain⟨u,v⟩:=x
 have hu:Tw u:=hx
 obtain⟨p1,p2,_⟩:=(HT _ u).1 hu.2
 have l1:=lM u
 have l2:=J3 u
 have l3:=AD u
 have l0:=hu.1
 show lA (λa a2=>R (a,a2)) u v=some (decide (u=v))
 unfold lA
 rw[XJ (by omega),R5 _ _ p1,XK (by omega) p2,XL (R:=λa a2=>R (a,a2)) (a:=u.Args) (b:=v.Args) (by omega) (λx hx y _=>ih (x,y) (kH hx) (Ru hu hx))]
 simp only[vaa,WO,vaz]
 rw[vcg]
 simp[A2 (a:=u) (b:=v)]
theorem Yb(a b:ae)(ha:Tw a)(hb:Tw b):HL a b=some (decide (a=b)):=by
 refine sj (F:=DE) (λx=>fH x.1) (λx=>Tw x.1/\Tw x.2) (λx=>decide (x.1=x.2)) (λR x hx ih=>?_) (a,b) ⟨ha,hb⟩ (iJ ha.1)
 obtain⟨u,v⟩:=x
 obtain⟨hu,hv⟩:Tw u/\Tw v:=hx
 obtain⟨q1,q2,_⟩:=(HT _ v).1 hv.2
 have l1:=lM u
 have l2:=J3 u
 have l3:=AD u
 have l0:=hu.1
 show wy (λa a2=>R (a,a2)) u v=some (decide (u=v))
 unfold wy Cv
 rw[X7 (by omega),AR _ _ q1,X8 (R:=λa a2=>R (a,a2)) (a:=u.Args) (b:=v.Args) (by omega) (λx hx y hy=>ih (x,y) (kH hx) ⟨Ru hu hx,Ru hv hy⟩)]
 simp only[vaa,qc5]
 by_cases hl:u.Preds.length=v.Preds.length
 ·unfold Cw
  rw[Ip hl (by unfold cm at l0;omega) (λzz=>fN u v zz) (.inl ()) (.inr ()) (λi h1 h2=>?_) ?_]
  ·by_cases h5:u.Preds=v.Preds
   ·simp only[h5,decide_true,if_true,vaa]
    by_cases h0:(u.Op !=v.Op||(!(u.Name==v.Name)||(!decide (u.Names=v.Names)||(!decide (u.Pred=v.Pred)||((v.Preds.length:Int)!=(v.Preds.length:Int))))))=true
    ·rw[vad h0]
     congr 1;symm
     rw[vbo,A2]
     rintro⟨e1,e2,e3,e4,_⟩
     simp[e1,e2,e3,e4]at h0
    ·rw[vab h0]
     congr 1
     simp only[vaY,vc7,vaZ,bne_iff_ne,ne_eq,Decidable.not_not,Bool.not_eq_false,va9,var]at h0
     obtain⟨e1,e2,e3,e4,_⟩:=h0
     rw[vcg]
     simp[A2 (a:=u) (b:=v),e1,e2,e3,e4,h5]
   ·simp only[h5,decide_false,vaD,if_false,vaa,ite_self]
    congr 1;symm
    rw[vbo,A2]
    rintro⟨_,_,_,_,e5,_⟩
    exact h5 e5
  ·show fN u v (u.Preds.length:Int)=_
   unfold fN
   rw[vab (by simp)]
  ·show fN u v (i:Int)=_
   unfold fN
   rw[vad (by simpa using h1),aM _ i h1]
   simp only[vaa]
   rw[aM _ i h2]
   simp only[vaa]
   rw[AR _ _ (q2 _ (vah h2))]
   simp only[vaa]
   by_cases he:u.Preds[i]=v.Preds[i]<;>simp[he]
 ·have hx:((u.Preds.length:Int)!=(v.Preds.length:Int))=true:=by simp;omega
  rw[vad (by simp[hx])]
  congr 1;symm
  rw[vbo,A2]
  rintro⟨_,_,_,_,e5,_⟩
  exact hl (by rw[e5])
theorem tq(e:af):ff (ag e)=1+(e.Name.length+1+(1+(d8 (e.Kids.map ag)+1+(d8 (e.Params.map bj)+1+(d8 (e.Alts.map bw)+1+(d8 (e.Types.map aj)+1+0)))))):=by
 rw[bR];simp only[ff,pm,sl]
theorem RH(a:cf):ff (bw a)=a.Con.length+1+(d8 (a.Names.map cS)+1+ff (ag a.Body)):=by
 obtain⟨c,ns,b⟩:=a
 rw[bw]
 show ff (PVal.str c::sl cS ns::ag b)=_
 simp only[ff,pm,sl];rfl
theorem Fg(p:cc):ff (bj p)=p.Name.length+1+ff (aj p.Type_):=by
 show ff (PVal.str p.Name::aj p.Type_)=_
 simp only[ff,pm]
theorem XZ(p:cc):1<=ff (bj p):=by rw[Fg];omega
theorem Mr{α:Type}(c:α->List PVal){l:List α}{x:α}(h:x∈l):ff (c x)<=d8 (l.map c):=AA (vaq.2 ⟨x,h,rfl⟩)
theorem qak{e x:af}(h:x∈e.Kids):ff (ag x)<ff (ag e):=by have:=Mr ag h;rw[tq e];omega
theorem qej{e:af}{a:cf}(h:a∈e.Alts):ff (bw a)<ff (ag e):=by have:=Mr bw h;rw[tq e];omega
theorem TK{e:af}{a:cf}(h:a∈e.Alts):ff (ag a.Body)<ff (ag e):=by have:=qej h;have:=RH a;omega
theorem TL{e:af}{p:cc}(h:p∈e.Params):ff (bj p)<ff (ag e):=by have:=Mr bj h;rw[tq e];omega
theorem Wf{e:af}{t:ae}(h:t∈e.Types):ff (aj t)<ff (ag e):=by have:=Mr aj h;rw[tq e];omega
theorem We{e x:af}(h:x∈ba e):ff (ag x)<ff (ag e):=by
 rcases vaS.1 h with h|h
 ·exact qak h
 ·obtain⟨a,ha,rfl⟩:=vaq.1 h
  exact TK ha
theorem qcf{e x:af}(h:x∈cp e):ff (ag x)<=ff (ag e):=by
 revert x
 refine Zo (Q:=λe=>∀{x},x∈cp e->ff (ag x)<=ff (ag e)) (λe ih x h=>?_) e
 rw[pd]at h
 rcases vaF.1 h with rfl|h
 ·exact vaw _
 ·obtain⟨y,hy,hx⟩:=vcC.1 h
  have:=ih y hy hx
  have:=We hy
  omega
mutual
theorem Cz:∀(e:af),nE e<=ff (ag e)
 |⟨o,n,k,ks,ps,as1,ts⟩=>by
  have h1:=ZG ks
  have h2:=ZD as1
  have h3:=Kl bj XZ ps
  have h4:=Kl aj qal ts
  rw[nE,tq]
  show _<=1+(n.length+1+(1+(d8 (ks.map ag)+1+(d8 (ps.map bj)+1+(d8 (as1.map bw)+1+(d8 (ts.map aj)+1+0))))))
  omega
theorem qfM:∀(a:cf),nA a<=ff (bw a)
 |⟨c,ns,b⟩=>by
  have h1:=Cz b
  have h2:=qc1 ns
  rw[nA,RH]
  show _<=c.length+1+(d8 (ns.map cS)+1+ff (ag b))
  omega
theorem ZG:∀(l:List af),VV l<=d8 (l.map ag)
 |[]=>by simp[VV]
 |e::l=>by
  have:=Cz e
  have:=ZG l
  rw[VV]
  simp only[vae,d8]
  omega
theorem ZD:∀(l:List cf),Nx l<=d8 (l.map bw)
 |[]=>by simp[Nx]
 |a::l=>by
  have:=qfM a
  have:=ZD l
  rw[Nx]
  simp only[vae,d8]
  omega
end
theorem ZT{t:ae}(h:ff (aj t)<=cm):Tw t:=⟨vau (Mn t) h,Vr cm t h⟩
abbrev Pb(e:af):Prop:=ff (ag e)<=cm
theorem pe{e:af}(h:Pb e):nE e<=cm:=vau (Cz e) h
theorem ZP{e x:af}(h:Pb e)(hx:x∈ba e):Pb x:=vau (vbJ (We hx)) h
theorem NK{e x:af}(h:Pb e)(hx:x∈cp e):Pb x:=vau (qcf hx) h
theorem ZQ{e:af}{t:ae}(h:Pb e)(hx:t∈e.Types):Tw t:=ZT (vau (vbJ (Wf hx)) h)
theorem P2{e:af}{p:cc}(h:Pb e)(hx:p∈e.Params):Tw p.Type_:=ZT (by have:=TL hx;have:=Fg p;have:ff (ag e)<=cm:=h;omega)
theorem Hy{A:Type}(n:Nat)(hn:n<9223372036854775808){body:Int->Option (Int⊕(A⊕Unit))}(P:Nat->Prop)(B:A->Prop)
  (hin:∀i:Nat,i<n->gu (body (i:Int)) (λr=>r.elim (λt=>t=dU ((i:Int)+1)/\P i) (λy=>y.elim B (λ_=>False)))) (hend:body (n:Int)=some (.inr (.inr ()))):gu (loop body 0) (λr=>r.elim B (λ_=>∀i,i<n->P i)):=by
 have key:∀k i,k+i=n->(∀j,j<i->P j)->gu (loop body (i:Int)) (λr=>r.elim B (λ_=>∀i,i<n->P i)):=by
  intro k
  induction k with
  |zero=>
   intro i hi hP
   have:i=n:=by omega
   subst this
   rw[ik hend]
   exact am hP
  | succ k ih =>
   intro i hi hP
   obtain⟨r,e,hr⟩:=hin i (by omega)
   rw[jh,e]
   cases r with
   | inl t =>
    obtain⟨rfl,hp⟩:=hr
    simp only
    rw[cW (by omega) (by omega),show((i:Int)+1)=((i+1:Nat):Int) by omega]
    exact ih (i+1) (by omega) λj hj=>by
     by_cases he:j=i
     ·subst he;exact hp
     ·exact hP j (by omega)
   |inr y=>
    cases y with
    |inl a=>exact⟨_,rfl,hr⟩
    |inr u=>exact hr.elim
 exact key n 0 (by omega) λj hj=>absurd hj (va5 _)
theorem Zb{l:List ah}{i:Nat}(h:i<l.length)(hf:Gj l l[i]=(i:Int)):∀k (hk:k<l.length),k<i->l[i]≠l[k]:=by
 intro k hk hki he
 unfold Gj at hf
 cases hx:l.findIdx? (λx=>x==l[i])with
 |none=>
  rw[vbu]at hx
  have:=hx _ (vah h)
  simp at this
 | some j =>
  obtain⟨hj,_,hj3⟩:=vbb.1 hx
  rw[hx]at hf
  have hji:j=i:=by
   have:(j:Int)=(i:Int):=by simpa using hf
   omega
  subst hji
  have:=hj3 k hki
  rw[he]at this
  simp at this
theorem Xz{l:List ah}(h:∀i (hi:i<l.length),∀k (hk:k<l.length),k<i->l[i]≠l[k]):l.Nodup:=by
 unfold List.Nodup
 rw[vcn]
 intro i j hi hj hij he
 exact h j hj i hi hij he.symm
theorem ST{l:List ah}(h:l.Nodup){i:Nat}(hi:i<l.length):Gj l l[i]=(i:Int):=by
 have hx:l.findIdx? (λx=>x==l[i])=some i:=by
  rw[vbb]
  refine⟨hi,by simp,λk hk=>?_⟩
  unfold List.Nodup at h
  rw[vcn]at h
  simpa using h k i (by omega) hi hk
 unfold Gj
 rw[hx]
theorem Ce(l:List ah)(hl:l.length<9223372036854775808):mj l=some (decide l.Nodup):=by
 have:gu (mj l) (λr=>r=decide l.Nodup):=by
  unfold mj Cu
  refine aA (Hy l.length hl (λi=>∀(hi:i<l.length),Gj l l[i]=(i:Int)) (λ_=>¬l.Nodup) (λi hi=>?_) ?_) (λo ho=>?_)
  ·unfold pp
   rw[vad (vaP (by omega)),aM _ i hi]
   simp only[vaa]
   refine dJ (Do l _ hl) (aD (λhne=>am (λhd=>?_)) (λhne=>am ⟨rfl,λ_=>by simpa using hne⟩))
   rw[ST hd hi]at hne
   simp at hne
  ·unfold pp
   rw[vab (by simp)]
  ·cases o with
   |inl _=>
    have ho:¬l.Nodup:=ho
    exact am (decide_eq_false ho).symm
   |inr _=>
    have ho:∀i,i<l.length->∀(hi:i<l.length),Gj l l[i]=(i:Int):=ho
    exact am (vaP (Xz (λi hi=>Zb hi (ho i hi hi)))).symm
 exact qcF.1 this
def Hi(l:List ah):List (ah×Bool):=l.foldl (λm x=>LE m x true) []
theorem Qh(l:List ah)(x:ah):Hi (l++[x])=LE (Hi l) x true:=by unfold Hi;rw[vcs];rfl
theorem T0(x:ah):∀(n:Nat) (l:List ah),l.length=n->(D7 (Hi l) x).getD false=decide (x∈l)
 |0,l,h=>by
  have:l=[]:=List.length_eq_zero_iff.1 h
  subst this
  simp[Hi,D7]
 | n + 1,l,h => by
  obtain⟨l',y,rfl⟩:∃l' y,l=l'++[y]:=by
   have hne:l≠[]:=λhc=>by rw[hc]at h;cases h
   exact⟨l.dropLast,l.getLast hne,(vbx hne).symm⟩
  rw[Qh,PX]
  have ih:=T0 x n l' (by simpa using h)
  by_cases hxy:x=y
  ·subst hxy;simp
  ·have:(x==y)=false:=by simpa using hxy
   rw[this]
   simp only[vaD,if_false]
   rw[ih]
   simp[hxy]
theorem Rx(l:List ah)(hl:l.length<9223372036854775808):pZ l=some (decide l.Nodup):=by
 unfold pZ p5
 have key:∀k i:Nat,k+i=l.length->(l.take i).Nodup->gu (loop (λ(zz:Int×(List (ah×Bool)))=>bP l (l.length:Int) zz.1 zz.2) ((i:Int),Hi (l.take i))) (λo=>o.elim (λ_=>¬l.Nodup) (λ_=>l.Nodup)):=by
  intro k
  induction k with
  | zero =>
   intro i hi hn
   have hi:i=l.length:=by omega
   subst hi
   rw[va1]at hn ⊢
   have hb:(λ(zz:Int×(List (ah×Bool)))=>bP l (l.length:Int) zz.1 zz.2) ((l.length:Int),Hi l)=some (.inr (.inr (Hi l))):=by
    show bP l (l.length:Int) (l.length:Int) (Hi l)=_
    unfold bP
    rw[vab (by simp)]
   rw[ik hb]
   exact am hn
  | succ k ihk =>
   intro i hi hn
   have hil:i<l.length:=by omega
   have hg:=T0 l[i] _ (l.take i) rfl
   have ht:=vay hil
   by_cases hm:l[i]∈l.take i
   ·have hb:(λ(zz:Int×(List (ah×Bool)))=>bP l (l.length:Int) zz.1 zz.2) ((i:Int),Hi (l.take i))=some (.inr (.inl (Hi (l.take i)))):=by
     show bP l (l.length:Int) (i:Int) (Hi (l.take i))=_
     unfold bP
     rw[vad (vaP (by omega)),aM _ i hil]
     simp only[vaa]
     rw[hg,vaP hm,vad rfl]
    rw[ik hb]
    refine am (λhd=>?_)
    have h2:=(List.take_sublist (i+1) l).nodup hd
    rw[ht,vcp]at h2
    exact h2.2.2 _ hm _ (vbR.2 rfl) rfl
   ·have hb:(λ(zz:Int×(List (ah×Bool)))=>bP l (l.length:Int) zz.1 zz.2) ((i:Int),Hi (l.take i))=some (.inl (((i+1:Nat):Int),Hi (l.take (i+1)))):=by
     show bP l (l.length:Int) (i:Int) (Hi (l.take i))=_
     unfold bP
     rw[vad (vaP (by omega)),aM _ i hil]
     simp only[vaa]
     rw[hg,decide_eq_false hm,vab (by simp),cW (by omega) (by omega),ht,Qh,show((i:Int)+1)=((i+1:Nat):Int) by omega]
    rw[wn hb]
    refine ihk (i+1) (by omega) ?_
    rw[ht,vcp]
    exact⟨hn,by simp,λa ha b hb he=>hm (by rw[vbR.1 hb]at he;exact he▸ha)⟩
 obtain⟨o,e,ho⟩:=key l.length 0 (by omega) (by simp)
 rw[List.take_zero]at e
 have e':loop (λ(zz:Int×(List (ah×Bool)))=>bP l (l.length:Int) zz.1 zz.2) (0,[])=some o:=e
 rw[e']
 simp only[vaa]
 cases o with
 |inl _=>
  have ho:¬l.Nodup:=ho
  simp[ho]
 |inr _=>
  have ho:l.Nodup:=ho
  simp[ho]
theorem Xq{X:Type}(n:Nat)(hn:n<9223372036854775808){b1 b2:Int->Option (Int⊕X)}(h:∀i:Nat,i<n->b1 (i:Int)=b2 (i:Int)/\∀t,b2 (i:Int)=some (.inl t)->t=dU ((i:Int)+1))(he:b1 (n:Int)=b2 (n:Int))(hx:∀t,b2 (n:Int)≠some (.inl t)):loop b1 0=loop b2 0:=by
 have key:∀k i:Nat,k+i=n->loop b1 (i:Int)=loop b2 (i:Int):=by
  intro k
  induction k with
  | zero =>
   intro i hi
   have hi:i=n:=by omega
   subst hi
   rw[jh b1,jh b2,he]
   cases hb:b2 (i:Int)with
   |none=>rfl
   |some y=>
    cases y with
    |inl t=>exact absurd hb (hx t)
    |inr _=>rfl
  | succ k ihk =>
   intro i hi
   obtain⟨h1,h2⟩:=h i (by omega)
   rw[jh b1,jh b2,h1]
   cases hb:b2 (i:Int)with
   |none=>rfl
   | some y =>
    cases y with
    |inl t=>
     have ht:=h2 t hb
     simp only
     rw[ht,cW (by omega) (by omega),show((i:Int)+1)=((i+1:Nat):Int) by omega]
     exact ihk (i+1) (by omega)
    |inr _=>rfl
 exact key n 0 (by omega)
theorem Vz{a b r:Bool}:(if a=true then some (b||r)else some r)=some ((a&&b)||r):=by cases a<;>rfl
structure qjx(op:Int)(sh:au)(ok:Bool)(u:aH):Prop where
 p:nJ op=some (sh,ok)
 r:wA op=some u
 n:sh.n=u.n
 name:sh.name=u.name
 least:sh.least=u.least
 most:sh.most=u.most
 params:sh.params=u.params
 alts:sh.alts=u.alts
 types:sh.types=u.types
 ok:ok=u.ok
 t:∀k:Int,0<=k->k<=1073741824->(u.types=false->k=0)->(decide (k<sh.typesLeast)||decide (k>sh.typesMost))= !((!u.exactly||k==1)&&(op !=7||decide (k<=1)))
theorem Yc(op:Int):∃sh ok u,qjx op sh ok u:=by
 by_cases h:1<=op/\op<=26
 ·have:op=1\/op=2\/op=3\/op=4\/op=5\/op=6\/op=7\/op=8\/op=9\/op=10\/op=11\/op=12\/op=13\/op=14\/op=15\/op=16\/op=17\/op=18\/op=19\/op=20\/op=21\/op=22\/op=23\/op=24\/op=25\/op=26:=by omega
  rcases this with h|h|h|h|h|h|h|h|h|h|h|h|h|h|h|h|h|h|h|h|h|h|h|h|h|h<;>subst h<;>
   exact⟨_,_,_,rfl,rfl,rfl,rfl,rfl,rfl,rfl,rfl,rfl,rfl,λk h0 h1 h2=>by
    rw[vcg]
    simp at h2 ⊢
    omega⟩
 ·have hb:∀k:Int,1<=k->k<=26->(op==k)=false:=λk h1 h2=>by rw[beq_eq_false_iff_ne];omega
  have e1:nJ op=some ((⟨false,false,0,0,false,false,0,0,false⟩:au),false):=by
   unfold nJ rR rS rT
   simp[hb]
  have e2:wA op=some (⟨false,false,0,0,false,false,false,false,false⟩:aH):=by
   unfold wA DF DG DH
   simp[hb]
  refine⟨_,_,_,e1,e2,rfl,rfl,rfl,rfl,rfl,rfl,rfl,rfl,λk h0 h1 h2=>?_⟩
  have:=h2 rfl
  subst this
  simp
theorem WP(l:List cf)(hl:l.length<9223372036854775808):ej l=some (l.any λa=>decide ((a.Names.length:Int)>6)):=by
 unfold ej ie f0
 rw[Nw l hl (λi=>i) (λzz=>dl l (l.length:Int) zz) (λa=>decide ((a.Names.length:Int)>6)) (λi=>.inl (i:Int)) (.inr ()) (λi h=>?_) ?_]
 ·cases hf:l.findIdx? (λa=>decide ((a.Names.length:Int)>6))with
  |none=>
   simp only[Option.elim,vaa]
   rw[vbu]at hf
   congr 1
   have:l.any (λa=>decide ((a.Names.length:Int)>6))=false:=by rw[vbi];exact λx hx=>by simpa using hf x hx
   rw[this];rfl
  |some j=>
   simp only[Option.elim,vaa]
   obtain⟨h1,h2,_⟩:=vbb.1 hf
   congr 1
   have:l.any (λa=>decide ((a.Names.length:Int)>6))=true:=by rw[vcz];exact⟨_,vah h1,h2⟩
   rw[this,decide_eq_true_iff];omega
 ·unfold dl
  rw[vab (by simp)]
 ·unfold dl uA
  rw[vad (by simpa using h),aM _ _ h]
  simp only[vaa]
  by_cases hc:((l[i].Names.length:Int)>6)<;>simp[hc]
theorem W0(e:af)(he:Pb e){sh:au}{ok:Bool}{u:aH}(hS:qjx e.Op sh ok u)(ht:u.types=false->(e.Types.length:Int)=0):∃b,sH e sh=some b/\wz e u=some b:=by
 have hB:nE e<=1073741824:=pe he
 have l2:=mw e
 have l4:=xO e
 have hT:=hS.t (e.Types.length:Int) (by omega) (by omega) ht
 have hL:zx e 0=some (if(e.Alts.any λa=>decide ((a.Names.length:Int)>6))=true then .inl ()else .inr ()):=by
  unfold zx
  refine kn e.Alts (by omega) (λzz=>nQ e zz) (λa=>decide ((a.Names.length:Int)>6)) (.inl ()) (.inr ()) (λi h=>?_) ?_ 0 (vaX _)
  ·unfold nQ
   rw[vad (by simpa using h),aM _ _ h]
   simp only[vaa]
   by_cases hc:((e.Alts[i].Names.length:Int)>6)<;>simp[hc]
  ·unfold nQ
   rw[vab (by simp)]
 unfold sH rL rM wz rZ zv zw
 rw[WP _ (by omega),hL,hS.least,hS.most,hS.params,hS.alts]
 simp only[qc5,vaa]
 generalize (e.Alts.any λa=>decide ((a.Names.length:Int)>6))=nb at *
 rw[hT]
 generalize u.exactly=ex at *
 generalize ((e.Types.length:Int)==1)=t1 at *
 generalize (e.Op !=7)=o7 at *
 generalize decide ((e.Types.length:Int)<=1)=t2 at *
 generalize decide ((e.Kids.length:Int)<u.least)=k1 at *
 generalize decide ((e.Kids.length:Int)>u.most)=k2 at *
 generalize decide ((e.Params.length:Int)<1)=p1 at *
 generalize decide ((e.Params.length:Int)>6)=p2 at *
 generalize decide ((e.Alts.length:Int)<1)=a1 at *
 generalize decide ((e.Alts.length:Int)>8)=a2 at *
 clear hT hL
 generalize u.params=up
 generalize u.alts=ua
 cases k1<;>cases k2<;>cases up<;>cases ua<;>cases nb<;>cases ex<;>cases t1<;>cases o7<;>cases t2<;>simp<;>(try (cases p1<;>cases p2<;>simp))<;>(try (cases a1<;>cases a2<;>simp))
theorem YQ(l:List cc)(hl:l.length<=1073741824):qD l=some (l.map (·.Name)):=by
 unfold qD
 have h:=dM l.length (λzz:(List ah)×Int=>eP l (l.length:Int) zz.1 zz.2) (λi=>((l.take i).map (·.Name),(i:Int))) (l.map (·.Name)) (λi hi=>?_) ?_
 ·have h':om l (l.length:Int) ([]:List ah) 0=some (l.map (·.Name)):=by unfold om;simpa using h
  rw[h'];rfl
 ·show eP l (l.length:Int) _ (i:Int)=_
  unfold eP
  rw[vad (by simpa using hi),aM _ _ hi,vaa,pK (by simp;omega),vaa,cW (by omega) (by omega),vay hi,vaB]
  rfl
 ·show eP l (l.length:Int) _ (l.length:Int)=_
  unfold eP
  rw[vab (by simp),va1]
theorem LC(l:List cf)(hl:l.length<=1073741824):jq l=some (l.map (·.Con)):=by
 unfold jq
 have h:=dM l.length (λzz:(List ah)×Int=>db l (l.length:Int) zz.1 zz.2) (λi=>((l.take i).map (·.Con),(i:Int))) (l.map (·.Con)) (λi hi=>?_) ?_
 ·have h':gk l (l.length:Int) ([]:List ah) 0=some (l.map (·.Con)):=by unfold gk;simpa using h
  rw[h'];rfl
 ·show db l (l.length:Int) _ (i:Int)=_
  unfold db
  rw[vad (by simpa using hi),aM _ _ hi,vaa,pK (by simp;omega),vaa,cW (by omega) (by omega),vay hi,vaB]
  rfl
 ·show db l (l.length:Int) _ (l.length:Int)=_
  unfold db
  rw[vab (by simp),va1]
theorem Ot(l:List ah)(hl:l.length<9223372036854775808):mE l=some (!decide l.Nodup):=by
 unfold mE
 rw[Rx l hl];rfl
def ue(l:List cf):List ah:=l.flatMap λa=>a.Con::a.Names
theorem GX:∀(l:List cf),(ue l).length<=Nx l
 |[]=>by simp[ue,Nx]
 |a::l=>by
  have h1:=GX l
  have h2:=Th a
  have h3:=JT a.Body
  unfold ue at *
  rw[vbz,Nx,vas,vaM]
  omega
theorem Tj(l:List cf)(i:Nat)(h:i<l.length):ue (l.take (i+1))=ue (l.take i)++([l[i].Con]++l[i].Names):=by
 unfold ue
 rw[vay h,vcQ]
 simp
theorem ZE(l:List cf)(i:Nat):Nx (l.take i)<=Nx l:=by
 have:∀(l:List cf) (i:Nat),Nx (l.take i)<=Nx l:=by
  intro l
  induction l with
  |nil=>intro i;simp
  |cons x l ih=>
   intro i
   cases i with
   |zero=>simp[Nx]
   |succ i=>have:=ih i;simp only[List.take_succ_cons,Nx];omega
 exact this l i
theorem K4(l:List cf)(v:List ah)(d:Bool)(h:v.length+Nx l<=1073741824):oq l (l.length:Int) v d 0=some (v++ue l,d||l.any λa=>!decide a.Names.Nodup):=by
 have hl:=Mo l
 have g:=dM l.length (λzz:(List ah)×Bool×Int=>eQ l (l.length:Int) zz.1 zz.2.1 zz.2.2) (λi=>(v++ue (l.take i),d||(l.take i).any λa=>!decide a.Names.Nodup,(i:Int))) (v++ue l,d||l.any λa=>!decide a.Names.Nodup) (λi hi=>?_) ?_
 ·unfold oq;simpa[ue]using g
 ·have h1:=GX (l.take (i+1))
  have h2:=ZE l (i+1)
  have h3:=Tj l i hi
  have h4:=va6 List.length h3
  simp only[vas,List.length_singleton]at h4
  show eQ l (l.length:Int) _ _ (i:Int)=_
  unfold eQ
  rw[vad (by simpa using hi),aM _ _ hi,vaa,pK (by simp only[vas,List.length_singleton];omega),vaa,pK (by simp only[vas,List.length_singleton];omega),vaa,h3,vay hi,vcI,Ot _ (by omega),cW (by omega) (by omega)]
  by_cases hd:(d||(l.take i).any λa=>!decide a.Names.Nodup)=true
  ·rw[vad hd]
   rw[<-vcd,hd]
   simp[vag]
  ·rw[vab hd]
   have hd':(d||(l.take i).any λa=>!decide a.Names.Nodup)=false:=by simpa using hd
   rw[<-vcd,hd']
   simp[vag]
 ·show eQ l (l.length:Int) _ _ (l.length:Int)=_
  unfold eQ
  rw[vab (by simp),va1]
theorem Px(l:List ah)(hl:l.length<9223372036854775808):eA l=some (l.any λs=>!aY s):=by
 unfold eA iS gj
 rw[Nw l hl (λi=>i) (λzz=>du l (l.length:Int) zz) (λs=>!aY s) (λi=>.inl (i:Int)) (.inr ()) (λi h=>?_) ?_]
 ·cases hf:l.findIdx? (λs=>!aY s)with
  |none=>
   simp only[Option.elim,vaa]
   rw[vbu]at hf
   congr 1
   have:l.any (λs=>!aY s)=false:=by rw[vbi];exact λx hx=>by simpa using hf x hx
   rw[this];rfl
  |some j=>
   simp only[Option.elim,vaa]
   obtain⟨h1,h2,_⟩:=vbb.1 hf
   congr 1
   have:l.any (λs=>!aY s)=true:=by rw[vcz];exact⟨_,vah h1,h2⟩
   rw[this,decide_eq_true_iff];omega
 ·unfold du
  rw[vab (by simp)]
 ·unfold du xz
  rw[vad (by simpa using h),aM _ _ h]
  simp only[vaa]
  rw[nu]
  simp only[vaa,pP]
  by_cases hc:aY l[i]=true<;>simp[hc]
def YN(e:af)(nm:Bool):Bool:=(nm&&!aY e.Name)||(e.Params.any (λp=>!aY p.Name)||e.Alts.any λa=>!aY a.Con||a.Names.any λs=>!aY s)
def Y7(e:af):Bool:=!decide (e.Params.map (·.Name)).Nodup||(!decide (e.Alts.map (·.Con)).Nodup||e.Alts.any λa=>!decide a.Names.Nodup)
theorem ZK(e:af)(he:Pb e)(sh:au):wb e sh=some (if YN e sh.name=true then 3 else if Y7 e=true then 4 else 0):=by
 have hB:nE e<=1073741824:=pe he
 have hn:=D8 e
 have l2:=mw e
 have l3:=jZ e
 have hA:=GX e.Alts
 have hany:∀v:List ah,((v++ue e.Alts).any λs=>!aY s)=(v.any (λs=>!aY s)||e.Alts.any λa=>!aY a.Con||a.Names.any λs=>!aY s):=λv=>by
  rw[vcI]
  congr 1
  unfold ue
  rw[List.any_flatMap]
  rfl
 unfold wb uB uC
 rw[YQ _ (by omega),vaa,LC _ (by omega),vaa,Ot _ (by simp;omega)]
 simp only[vaa]
 rw[Ot _ (by simp;omega)]
 simp only[vaa,qc5]
 unfold YN Y7
 cases sh.name with
 |true=>
  rw[vad rfl,pK (by simp;omega)]
  simp only[vaa]
  rw[K4 _ _ _ (by simp;omega)]
  simp only[vaa]
  rw[Px _ (by simp;omega)]
  simp only[vaa,hany,vbl]
  have e1:((e.Params.map (·.Name)++[e.Name]).any λs=>!aY s)=(e.Params.any (λp=>!aY p.Name)||!aY e.Name):=by simp[vcI,List.any_map,Function.comp_def]
  rw[e1]
  generalize (e.Params.any λp=>!aY p.Name)=b1
  generalize (!aY e.Name)=b2
  generalize (e.Alts.any λa=>!aY a.Con||a.Names.any λs=>!aY s)=b3
  generalize (!decide (e.Params.map (·.Name)).Nodup)=d1
  generalize (!decide (e.Alts.map (·.Con)).Nodup)=d2
  generalize (e.Alts.any λa=>!decide a.Names.Nodup)=d3
  cases b1<;>cases b2<;>cases b3<;>cases d1<;>cases d2<;>cases d3<;>rfl
 |false=>
  rw[vab (by simp)]
  simp only[vaa]
  rw[K4 _ _ _ (by simp;omega)]
  simp only[vaa]
  rw[Px _ (by simp;omega)]
  simp only[vaa,hany,vcL,vb1]
  have e1:((e.Params.map (·.Name)).any λs=>!aY s)=(e.Params.any (λp=>!aY p.Name)):=by simp[List.any_map,Function.comp_def]
  rw[e1]
  generalize (e.Params.any λp=>!aY p.Name)=b1
  generalize (e.Alts.any λa=>!aY a.Con||a.Names.any λs=>!aY s)=b3
  generalize (!decide (e.Params.map (·.Name)).Nodup)=d1
  generalize (!decide (e.Alts.map (·.Con)).Nodup)=d2
  generalize (e.Alts.any λa=>!decide a.Names.Nodup)=d3
  cases b1<;>cases b3<;>cases d1<;>cases d2<;>cases d3<;>rfl
theorem Vc(e:af)(he:Pb e)(u:aH):Jy e u=some (!YN e u.name):=by
 have hB:nE e<=1073741824:=pe he
 have l2:=mw e
 have l3:=jZ e
 have h1:Br e 0=some (if(e.Params.any λp=>!aY p.Name)=true then .inl ()else .inr ()):=by
  unfold Br
  refine kn e.Params (by omega) (λzz=>pw e zz) (λp=>!aY p.Name) (.inl ()) (.inr ()) (λi h=>?_) ?_ 0 (vaX _)
  ·unfold pw
   rw[vad (by simpa using h),aM _ _ h]
   simp only[vaa]
   rw[lD]
   simp only[vaa,pP]
   by_cases hc:aY e.Params[i].Name=true<;>simp[hc]
  ·unfold pw
   rw[vab (by simp)]
 have h2:Bt e 0=some (if(e.Alts.any λa=>!aY a.Con||a.Names.any λs=>!aY s)=true then .inl ()else .inr ()):=by
  unfold Bt
  refine kn e.Alts (by omega) (λzz=>px e zz) (λa=>!aY a.Con||a.Names.any λs=>!aY s) (.inl ()) (.inr ()) (λi h=>?_) ?_ 0 (vaX _)
  ·have hm:=EP (vah h)
   have h3:Bu e (i:Int) 0=some (if(e.Alts[i].Names.any λs=>!aY s)=true then .inl ()else .inr ()):=by
    unfold Bu
    refine kn e.Alts[i].Names (by omega) (λzz=>py e (i:Int) zz) (λs=>!aY s) (.inl ()) (.inr ()) (λk hk=>?_) ?_ 0 (vaX _)
    ·unfold py
     rw[aM _ _ h]
     simp only[vaa]
     rw[vad (by simpa using hk),aM _ _ hk]
     simp only[vaa]
     rw[lD]
     simp only[vaa,pP]
     by_cases hc:aY e.Alts[i].Names[k]=true<;>simp[hc]
    ·unfold py
     rw[aM _ _ h]
     simp only[vaa]
     rw[vab (by simp)]
   unfold px
   rw[vad (by simpa using h),aM _ _ h]
   simp only[vaa]
   rw[lD,h3]
   simp only[vaa,pP]
   by_cases hc:aY e.Alts[i].Con=true
   ·by_cases hd:(e.Alts[i].Names.any λs=>!aY s)=true<;>simp[hc,hd]
   ·simp[hc]
  ·unfold px
   rw[vab (by simp)]
 unfold Jy HN
 rw[h1,h2,lD]
 simp only[vaa,pP]
 unfold YN
 generalize (e.Params.any λp=>!aY p.Name)=b1
 generalize (e.Alts.any λa=>!aY a.Con||a.Names.any λs=>!aY s)=b3
 generalize aY e.Name=b2
 cases u.name<;>cases b1<;>cases b2<;>cases b3<;>rfl
theorem RX(e:af)(he:Pb e):Bq e=some (!Y7 e):=by
 have hB:nE e<=1073741824:=pe he
 have l2:=mw e
 have l3:=jZ e
 have h1:tX e ([]:List ah) 0=some (e.Params.map (·.Name)):=by
  have h:=dM e.Params.length (λzz:(List ah)×Int=>fO e zz.1 zz.2) (λi=>((e.Params.take i).map (·.Name),(i:Int))) (e.Params.map (·.Name)) (λi hi=>?_) ?_
  ·unfold tX;simpa using h
  ·show fO e _ (i:Int)=_
   unfold fO
   rw[vad (by simpa using hi),aM _ _ hi,vaa,pK (by simp;omega),vaa,cW (by omega) (by omega),vay hi,vaB]
   rfl
  ·show fO e _ (e.Params.length:Int)=_
   unfold fO
   rw[vab (by simp),va1]
 have h2:ii e ([]:List ah) 0=some (if(e.Alts.any λa=>!decide a.Names.Nodup)=true then .inl ()else .inr (e.Alts.map (·.Con))):=by
  have key:∀(k i:Nat),i+k=e.Alts.length->ii e ((e.Alts.take i).map (·.Con)) (i:Int)=some (if((e.Alts.drop i).any λa=>!decide a.Names.Nodup)=true then .inl ()else .inr (e.Alts.map (·.Con))):=by
   intro k
   induction k with
   | zero =>
    intro i hi
    have:i=e.Alts.length:=by omega
    subst this
    unfold ii
    rw[ik (x:=.inr (e.Alts.map (·.Con))) ?_]
    ·simp
    ·show iq e _ (e.Alts.length:Int)=_
     unfold iq
     rw[vab (by simp),va1]
   | succ k ih =>
    intro i hi
    have hlt:i<e.Alts.length:=by omega
    have hm:=EP (vah hlt)
    have hb:iq e ((e.Alts.take i).map (·.Con)) (i:Int)=some (if e.Alts[i].Names.Nodup then .inl ((e.Alts.take (i+1)).map (·.Con),((i+1:Nat):Int))else .inr (.inl ())):=by
     unfold iq
     rw[vad (by simpa using hlt),aM _ _ hlt,vaa,pK (by simp;omega)]
     simp only[vaa]
     rw[Ce _ (by omega)]
     simp only[vaa]
     rw[cW (by omega) (by omega),vay hlt,vaB]
     by_cases hd:e.Alts[i].Names.Nodup<;>simp[hd]
    rw[vaI hlt,List.any_cons]
    by_cases hd:e.Alts[i].Names.Nodup
    ·rw[vad hd]at hb
     have h:=ih (i+1) (by omega)
     unfold ii at h ⊢
     rw[wn (s':=((e.Alts.take (i+1)).map (·.Con),((i+1:Nat):Int))) hb,h]
     simp[hd]
    ·rw[vab hd]at hb
     unfold ii
     rw[ik (x:=.inl ()) hb]
     simp[hd]
  have:=key e.Alts.length 0 (by omega)
  rw[vbc]at this
  exact this
 unfold Bq
 rw[h1,h2]
 simp only[vaa]
 unfold Y7
 by_cases hd:(e.Alts.any λa=>!decide a.Names.Nodup)=true
 ·simp[hd]
 ·have hd':(e.Alts.any λa=>!decide a.Names.Nodup)=false:=by simpa using hd
  rw[hd']
  simp only[vaD,if_false]
  rw[Ce _ (by simp;omega),Ce _ (by simp;omega)]
  simp only[vaa,WO]
  generalize decide (e.Params.map (·.Name)).Nodup=d1
  generalize decide (e.Alts.map (·.Con)).Nodup=d2
  cases d1<;>cases d2<;>rfl
abbrev tR:ae:=⟨0,[],[],[],⟨0,[],0,[]⟩,[]⟩
theorem ZU:Tw tR:=⟨by simp[fH,yZ,cm],(HT _ _).2 ⟨VZ,(λq hq=>nomatch hq),vzz⟩⟩
theorem qbX(t:ae)(h:Tw t):zj t=some (decide (t=tR)):=by
 unfold zj
 rw[X3 _ _ h];rfl
theorem Vp(t:ae)(h:Tw t):MF t=some (decide (t=tR)):=by
 unfold MF
 rw[Yb _ _ h ZU];rfl
theorem Yl(e:af):qJ e.Types (e.Types.length:Int) 0=vw e 0:=by
 unfold qJ vw
 congr 1
 funext zz
 unfold rN pz
 simp only[Ky]
theorem Ym(e:af)(he:Pb e):qK e.Params (e.Params.length:Int) 0=vA e 0:=by
 have hB:nE e<=1073741824:=pe he
 have l3:=jZ e
 unfold qK vA
 have hin:∀i:Nat,i<e.Params.length->∃r,jS e.Params (e.Params.length:Int) (i:Int)=some r/\gz e (i:Int)=some r/\∀t,r=.inl t->t=dU ((i:Int)+1):=λi hi=>by
  have ho:=P2 he (vah hi)
  obtain⟨c,hc,_⟩:=yk _ ho.1
  unfold jS gz Bv xC
  rw[vad (by simpa using hi),vad (by simpa using hi),aM _ _ hi]
  simp only[vaa,W5,W6,Ky]
  rw[hc,qbX _ ho,Vp _ ho]
  simp only[vaa]
  by_cases hz:e.Params[i].Type_=tR
  ·by_cases h0:(c !=0)=true<;>simp[hz,h0]
  ·by_cases h0:(c !=0)=true<;>simp[hz,h0]
 refine Xq e.Params.length (by omega) (λi hi=>?_) ?_ (λt=>?_)
 ·obtain⟨r,h1,h2,h3⟩:=hin i hi
  exact⟨h1.trans h2.symm,λt ht=>h3 t (va3 (h2.symm.trans ht))⟩
 ·unfold jS gz
  rw[vab (by simp),vab (by simp)]
 ·unfold gz
  rw[vab (by simp)]
  simp
theorem Yn(e:af)(he:Pb e):gu (EN e) (λ_=>True):=by
 have hB:nE e<=1073741824:=pe he
 have l3:=jZ e
 have l4:=xO e
 unfold EN
 refine aA (R:=λ_=>True) ?_ (λo _=>?_)
 ·unfold vw
  refine(Hy e.Types.length (by omega) (λ_=>True) (λ_=>True) (λi hi=>?_) ?_).mono (λ_ _=>trivial)
  ·unfold pz
   rw[vad (by simpa using hi),aM _ _ hi]
   simp only[vaa]
   refine aA (yk _ (ZQ he (vah hi)).1) (λc _=>aD (λ_=>am vzz) (λ_=>am ⟨rfl,vzz⟩))
  ·unfold pz
   rw[vab (by simp)]
 ·cases o with
  |inl o=>exact am vzz
  | inr o =>
   refine aA (R:=λ_=>True) ?_ (λo _=>by cases o<;>exact am vzz)
   unfold vA
   refine(Hy e.Params.length (by omega) (λ_=>True) (λ_=>True) (λi hi=>?_) ?_).mono (λ_ _=>trivial)
   ·have ho:=P2 he (vah hi)
    obtain⟨c,hc,_⟩:=yk _ ho.1
    unfold gz Bv
    rw[vad (by simpa using hi),aM _ _ hi]
    simp only[vaa]
    rw[hc,Vp _ ho]
    simp only[vaa]
    by_cases hz:e.Params[i].Type_=tR
    ·simp only[hz,decide_true,if_true,vaa];exact am ⟨rfl,vzz⟩
    ·simp only[hz,decide_false,vaD,if_false]
     by_cases h0:(c !=0)=true
     ·simp only[h0,if_true,vaa];exact am vzz
     ·simp only[h0,if_false,vaa];exact am ⟨rfl,vzz⟩
   ·unfold gz
    rw[vab (by simp)]
theorem qbV(e:af)(he:Pb e):∃c,tM e=some c/\lJ e=some c:=by
 have hB:nE e<=1073741824:=pe he
 obtain⟨sh,ok,u,hS⟩:=Yc e.Op
 obtain⟨c,hc,_⟩:=Yn e he
 have hJ3:∃b,qI e=some b/\sU e=some b:=by
  unfold qI sU NJ Dm
  simp only[WO,qc5,Vz,vaa]
  exact⟨_,rfl,rfl⟩
 obtain⟨b3,h3,h3'⟩:=hJ3
 unfold tM lJ
 rw[hS.p,hS.r]
 simp only[vaa]
 have hJ1:qG e sh.n sh.name sh.most sh.params sh.alts sh.types=some ((!u.n&&(e.N !=0))||((!u.name&&!(e.Name==([]:ah)))||((u.most==0&&decide ((e.Kids.length:Int)>0))||((!u.params&&decide ((e.Params.length:Int)>0))||((!u.alts&&decide ((e.Alts.length:Int)>0))||(!u.types&&decide ((e.Types.length:Int)>0))))))):=by
  unfold qG
  rw[hS.n,hS.name,hS.most,hS.params,hS.alts,hS.types]
  simp only[WO,qc5,Vz]
 have hR1:oS e u.n u.name u.most u.ok=some (!u.ok||((!u.n&&(e.N !=0))||((!u.name&&!(e.Name==([]:ah)))||(u.most==0&&decide ((e.Kids.length:Int)>0))))):=by
  unfold oS
  simp only[WO,qc5,Vz]
 have hR2:sT e u.params u.alts u.types=some ((!u.params&&decide ((e.Params.length:Int)>0))||((!u.alts&&decide ((e.Alts.length:Int)>0))||(!u.types&&decide ((e.Types.length:Int)>0)))):=by
  unfold sT
  simp only[WO,qc5,Vz]
 rw[hJ1,hR1,hR2]
 have hJ2:∀b,qH ok b=some (!u.ok||b):=λb=>by
  unfold qH
  rw[hS.ok,qc5]
 simp only[vaa,hJ2]
 by_cases ht:u.types=false->(e.Types.length:Int)=0
 ·obtain⟨bc,hc1,hc2⟩:=W0 e he hS ht
  rw[hc1,hc2,h3,h3',ZK e he,Vc e he,RX e he,Yl,Ym e he,hS.name]
  have hc':=hc
  unfold EN at hc'
  rw[hc]
  simp only[vaa]
  generalize (!u.n&&(e.N !=0))=a1
  generalize (!u.name&&!(e.Name==([]:ah)))=a2
  generalize (u.most==0&&decide ((e.Kids.length:Int)>0))=a3
  generalize (!u.params&&decide ((e.Params.length:Int)>0))=a4
  generalize (!u.alts&&decide ((e.Alts.length:Int)>0))=a5
  generalize (!u.types&&decide ((e.Types.length:Int)>0))=a6
  generalize u.ok=a0
  generalize YN e u.name=n1
  generalize Y7 e=n2
  by_cases hU:(!a0||(a1||(a2||(a3||(a4||(a5||a6))))))=true
  ·rw[vad hU]
   refine⟨1,rfl,?_⟩
   cases a0<;>cases a1<;>cases a2<;>cases a3<;>cases a4<;>cases a5<;>cases a6<;>first|rfl|simp at hU
  ·rw [vab hU]
   have hU':a0=true/\a1=false/\a2=false/\a3=false/\a4=false/\a5=false/\a6=false:=by
    revert hU
    cases a0<;>cases a1<;>cases a2<;>cases a3<;>cases a4<;>cases a5<;>cases a6<;>simp
   obtain⟨rfl,rfl,rfl,rfl,rfl,rfl,rfl⟩:=hU'
   cases bc with
   |false=>exact⟨13,rfl,rfl⟩
   | true =>
    cases b3 with
    |true=>exact⟨2,rfl,rfl⟩
    | false =>
     cases n1 with
     |true=>exact⟨3,rfl,rfl⟩
     |false=>
      cases n2 with
      |true=>exact⟨4,rfl,rfl⟩
      |false=>exact⟨c,hc',rfl⟩
 ·have h1:u.types=false:=Classical.byContradiction λhx=>ht λhy=>absurd hy hx
  have h2:¬(e.Types.length:Int)=0:=λhx=>ht λ_=>hx
  have h3:decide ((e.Types.length:Int)>0)=true:=by simp;omega
  rw[h1,h3]
  generalize (!u.n&&(e.N !=0))=a1
  generalize (!u.name&&!(e.Name==([]:ah)))=a2
  generalize (u.most==0&&decide ((e.Kids.length:Int)>0))=a3
  generalize (!u.params&&decide ((e.Params.length:Int)>0))=a4
  generalize (!u.alts&&decide ((e.Alts.length:Int)>0))=a5
  generalize u.ok=a0
  refine⟨1,vad (by simp),?_⟩
  cases a0<;>cases a1<;>cases a2<;>cases a3<;>cases a4<;>cases a5<;>rfl
def JK(e:af):Int:=(lJ e).getD 0
theorem Fl{e:af}(he:Pb e):lJ e=some (JK e)/\tM e=some (JK e):=by
 obtain⟨c,h1,h2⟩:=qbV e he
 unfold JK
 rw[h2]
 exact⟨rfl,h1⟩
def jE:List af->Int
 |[]=>0
 |x::l=>if JK x=0 then jE l else JK x
theorem Gk:∀(l m:List af),jE (l++m)=if jE l=0 then jE m else jE l
 |[],m=>by simp[jE]
 | x :: l,m => by
  rw[vaL,jE,jE,Gk l m]
  by_cases h:JK x=0
  ·simp[h]
  ·simp[h]
theorem Yq(e:af)(he:Pb e):∃b,jr e 0=some (b,jE (cp e)):=by
 rw[Mb e 0 (pe he)]
 have key:∀(l:List af),(∀x∈l,Pb x)->∃b,Di (λs x=>gP x s) l (0:Int)=some (b,jE l):=by
  intro l
  induction l with
  |nil=>intro _;exact⟨true,rfl⟩
  | cons x l ih =>
   intro h
   have hx:=(Fl (h x (by simp))).2
   have e1:gP x 0=some (JK x==0,JK x):=by unfold gP;rw[hx];rfl
   rw[Di,e1,jE]
   by_cases h0:JK x=0
   ·simp only[vaa,h0,beq_self_eq_true,if_true]
    exact ih λy hy=>h y (by simp[hy])
   ·have h0':(JK x==0)=false:=by simpa using h0
    simp only[vaa,h0',h0,if_false]
    exact⟨false,rfl⟩
 exact key _ λx hx=>NK he hx
theorem Q0(e:af)(he:Pb e):Sv e=some (jE (cp e)):=by
 refine sj (F:=MG) nE Pb (λx=>jE (cp x)) (λR e he ih=>?_) e he (iJ (pe he))
 have hB:nE e<=1073741824:=pe he
 have hlen:=yL e
 show Gx (λe=>R e) e=_
 unfold Gx
 rw[(Fl he).1,JD e (pe he)]
 simp only[vaa]
 have key:∀(k i:Nat) (v:Int),i+k=(ba e).length->sS (λe=>R e) (ba e) v (i:Int)=some (if v=0 then jE (((ba e).drop i).flatMap cp)else v):=by
  intro k
  induction k with
  | zero =>
   intro i v hi
   have:i=(ba e).length:=by omega
   subst this
   unfold sS
   rw[ik (x:=v) ?_]
   ·rw[vbN]
    by_cases hv:v=0
    ·rw[vad hv,hv];rfl
    ·rw[vab hv]
   ·show iI (λe=>R e) (ba e) v ((ba e).length:Int)=_
    unfold iI yA
    rw[vab (by simp)]
    rfl
  | succ k ihk =>
   intro i v hi
   have hlt:i<(ba e).length:=by omega
   have hm:(ba e)[i]∈ba e:=vah hlt
   by_cases hv:v=0
   ·have hb:iI (λe=>R e) (ba e) v (i:Int)=some (.inl (jE (cp (ba e)[i]),((i+1:Nat):Int))):=by
     unfold iI yA
     rw[vad (by simpa using hlt),hv]
     simp only[vaa,beq_self_eq_true,if_true]
     rw[aM _ _ hlt]
     simp only[vaa]
     rw[ih _ (ET hm) (ZP he hm),cW (by omega) (by omega)]
     rfl
    have h:=ihk (i+1) (jE (cp (ba e)[i])) (by omega)
    unfold sS at h ⊢
    rw[wn (s':=(jE (cp (ba e)[i]),((i+1:Nat):Int))) hb,h,vad hv,vaI hlt,vbz,Gk]
   ·unfold sS
    rw[ik (x:=v) ?_,vab hv]
    show iI (λe=>R e) (ba e) v (i:Int)=_
    unfold iI yA
    rw[vad (by simpa using hlt)]
    simp only[vaa]
    rw[vab (by simpa using hv)]
 have h:=key (ba e).length 0 (JK e) (by omega)
 rw[show((0:Nat):Int)=0 from rfl]at h
 rw[h,vbc,pd,jE]
 rfl
theorem Yv(e:af)(he:Pb e):∃c,v8 e=some c/\wd e=some c:=by
 obtain⟨b,hw⟩:=Yq e he
 unfold v8 wd
 rw[YC e (pe he),Fj e (pe he),Yz e (pe he),Ks e (pe he),hw,Q0 e he]
 simp only[vaa]
 by_cases h1:decide (((cp e).length:Int)>400)=true
 ·rw[vad h1];exact⟨_,rfl,rfl⟩
 ·rw[vab h1]
  by_cases h2:decide ((dE e:Int)>40)=true
  ·rw[vad h2];exact⟨_,rfl,rfl⟩
  ·rw[vab h2];exact⟨_,rfl,rfl⟩
structure qdm(e:af):Prop where
 rng:1<=e.Op/\e.Op<=26
 n1:e.Op=1->qd4 e.N
 k1:e.Op=6\/e.Op=9\/e.Op=15\/e.Op=21\/e.Op=22\/e.Op=23\/e.Op=26->∃a,e.Kids=[a]
 k2:e.Op=7\/(10<=e.Op/\e.Op<=14)\/(16<=e.Op/\e.Op<=20)\/e.Op=24->∃a b,e.Kids=[a,b]
 k3:e.Op=8->∃a b c,e.Kids=[a,b,c]
 k5:e.Op=5->1<=e.Kids.length
 k25:e.Op=25->2<=e.Kids.length
 t26:e.Op=26->∃t,e.Types=[t]
theorem qfK{α:Type}{l:List α}(h:l.length=1):∃a,l=[a]:=by
 match l,h with
 |[a],_=>exact⟨a,rfl⟩
theorem qi7{α:Type}{l:List α}(h:l.length=2):∃a b,l=[a,b]:=by
 match l,h with
 |[a,b],_=>exact⟨a,b,rfl⟩
theorem qi8{α:Type}{l:List α}(h:l.length=3):∃a b c,l=[a,b,c]:=by
 match l,h with
 |[a,b,c],_=>exact⟨a,b,c,rfl⟩
structure qkP(op:Int)(u:aH):Prop where
 rng:u.ok=true->1<=op/\op<=26
 k1:op=6\/op=9\/op=15\/op=21\/op=22\/op=23\/op=26->u.least=1/\u.most=1
 k2:op=7\/(10<=op/\op<=14)\/(16<=op/\op<=20)\/op=24->u.least=2/\u.most=2
 k3:op=8->u.least=3/\u.most=3
 k5:op=5->u.least=1
 k25:op=25->u.least=2
 t26:op=26->u.exactly=true
theorem Yp(op:Int):∃u,wA op=some u/\qkP op u:=by
 by_cases h:1<=op/\op<=26
 ·have:op=1\/op=2\/op=3\/op=4\/op=5\/op=6\/op=7\/op=8\/op=9\/op=10\/op=11\/op=12\/op=13\/op=14\/op=15\/op=16\/op=17\/op=18\/op=19\/op=20\/op=21\/op=22\/op=23\/op=24\/op=25\/op=26:=by omega
  rcases this with h|h|h|h|h|h|h|h|h|h|h|h|h|h|h|h|h|h|h|h|h|h|h|h|h|h<;>subst h<;>
   exact⟨_,rfl,⟨λ_=>by omega,λh=>by first|exact⟨rfl,rfl⟩|omega,λh=>by first|exact⟨rfl,rfl⟩|omega,λh=>by first|exact⟨rfl,rfl⟩|omega,λh=>by first|rfl|omega,λh=>by first|rfl|omega,λh=>by first|rfl|omega⟩⟩
 ·have hb:∀k:Int,1<=k->k<=26->(op==k)=false:=λk h1 h2=>by rw[beq_eq_false_iff_ne];omega
  refine⟨⟨false,false,0,0,false,false,false,false,false⟩,?_,⟨λh=>(by cases h),λh=>(by omega),λh=>(by omega),λh=>(by omega),λh=>(by omega),λh=>(by omega),λh=>(by omega)⟩⟩
  unfold wA DF DG DH
  simp[hb]
theorem IG(e:af)(h:lJ e=some 0):qdm e:=by
 obtain⟨u,hu,hU⟩:=Yp e.Op
 unfold lJ at h
 rw[hu]at h
 simp only[vaa]at h
 obtain⟨o1,e1,h⟩:=Gd h
 rcases n9 h with⟨c1,h⟩|⟨c1,h⟩
 ·cases h
 obtain⟨o2,e2,h⟩:=Gd h
 rcases n9 h with⟨c2,h⟩|⟨c2,h⟩
 ·cases h
 obtain⟨o3,e3,h⟩:=Gd h
 rcases n9 h with⟨c3,h⟩|⟨c3,h⟩
 ·cases h
 obtain⟨o4,e4,h⟩:=Gd h
 rcases n9 h with⟨c4,h⟩|⟨c4,h⟩
 ·cases h
 have hok:u.ok=true:=by
  unfold oS at e1
  rcases n9 e1 with⟨d,e1⟩|⟨d,e1⟩
  ·rw[<-va3 e1]at c1;cases c1
  ·simpa using d
 have hcnt:(u.least<=(e.Kids.length:Int)/\(e.Kids.length:Int)<=u.most)/\(u.exactly=true->(e.Types.length:Int)=1):=by
  have c3:o3=true:=by simpa using c3
  subst c3
  unfold wz at e3
  obtain⟨p1,q1,e3⟩:=Gd e3
  rcases n9 e3 with⟨d1,e3⟩|⟨d1,e3⟩
  ·cases e3
  obtain⟨p2,q2,e3⟩:=Gd e3
  rcases n9 e3 with⟨d2,e3⟩|⟨d2,e3⟩
  ·cases e3
  obtain⟨p3,q3,e3⟩:=Gd e3
  rcases n9 e3 with⟨d3,e3⟩|⟨d3,e3⟩
  ·cases e3
  obtain⟨p4,q4,e3⟩:=Gd e3
  refine⟨?_,λhx=>?_⟩
  ·subst d1
   unfold rZ at q1
   rcases n9 q1 with⟨d,q1⟩|⟨d,q1⟩
   ·cases q1
   ·simp at d q1
    omega
  ·cases p4 with
   |inl _=>cases e3
   | inr _ =>
    simp only[]at e3
    rcases n9 e3 with⟨d,e3⟩|⟨d,e3⟩
    ·rw[hx]at d;cases d
    ·rcases n9 e3 with⟨d',e3⟩|⟨d',e3⟩
     ·simpa using d'
     ·cases e3
 obtain⟨⟨hl,hm⟩,ht⟩:=hcnt
 refine⟨hU.rng hok,λh1=>?_,λhk=>qfK ?_,λhk=>qi7 ?_,λhk=>qi8 ?_,λhk=>?_,λhk=>?_,λhk=>qfK ?_⟩
 ·subst c4
  unfold sU at e4
  rw[vad (by simp[h1])]at e4
  obtain⟨q,hq,e4⟩:=Gd e4
  rcases n9 e4 with⟨d,e4⟩|⟨d,e4⟩
  ·cases e4
  ·have hq':q=true:=by simpa using d
   subst hq'
   unfold Dm at hq
   rcases n9 hq with⟨d1,hq⟩|⟨d1,hq⟩
   ·simp at d1 hq
    exact⟨by omega,hq⟩
   ·cases hq
 ·obtain⟨a,b⟩:=hU.k1 hk;omega
 ·obtain⟨a,b⟩:=hU.k2 hk;omega
 ·obtain⟨a,b⟩:=hU.k3 hk;omega
 ·have:=hU.k5 hk;omega
 ·have:=hU.k25 hk;omega
 ·have:=ht (hU.t26 hk);omega
def Al(e:af):Prop:=∀x∈cp e,qdm x
theorem wS{e:af}(h:Al e):qdm e:=h e (TZ e)
theorem Nc{e x:af}(h:Al e)(hx:x∈ba e):Al x:=λy hy=>h y (by rw[pd];exact vax _ (vcC.2 ⟨x,hx,hy⟩))
theorem ky{e x:af}(h:Al e)(hx:x∈e.Kids):Al x:=Nc h (vaV _ hx)
theorem PL{e:af}{a:cf}(h:Al e)(hx:a∈e.Alts):Al a.Body:=Nc h (vaN _ (vaq.2 ⟨a,hx,rfl⟩))
abbrev FP(e:af):Prop:=ff (ag e)<=16777216
theorem Sb{e:af}(h:FP e):Pb e:=vau h (by unfold cm;omega)
theorem DV:∀(l:List af),jE l=0->∀x∈l,JK x=0
 |[],_=>λx hx=>nomatch hx
 | y :: l,h => fun x hx => by
  rw[jE]at h
  by_cases h0:JK y=0
  ·rw[vad h0]at h
   rcases vaF.1 hx with rfl|hx
   ·exact h0
   ·exact DV l h x hx
  ·rw[vab h0]at h;exact absurd h h0
theorem Uu(e:af)(hs:FP e)(h:wd e=some 0):Al e:=by
 have he:=Sb hs
 unfold wd at h
 rw[Fj e (pe he),Ks e (pe he),Q0 e he]at h
 simp only[vaa]at h
 rcases n9 h with⟨c,h⟩|⟨c,h⟩
 ·cases h
 rcases n9 h with⟨c,h⟩|⟨c,h⟩
 ·cases h
 intro x hx
 have h0:=DV _ (va3 h) x hx
 exact IG x (by rw[(Fl (NK he hx)).1,h0])
def D6(e:af):Int:=if e.Op=7\/e.Op=8\/e.Op=9\/e.Op=6\/e.Op=25 then 0 else if e.Op=20 then 1 else if e.Op=19 then 2 else if e.Op=21 then(if(e.Kids.headD ⟨0,[],0,[],[],[],[]⟩).Op=16 then 4 else 3)else if e.Op=16\/e.Op=17\/e.Op=18 then 4
 else if e.Op=10\/e.Op=11 then 5 else if e.Op=12\/e.Op=13\/e.Op=14 then 6 else if e.Op=15 then 7 else 8
def qaL(o:Int):ah:=if o=20 then Bf else if o=19 then Bd else if o=16 then qaW else if o=17 then Qs else if o=18 then Be else if o=10 then Qr else if o=11 then pj else if o=12 then Qq else if o=13 then qgf else qgg
section
variable(f:af->Wr)
def kE(l:List af)(i:Nat):Wr:=((l[i]?).map f).getD ([],false)
def yc(least:Int)(x:af):Wr:=if D6 x<least then aJ [tW cd,f x,tW bA]else f x
def Il(least:Int)(l:List af)(i:Nat):Wr:=((l[i]?).map (yc f least)).getD ([],false)
def lh(l:List af):List Wr:=tW cd::(eU ax (l.map f)++[tW bA])
abbrev xQ(t:ae):Wr:=qeO 16777216 t
def iZ(l:List ae):List Wr:=if l=[]then[]else tW Li::(eU ax (l.map xQ)++[tW EK])
def pY(l:List ah):List Wr:=if l=[]then[]else tW iF::(eU ax (l.map (qa false))++[tW bA])
def Hz(sg:ah)(l:List af)(a b:Int):List Wr:=[Il f a l 0,tW (ce++(sg++ce)),Il f b l 1]
def FB(p:cc):Wr:=aJ (qa false p.Name::(if p.Type_=tR then[]else[tW aS,xQ p.Type_]))
def Bz(a:cf):Wr:=aJ (qa true a.Con::(pY a.Names++[tW cX,f a.Body]))
def EF(e:af):List Wr:=
 if e.Op=1 then[tW (LH e.N)]
 else if e.Op=2 then[tW (if e.N=1 then eC else eR)]
 else if e.Op=3 then[qa false e.Name]
 else if e.Op=4 then qa true e.Name::(iZ e.Types++(if e.Kids=[]then[]else lh f e.Kids))
 else if e.Op=5 then qa false e.Name::(iZ e.Types++lh f e.Kids)
 else if e.Op=6 then tW mg::(eU ax (e.Params.map FB)++[tW aR,kE f e.Kids 0])
 else if e.Op=7 then tW tQ::qa false e.Name::((match e.Types with|[]=>[]|t::_=>[tW aS,xQ t])++[tW dY,kE f e.Kids 0,tW cP,kE f e.Kids 1])
 else if e.Op=8 then[tW Ct,kE f e.Kids 0,tW fF,kE f e.Kids 1,tW fE,kE f e.Kids 2]
 else if e.Op=9 then tW rV::kE f e.Kids 0::tW dG::(eU ey (e.Alts.map (Bz f))++[tW gS])
 else if e.Op=25 then tW xP::qa false e.Name::tW ce::(lh f (e.Kids.take (e.Kids.length - 1))++[tW cP,kE f e.Kids (e.Kids.length - 1)])
 else if e.Op=21 then(if(e.Kids.headD ⟨0,[],0,[],[],[],[]⟩).Op=16 then Hz f gT (e.Kids.headD ⟨0,[],0,[],[],[],[]⟩).Kids 5 5 else[tW rh,Il f 3 e.Kids 0])
 else if e.Op=15 then[tW pj,Il f 7 e.Kids 0]
 else if e.Op=22 then tW Ll::lh f e.Kids
 else if e.Op=23 then tW Lk::lh f e.Kids
 else if e.Op=24 then tW Lm::lh f e.Kids
 else if e.Op=26 then[tW cd,kE f e.Kids 0,tW aS,((e.Types[0]?).map xQ).getD ([],false),tW bA]
 else if e.Op=16\/e.Op=17\/e.Op=18 then Hz f (qaL e.Op) e.Kids 5 5
 else Hz f (qaL e.Op) e.Kids (D6 e) (D6 e+1)
end
def Bh:Nat->af->Wr
 |0,_=>([],false)
 |n+1,e=>aJ (EF (Bh n) e)
theorem qaj(e:af)(h:qdm e):tt e=some (D6 e):=by
 obtain⟨h1,h2⟩:=h.rng
 have hk:=h.k1
 obtain⟨o,nm,n,ks,ps,as1,ts⟩:=e
 replace h1:1<=o:=h1
 replace h2:o<=26:=h2
 replace hk:o=6\/o=9\/o=15\/o=21\/o=22\/o=23\/o=26->∃a,ks=[a]:=hk
 have:o=1\/o=2\/o=3\/o=4\/o=5\/o=6\/o=7\/o=8\/o=9\/o=10\/o=11\/o=12\/o=13\/o=14\/o=15\/o=16\/o=17\/o=18\/o=19\/o=20\/o=22\/o=23\/o=24\/o=25\/o=26\/o=21:=by omega
 rcases this with rfl|rfl|rfl|rfl|rfl|rfl|rfl|rfl|rfl|rfl|rfl|rfl|rfl|rfl|rfl|rfl|rfl|rfl|rfl|rfl|rfl|rfl|rfl|rfl|rfl|rfl
 case' inr.inr.inr.inr.inr.inr.inr.inr.inr.inr.inr.inr.inr.inr.inr.inr.inr.inr.inr.inr.inr.inr.inr.inr.inr=>
  obtain⟨a,rfl⟩:=hk (by omega)
  show(dh [a] 0).bind (λx10=>if(x10.Op==16)=true then some 4 else some 3)=some (if a.Op=16 then 4 else 3)
  rw[ep]
  simp only[vaa]
  by_cases h16:a.Op=16<;>simp[h16]
 all_goals rfl
end Go.Proofs.YtibglelmlnfojaaGreatDoor
