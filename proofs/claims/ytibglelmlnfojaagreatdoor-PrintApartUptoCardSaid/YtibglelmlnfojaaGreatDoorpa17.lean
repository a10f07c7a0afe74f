/- PROVED: a part of the proof. Conditions: none. -/
import Derived.Test.YtibglelmlnfojaaGreatDoorpa16
import Derived.Test.YtibglelmlnfojaaGreatDoorpa13
import Derived.Test.YtibglelmlnfojaaGreatDoorpa9
import Derived.Test.YtibglelmlnfojaaGreatDoorpa10
set_option linter.unusedSimpArgs false
set_option linter.unusedVariables false
noncomputable section
namespace Go.Proofs.YtibglelmlnfojaaGreatDoor
open Go
set_option linter.unusedVariables false
set_option linter.unusedSimpArgs false
def yS(op:Int)(n:Int):Bool:=if op=1\/op=2\/op=3 then n==0 else if op=4\/op=5 then decide (n>=1)&&decide (n<=24)else if op=9\/op=14 then n==1 else n==2
theorem qaH(op n:Int):ni op n=some (yS op n):=by
 unfold ni yq yr yt yS
 by_cases h1:op=1
 ·simp[h1]
 by_cases h2:op=2
 ·simp[h2]
 by_cases h3:op=3
 ·simp[h3]
 by_cases h4:op=4
 ·subst h4
  by_cases hn:n>=1<;>simp[hn]
 by_cases h5:op=5
 ·subst h5
  by_cases hn:n>=1<;>simp[hn]
 by_cases h9:op=9
 ·simp[h9]
 by_cases h14:op=14
 ·simp[h14]
 ·simp[h1,h2,h3,h4,h5,h9,h14]
theorem qag(op:Int)(n:Nat):∃l m,Fh op=some (l,m)/\(if decide ((n:Int)<l)=true then some true else some (decide ((n:Int)>m)))=some (!yS op (n:Int)):=by
 unfold Fh BP BQ BS yS
 have e0:(if decide ((n:Int)<0)=true then some true else some (decide ((n:Int)>0)))=some (!((n:Int)==0)):=by
  rw[vab (by simp)]
  by_cases h:n=0
  ·subst h;rfl
  ·have h1:(n:Int)>0:=by omega
   rw[vaP h1];simp[h]
 have e1:(if decide ((n:Int)<1)=true then some true else some (decide ((n:Int)>24)))=some (!(decide ((n:Int)>=1)&&decide ((n:Int)<=24))):=by
  by_cases h:(n:Int)<1
  ·rw[vad (vaP h),decide_eq_false (by omega:¬(n:Int)>=1)];rfl
  ·rw[vab (by simpa using h),vaP (by omega:(n:Int)>=1)]
   by_cases h2:(n:Int)>24
   ·rw[vaP h2,decide_eq_false (by omega:¬(n:Int)<=24)];rfl
   ·rw[decide_eq_false h2,vaP (by omega:(n:Int)<=24)];rfl
 have ek:∀k:Nat,(if decide ((n:Int)<(k:Int))=true then some true else some (decide ((n:Int)>(k:Int))))=some (!((n:Int)==(k:Int))):=λk=>by
  by_cases h:(n:Int)<k
  ·rw[vad (vaP h)]
   have:((n:Int)==(k:Int))=false:=by rw[beq_eq_false_iff_ne];omega
   rw[this];rfl
  ·rw[vab (by simpa using h)]
   by_cases h2:(n:Int)>k
   ·have:((n:Int)==(k:Int))=false:=by rw[beq_eq_false_iff_ne];omega
    rw[this,vaP h2];rfl
   ·have:((n:Int)==(k:Int))=true:=by rw[va9];omega
    rw[this,decide_eq_false h2];rfl
 by_cases h1:op=1
 ·exact⟨0,0,by simp[h1],by simpa[h1]using e0⟩
 by_cases h2:op=2
 ·exact⟨0,0,by simp[h2],by simpa[h2]using e0⟩
 by_cases h3:op=3
 ·exact⟨0,0,by simp[h3],by simpa[h3]using e0⟩
 by_cases h4:op=4
 ·exact⟨1,24,by simp[h4],by rw[e1];simp[h4]⟩
 by_cases h5:op=5
 ·exact⟨1,24,by simp[h5],by rw[e1];simp[h5]⟩
 by_cases h9:op=9
 ·exact⟨1,1,by simp[h9],by have:=ek 1;rw[show((1:Nat):Int)=1 from rfl]at this;rw[this];simp[h9]⟩
 by_cases h14:op=14
 ·exact⟨1,1,by simp[h14],by have:=ek 1;rw[show((1:Nat):Int)=1 from rfl]at this;rw[this];simp[h14]⟩
 ·exact⟨2,2,by simp[h1,h2,h3,h4,h5,h9,h14],by have:=ek 2;rw[show((2:Nat):Int)=2 from rfl]at this;rw[this];simp[h1,h2,h3,h4,h5,h9,h14]⟩
theorem Qc(op:Int):z7 op=some (op==3||op==4||op==5):=by
 unfold z7
 by_cases h3:op=3
 ·simp[h3]
 by_cases h4:op=4<;>simp[h3,h4]
theorem P8(op:Int):BT op=some (op==3||op==4||op==5):=Qc op
theorem qjm(p:aa):yu p=some (p.Op==1||p.Op==2):=by
 unfold yu
 by_cases h:p.Op=1<;>simp[h]
def Hj(p:aa):Bool:=!(p.Name==([]:ah))&&!(p.Op==3||p.Op==4||p.Op==5)||((p.N !=0)&&!(p.Op==1||p.Op==2))||!yS p.Op (p.Kids.length:Int)
theorem qjn(p:aa):yw p (p.Op==1||p.Op==2)=some (decide (p.Op<1)||decide (p.Op>18)||Hj p):=by
 unfold yw Hj
 simp only[Qc,qaH,vaa]
 cases decide (p.Op<1)
 ·cases decide (p.Op>18)
  ·cases(p.Name==([]:ah))<;>cases(p.Op==3||p.Op==4||p.Op==5)<;>cases(p.N !=0)<;>cases(p.Op==1||p.Op==2)<;>cases yS p.Op (p.Kids.length:Int)<;>rfl
  ·rfl
 ·rfl
theorem qlG(p:aa)(l m:Int)(h:(if decide ((p.Kids.length:Int)<l)=true then some true else some (decide ((p.Kids.length:Int)>m)))=some (!yS p.Op (p.Kids.length:Int))):vO p l m=some (Hj p):=by
 unfold vO Hj
 simp only[P8,vaa,h]
 by_cases h1:p.Op=1
 ·cases(p.Name==([]:ah))<;>cases(p.N !=0)<;>simp[h1]
 by_cases h2:p.Op=2
 ·cases(p.Name==([]:ah))<;>cases(p.N !=0)<;>simp[h2]
 have e1:(p.Op !=1)=true:=by simpa using h1
 have e2:(p.Op !=2)=true:=by simpa using h2
 have e3:(p.Op==1)=false:=by simpa using h1
 have e4:(p.Op==2)=false:=by simpa using h2
 rw[e1,e2,e3,e4]
 cases(p.Name==([]:ah))<;>cases(p.Op==3||p.Op==4||p.Op==5)<;>cases(p.N !=0)<;>cases yS p.Op (p.Kids.length:Int)<;>rfl
theorem qfH(n:Int):NJ n=Dm n:=rfl
theorem qlH(p:aa):vP p=lG p:=by
 unfold vP lG
 rw[qfH]
 have hN:(if(p.N !=0)=true then some (p.N !=1)else some false)=(if decide (p.N<0)=true then some true else some (decide (p.N>1))):=by
  by_cases h0:p.N=0
  ·rw[h0];rfl
  by_cases h1:p.N=1
  ·rw[h1];rfl
  ·have:(p.N !=0)=true:=by simpa using h0
   have h2:(p.N !=1)=true:=by simpa using h1
   rw[vad this,h2]
   by_cases h3:p.N<0
   ·rw[vad (vaP h3)]
   ·rw[vab (by simpa using h3),vaP (by omega:p.N>1)]
 rw[hN]
theorem qlI(p:aa):vQ p=(j3 p).bind λr=>if(!r)=true then some (.inl ())else some (.inr ()):=by
 unfold vQ BU BV BW BX j3
 simp only[P8,vaa,nu,lD,pP,PI]
 by_cases h3:p.Op=3
 ·cases hc:aY p.Name<;>cases(p.Name==([118]:ah))<;>simp[h3,hc]
 by_cases h4:p.Op=4
 ·cases hc:aY p.Name<;>cases(p.Name==([116,97,103]:ah))<;>cases(p.Name==([118,97,108]:ah))<;>simp[h4,hc]
 by_cases h5:p.Op=5
 ·cases hc:aY p.Name<;>simp[h5,hc]
 ·simp[h3,h4,h5]
theorem qlJ(p:aa):BY p=yx p:=rfl
theorem qlF(p:aa):vN p=some (decide (p.Op<1)||decide (p.Op>18)):=by
 unfold vN
 cases decide (p.Op<1)<;>rfl
theorem Us(p:aa):∃b,j3 p=some b:=by
 obtain⟨b,e,_⟩:=GN p
 exact⟨b,e⟩
theorem qan(p:aa):Fi p=lF p:=by
 obtain⟨l,m,e1,e2⟩:=qag p.Op p.Kids.length
 obtain⟨c,ec⟩:=Us p
 have e4:=qlI p
 rw[ec]at e4
 unfold Fi lF
 rw[qlF,qjm,e1]
 simp only[vaa]
 rw[qjn,qlG p l m e2,qlH,e4,ec,qlJ]
 simp only[vaa]
 cases(decide (p.Op<1)||decide (p.Op>18))
 ·cases Hj p
  ·cases c<;>rfl
  ·rfl
 ·rfl
def Tz(r:Int)(s:Int):Bool×Int:=if(r !=0)=true then(false,r)else(true,s)
theorem Xe(R:aa->Option Int)(l:List aa)(hl:l.length<9223372036854775808)(ih:∀x∈l,∃r,R x=some r/\∀s,Oy dF x s=some (Tz r s)):gu (sQ R l (l.length:Int) 0) (λo=>o.elim (λr=>(r !=0)=true/\∀s,Bb dF l s=some (false,r)) (λ_=>∀s,Bb dF l s=some (true,s))):=by
 unfold sQ
 have key:∀k i,k+i=l.length->gu (loop (λzz=>iH R l (l.length:Int) zz) (i:Int)) (λo=>o.elim (λr=>(r !=0)=true/\∀s,Bb dF (l.drop i) s=some (false,r)) (λ_=>∀s,Bb dF (l.drop i) s=some (true,s))):=by
  intro k
  induction k with
  | zero =>
   intro i hi
   have hi:i=l.length:=by omega
   subst hi
   have hb:(λzz=>iH R l (l.length:Int) zz) ((l.length:Nat):Int)=some (.inr (.inr ())):=by
    show iH R l (l.length:Int) (l.length:Int)=_
    unfold iH
    rw[vab (by simp)]
   rw[ik hb]
   exact am (λs=>by rw[vbN,Bb])
  | succ k ihk =>
   intro i hi
   have hil:i<l.length:=by omega
   obtain⟨r,e,hv⟩:=ih _ (vah hil)
   rw[jh]
   have hb:iH R l (l.length:Int) (i:Int)=if(r !=0)=true then some (.inr (.inl r))else some (.inl (dU ((i:Int)+1))):=by
    unfold iH
    rw[vad (vaP (by omega)),aM _ i hil]
    simp only[vaa]
    rw[e]
    rfl
   rw[hb]
   have hd:=vaI hil
   by_cases hr:(r !=0)=true
   ·rw[vad hr]
    refine am ⟨hr,λs=>?_⟩
    rw[hd,Bb,hv s]
    unfold Tz
    rw[vad hr]
    rfl
   ·rw[vab hr]
    simp only
    rw[cW (by omega) (by omega),show((i:Int)+1)=((i+1:Nat):Int) by omega]
    have hn:∀s,Bb dF (l.drop i) s=Bb dF (l.drop (i+1)) s:=λs=>by
     rw[hd,Bb,hv s]
     unfold Tz
     rw[vab hr]
     rfl
    refine(ihk (i+1) (by omega)).mono λo ho=>?_
    cases o with
    |inl r'=>
     have ho:(r' !=0)=true/\∀s,Bb dF (l.drop (i+1)) s=some (false,r'):=ho
     exact⟨ho.1,λs=>by rw[hn];exact ho.2 s⟩
    |inr _=>
     have ho:∀s,Bb dF (l.drop (i+1)) s=some (true,s):=ho
     exact λs=>by rw[hn];exact ho s
 exact key l.length 0 (by omega)
theorem UE(p:aa)(hp:nP p<=cm):gu (HK p) (λr=>∀s,Oy dF p s=some (Tz r s)):=by
 refine tN (F:=Bo) nP (λx=>nP x<=cm) (λx r=>∀s,Oy dF x s=some (Tz r s)) (λR x hx ih=>?_) p hp (iJ hp)
 show gu (oA (λt=>R t) x) _
 have h1:=wX x
 unfold cm at hx
 obtain⟨r0,e0,_⟩:=NF x
 unfold oA
 rw[e0]
 simp only[vaa]
 have hs:∀s,dF s x=some (if(r0 !=0)=true then(false,r0)else(true,s)):=λs=>by
  unfold dF
  rw[qan,e0]
  simp only[vaa]
  split<;>rfl
 by_cases hr:(r0 !=0)=true
 ·rw[vad hr]
  refine am λs=>?_
  rw[Si,hs,vad hr]
  unfold Tz
  rw[vad hr]
  rfl
 ·rw[vab hr]
  have hv:∀s,Oy dF x s=Bb dF x.Kids s:=λs=>by
   rw[Si,hs,vab hr]
   simp only[vaa]
   rw[vad (by omega)]
  refine aA (Xe (λt=>R t) x.Kids (by omega) (λy hy=>ih _ (pV hy) (by have:=pV hy;unfold cm;omega))) λo ho=>?_
  cases o with
  |inl r=>
   obtain⟨h2,h3⟩:(r !=0)=true/\∀s,Bb dF x.Kids s=some (false,r):=ho
   exact am λs=>by rw[hv,h3];unfold Tz;rw[vad h2]
  |inr _=>
   have h3:∀s,Bb dF x.Kids s=some (true,s):=ho
   exact am λs=>by rw[hv,h3];rfl
theorem X2(p:aa):rD p=oP p:=by
 have h:BM=yp:=rfl
 unfold rD oP
 rw[h]
theorem XU(p:aa):rC p=EL p:=by
 have h:BL=Dw:=rfl
 unfold rC EL
 rw[h]
theorem XI(p:aa)(hp:nP p<=cm):rB p=ri p:=by
 obtain⟨r,e,hv⟩:=UE p hp
 unfold rB ri
 rw[X2,IH p hp,XU,M0 p hp,e,hv 0]
 simp only[vaa]
 split
 ·rfl
 split
 ·rfl
 unfold Tz
 by_cases hr:(r !=0)=true
 ·rw[vad hr];rfl
 ·rw[vab hr]
  have:r=0:=by simpa using hr
  rw[this];rfl
theorem Eh(p:aa):ff (ac p)=1+(p.Name.length+1+(1+(d8 (p.Kids.map ac)+1+0))):=by
 rw[bU];simp only[ff,pm,sl]
theorem Kl{α:Type}(c:α->List PVal)(h:∀x,1<=ff (c x)):∀(l:List α),l.length<=d8 (l.map c)
 |[]=>by simp
 |x::l=>by have:=Kl c h l;have:=h x;simp only[vae,d8,vaM];omega
theorem qal(t:ae):1<=ff (aj t):=by rw[Ei];omega
mutual
def nE:af->Nat
 |⟨_,_,_,ks,ps,as1,ts⟩=>VV ks+Nx as1+ps.length+ts.length+1
def nA:cf->Nat
 |⟨_,ns,b⟩=>ns.length+nE b+1
def VV:List af->Nat
 |[]=>0
 |e::l=>nE e+VV l
def Nx:List cf->Nat
 |[]=>0
 |a::l=>nA a+Nx l
end
theorem D8(e:af):nE e=VV e.Kids+Nx e.Alts+e.Params.length+e.Types.length+1:=by obtain⟨o,n,k,ks,ps,as1,ts⟩:=e;rw[nE];rfl
theorem Th(a:cf):nA a=a.Names.length+nE a.Body+1:=by obtain⟨c,ns,b⟩:=a;rw[nA];rfl
theorem JT(e:af):1<=nE e:=by rw[D8];omega
theorem VW:∀{l:List af} {x:af},x∈l->nE x<=VV l
 | y :: l,x,h => by
  rw[VV]
  rcases vaF.1 h with rfl|h
  ·omega
  ·have:=VW h;omega
theorem Rn:∀{l:List cf} {x:cf},x∈l->nA x<=Nx l
 | y :: l,x,h => by
  rw[Nx]
  rcases vaF.1 h with rfl|h
  ·omega
  ·have:=Rn h;omega
theorem Ro:∀(l:List af),l.length<=VV l
 |[]=>by simp[VV]
 |p::l=>by rw[VV];have:=Ro l;have:=JT p;simp only[vaM];omega
theorem Mo:∀(l:List cf),l.length<=Nx l
 |[]=>by simp[Nx]
 |p::l=>by rw[Nx];have:=Mo l;have:=Th p;simp only[vaM];omega
theorem pX{e x:af}(h:x∈e.Kids):nE x<nE e:=by rw[D8 e];have:=VW h;omega
theorem EO{e:af}{x:cf}(h:x∈e.Alts):nE x.Body<nE e:=by rw[D8 e];have:=Rn h;have:=Th x;omega
theorem An(e:af):e.Kids.length<nE e:=by rw[D8];have:=Ro e.Kids;omega
theorem mw(e:af):e.Alts.length<nE e:=by rw[D8];have:=Mo e.Alts;omega
theorem jZ(e:af):e.Params.length<nE e:=by rw[D8];omega
theorem xO(e:af):e.Types.length<nE e:=by rw[D8];omega
theorem EP{e:af}{x:cf}(h:x∈e.Alts):x.Names.length<nE e:=by rw[D8];have:=Rn h;have:=Th x;omega
def ba(e:af):List af:=e.Kids++e.Alts.map (·.Body)
theorem ET{e x:af}(h:x∈ba e):nE x<nE e:=by
 rcases vaS.1 h with h|h
 ·exact pX h
 ·obtain⟨a,ha,rfl⟩:=vaq.1 h
  exact EO ha
theorem Sd:∀(l:List af) (m:List cf),((l++m.map (·.Body)).map nE).sum<=VV l+Nx m
 |[],[]=>by simp
 |[],a::m=>by
  have:=Sd [] m
  have:=Th a
  simp only[VV,Nx,vaJ,vae,List.sum_cons]at *
  omega
 |x::l,m=>by
  have:=Sd l m
  simp only[VV,vaL,vae,List.sum_cons]at *
  omega
theorem yL(e:af):(ba e).length<nE e:=by
 rw[D8]
 have:=Ro e.Kids
 have:=Mo e.Alts
 simp only[ba,vas,vbI]
 omega
theorem Zo{Q:af->Prop}(h:∀e,(∀x∈ba e,Q x)->Q e):∀e,Q e:=by
 have key:∀(n:Nat) (e:af),nE e<=n->Q e:=by
  intro n
  induction n with
  |zero=>intro e he;have:=JT e;omega
  |succ n ih=>exact λe he=>h e λx hx=>ih x (by have:=ET hx;omega)
 exact λe=>key _ e (vaw _)
mutual
def cp:af->List af
 |⟨o,n,k,ks,ps,as1,ts⟩=>⟨o,n,k,ks,ps,as1,ts⟩::(NI ks++NH as1)
def UR:cf->List af
 |⟨_,_,b⟩=>cp b
def NI:List af->List af
 |[]=>[]
 |e::l=>cp e++NI l
def NH:List cf->List af
 |[]=>[]
 |a::l=>UR a++NH l
end
theorem K6:∀(l:List af),NI l=l.flatMap cp
 |[]=>by rw[NI];rfl
 |e::l=>by rw[NI,K6 l];rfl
theorem Xy(a:cf):UR a=cp a.Body:=by obtain⟨c,ns,b⟩:=a;rw[UR];rfl
theorem K5:∀(l:List cf),NH l=(l.map (·.Body)).flatMap cp
 |[]=>by rw[NH];rfl
 |a::l=>by rw[NH,K5 l,Xy];rfl
theorem pd(e:af):cp e=e::(ba e).flatMap cp:=by
 obtain⟨o,n,k,ks,ps,as1,ts⟩:=e
 rw[cp,K6,K5,ba,vcQ]
 rfl
theorem V1:∀(e:af),(cp e).length<=nE e:=by
 refine Zo λe ih=>?_
 rw[pd,vaM,vcR]
 have h1:=Sd e.Kids e.Alts
 have h2:((ba e).map λx=>(cp x).length).sum<=((ba e).map nE).sum:=by
  have:∀(l:List af),(∀x∈l,(cp x).length<=nE x)->(l.map λx=>(cp x).length).sum<=(l.map nE).sum:=by
   intro l
   induction l with
   |nil=>intro _;simp
   |cons x l ihl=>
    intro hx
    have a:=hx x (by simp)
    have b:=ihl λy hy=>hx y (by simp[hy])
    simp only[vae,List.sum_cons];omega
  exact this _ ih
 have h3:=D8 e
 unfold ba at *
 omega
theorem TZ(e:af):e∈cp e:=by rw[pd];simp
mutual
def dE:af->Nat
 |⟨_,_,_,ks,_,as1,_⟩=>max (EW ks) (qeL as1)+1
def dA:cf->Nat
 |⟨_,_,b⟩=>dE b
def EW:List af->Nat
 |[]=>0
 |e::l=>max (dE e) (EW l)
def qeL:List cf->Nat
 |[]=>0
 |a::l=>max (dA a) (qeL l)
end
theorem qfD(a:cf):dA a=dE a.Body:=by obtain⟨c,ns,b⟩:=a;rw[dA];rfl
theorem qfE(e:af):dE e=max (EW e.Kids) (qeL e.Alts)+1:=by obtain⟨o,n,k,ks,ps,as1,ts⟩:=e;rw[dE];rfl
theorem BA:∀(a b:List af),EW (a++b)=max (EW a) (EW b)
 |[],b=>by simp[EW]
 |x::a,b=>by rw[vaL,EW,EW,BA a b];omega
theorem Y2:∀(l:List cf),qeL l=EW (l.map (·.Body))
 |[]=>by rw[qeL,vaK,EW]
 |a::l=>by rw[qeL,vae,EW,qfD,Y2 l]
theorem JI(e:af):dE e=EW (ba e)+1:=by rw[qfE,ba,BA,Y2]
theorem Y3{n:Nat}:∀{l:List af},(∀x∈l,dE x<=n)->EW l<=n
 |[],_=>by simp[EW]
 |x::l,h=>by
  have a:=h x (by simp)
  have b:=Y3 (l:=l) λy hy=>h y (by simp[hy])
  rw[EW];omega
theorem qcQ:∀(e:af),dE e<=nE e:=by
 refine Zo λe ih=>?_
 rw[JI]
 have:EW (ba e)<=nE e - 1:=Y3 λx hx=>by have:=ih x hx;have:=ET hx;omega
 have:=JT e
 omega
theorem Ak{X Y:Type}{F:(X->Option Y)->X->Option Y}(μ:X->Nat)(Q:X->Prop)(s:X->Option Y)(h:∀(R:X->Option Y) x,Q x->(∀y,μ y<μ x->Q y->R y=s y)->F R x=s x)(x:X)(hx:Q x)(hm:μ x<Uo):oE F x=s x:=by
 have key:∀n x,μ x<n->Q x->qcX F n x=s x:=by
  intro n
  induction n with
  |zero=>intro x hx;omega
  |succ n ih=>intro x hx hq;exact h _ x hq λy hy hqy=>ih y (by omega) hqy
 exact key _ x hm hx
def Di{α S:Type}(F:S->α->Option (Bool×S)):List α->S->Option (Bool×S)
 |[],s=>some (true,s)
 |x::l,s=>(F s x).bind λr=>match r.1 with
  |false=>some (false,r.2)
  |true=>Di F l r.2
theorem GS{α S:Type}(F:S->α->Option (Bool×S)):∀(l m:List α) (s:S),Di F (l++m) s=(Di F l s).bind λr=>match r.1 with
  |false=>some (false,r.2)
  |true=>Di F m r.2
 |[],m,s=>rfl
 | x :: l,m,s => by
  rw[vaL,Di,Di]
  cases h:F s x with
  |none=>rfl
  |some r=>
   obtain⟨b,s'⟩:=r
   cases b with
   |false=>rfl
   |true=>exact GS F l m s'
theorem PK{α S:Type}{F G:S->α->Option (Bool×S)}:∀{l:List α},(∀x∈l,∀s,F s x=G s x)->∀s,Di F l s=Di G l s
 |[],_,s=>rfl
 |x::l,h,s=>by
  rw[Di,Di,h x (by simp)]
  congr 1
  funext r
  rw[PK (l:=l) λy hy=>h y (by simp[hy])]
theorem VM{α β S:Type}(F:S->β->Option (Bool×S))(g:α->β):∀(l:List α) (s:S),Di F (l.map g) s=Di (λs x=>F s (g x)) l s
 |[],s=>rfl
 |x::l,s=>by
  rw[vae,Di,Di]
  congr 1
  funext r
  rw[VM F g l]
theorem SY{α β S:Type}(F:S->β->Option (Bool×S))(g:α->List β):∀(l:List α) (s:S),Di F (l.flatMap g) s=Di (λs x=>Di F (g x) s) l s
 |[],s=>rfl
 |x::l,s=>by
  rw[vbz,GS,Di]
  congr 1
  funext r
  rw[SY F g l]
theorem VT{α S:Type}(l:List α)(hl:l.length<9223372036854775808)(body:Int×S->Option ((Int×S)⊕(S⊕S)))(F:S->α->Option (Bool×S))
  (hin:∀(i:Nat) (h:i<l.length) s,body ((i:Int),s)=(F s l[i]).bind λr=>match r.1 with|false=>some (.inr (.inl r.2))|true=>some (.inl (dU ((i:Int)+1),r.2)))
  (hend:∀s,body ((l.length:Int),s)=some (.inr (.inr s))) (s:S):loop body (0,s)=(Di F l s).bind λr=>match r.1 with|false=>some (.inl r.2)|true=>some (.inr r.2):=by
 have key:∀(k i:Nat) (s:S),i+k=l.length->loop body ((i:Int),s)=(Di F (l.drop i) s).bind λr=>match r.1 with|false=>some (.inl r.2)|true=>some (.inr r.2):=by
  intro k
  induction k with
  |zero=>
   intro i s hi
   have:i=l.length:=by omega
   subst this
   rw[jh,hend,vbN]
   rfl
  | succ k ih =>
   intro i s hi
   have hlt:i<l.length:=by omega
   rw[jh,hin i hlt,vaI hlt,Di]
   cases hF:F s l[i]with
   |none=>rfl
   | some r =>
    obtain⟨b,s'⟩:=r
    cases b with
    |false=>rfl
    |true=>
     have:=ih (i+1) s' (by omega)
     simp only[vaa]
     rw[cW (by omega) (by omega),show((i:Int)+1)=((i+1:Nat):Int) by omega]
     exact this
 have:=key l.length 0 s (by omega)
 exact this
theorem WH{S:Type}{F:(af×S->Option (Bool×S))->af×S->Option (Bool×S)}(step:S->af->Option (Bool×S))
  (hF:∀(R:af×S->Option (Bool×S)) e s,nE e<=cm->F R (e,s)=(step s e).bind λr=>match r.1 with
   |false=>some (false,r.2)
   |true=>Di (λs x=>R (x,s)) (ba e) r.2) (e:af) (s:S) (he:nE e<=cm):oE F (e,s)=Di step (cp e) s:=by
 refine Ak (λx=>nE x.1) (λx=>nE x.1<=cm) (λx=>Di step (cp x.1) x.2) (λR x hx ih=>?_) (e,s) he (iJ he)
 obtain⟨e,s⟩:=x
 show F R (e,s)=Di step (cp e) s
 rw[hF R e s hx,pd,Di]
 congr 1
 funext r
 cases r.1 with
 |false=>rfl
 |true=>
  rw[SY]
  refine PK (λx hx2 s=>?_) r.2
  have:=ET hx2
  exact ih (x,s) this (vau (vbJ this) hx)
theorem Qo{S:Type}(W:S->af->Option (Bool×S))(e:af)(he:nE e<=cm)(s:S)(b1 b2:Int×S->Option ((Int×S)⊕(S⊕S))){k1 k2:S⊕S->Option (Bool×S)}
  (h1:∀(i:Nat) (h:i<e.Kids.length) s,b1 ((i:Int),s)=(W s e.Kids[i]).bind λr=>if(!r.1)=true then some (.inr (.inl r.2))else some (.inl (dU ((i:Int)+1),r.2))) (h1e:∀s,b1 ((e.Kids.length:Int),s)=some (.inr (.inr s)))
  (h2:∀(i:Nat) (h:i<e.Alts.length) s,b2 ((i:Int),s)=(W s e.Alts[i].Body).bind λr=>if(!r.1)=true then some (.inr (.inl r.2))else some (.inl (dU ((i:Int)+1),r.2))) (h2e:∀s,b2 ((e.Alts.length:Int),s)=some (.inr (.inr s)))
  (g1:∀o,k1 (.inl o)=some (false,o)) (g2:∀o,k1 (.inr o)=(loop b2 (0,o)).bind k2) (g3:∀o,k2 (.inl o)=some (false,o)) (g4:∀o,k2 (.inr o)=some (true,o)):
  (loop b1 (0,s)).bind k1=Di W (ba e) s:=by
 have l1:=An e
 have l2:=mw e
 unfold cm at he
 rw[VT e.Kids (by omega) b1 W (λi h s=>by rw[h1 i h s];congr 1;funext r;cases r.1<;>rfl) h1e s,ba,GS]
 cases h:Di W e.Kids s with
 |none=>rfl
 | some r =>
  obtain⟨b,s'⟩:=r
  cases b with
  |false=>exact g1 s'
  | true =>
   simp only[vaa]
   rw[g2,VT e.Alts (by omega) b2 (λs a=>W s a.Body) (λi h s=>by rw[h2 i h s];congr 1;funext r;cases r.1<;>rfl) h2e s',VM]
   cases h:Di (λs a=>W s a.Body) e.Alts s' with
   |none=>rfl
   |some r=>
    obtain⟨b,s''⟩:=r
    cases b with
    |false=>exact g3 s''
    |true=>exact g4 s''
def qf8(p:aa):Prop:=(1<=p.Op/\p.Op<=18)/\yS p.Op (p.Kids.length:Int)=true/\(p.Op=1->qd4 p.N)
mutual
def ZR:aa->Prop
 |⟨o,n,k,ks⟩=>qf8 ⟨o,n,k,ks⟩/\qc4 ks
def qc4:List aa->Prop
 |[]=>True
 |p::ps=>ZR p/\qc4 ps
end
theorem E8(p:aa):ZR p↔qf8 p/\qc4 p.Kids:=by obtain⟨o,n,k,ks⟩:=p;rw[ZR];exact Iff.rfl
theorem Rt:∀(l:List aa),qc4 l↔∀p∈l,ZR p
 |[]=>by simp[qc4]
 |p::l=>by rw[qc4,Rt l];simp
theorem Xw(p:aa):gu (lF p) (λr=>(r !=0)=false->qf8 p):=by
 unfold lF
 rw[qjm]
 simp only[vaa]
 rw[qjn]
 simp only[vaa]
 refine aD (λ_=>am (λh=>by cases h)) λhs=>?_
 have h1:(1<=p.Op/\p.Op<=18)/\yS p.Op (p.Kids.length:Int)=true:=by
  simp only[Hj,vaY,var,vc7,vc6,vb9,vc0]at hs
  exact⟨by omega,hs.2.2⟩
 have h3:gu (lG p) (λo=>o=false->p.Op=1->qd4 p.N):=by
  unfold lG
  refine aD (λ_=>?_) λh=>?_
  ·unfold Dm
   refine qaS (aD (λha=>am ?_) λ_=>am ?_)
   ·refine aD (λ_=>am λh=>by cases h) λhb=>?_
    have hz:qd4 p.N:=⟨by simpa using ha,by simpa using hb⟩
    repeat' first|exact am (λ_ _=>hz)|refine aD (λ_=>?_) (λ_=>?_)
   ·exact aD (λ_=>am λh=>by cases h) (λh=>absurd rfl h)
  ·repeat' first|exact am (λ_ e=>absurd (by simp[e]) h)|refine aD (λ_=>?_) (λ_=>?_)
 refine aA h3 λo ho=>aD (λ_=>am (λh=>by cases h)) λhno=>aA (GN p) λ_ _=>aD (λ_=>am (λh=>by cases h)) λ_=>aA (R:=λ_=>True) ?_ λ_ _=>?_
 ·unfold yx
  refine aD (λh=>?_) λ_=>am vzz
  have h8:p.Op=8:=by simpa using h
  have hk:=h1.2
  unfold yS at hk
  rw[h8]at hk
  refine dJ (aM p.Kids 0 ?_) (am vzz)
  simp at hk
  omega
 ·exact aD (λ_=>am (λh=>by cases h)) λ_=>am λ_=>⟨h1.1,h1.2,ho (by simpa using hno)⟩
theorem Xd(p:aa)(hp:nP p<=cm):gu (HK p) (λr=>(r !=0)=false->ZR p):=by
 refine tN (F:=Bo) nP (λx=>nP x<=cm) (λx r=>(r !=0)=false->ZR x) (λR x hx ih=>?_) p hp (iJ hp)
 show gu (oA (λt=>R t) x) _
 unfold oA sQ
 have h1:=wX x
 refine aA (Xw x) λr hr=>aD (λh=>am (λh'=>by rw[h]at h';cases h')) λh=>aA (jT x.Kids (by unfold cm at hx;omega) _ ZR (λr=>(r !=0)=true) (λi=>rfl) (λy hy i=>aA (ih _ (pV hy) (by have:=pV hy;omega)) λr hr=>aD (λh=>am h) λh=>am ⟨rfl,hr (by simpa using h)⟩)) λo ho=>?_
 cases o with
 |inl r=>
  have ho:(r !=0)=true:=ho
  exact am λh'=>by rw[ho]at h';cases h'
 |inr _=>exact am λ_=>(E8 x).2 ⟨hr (by simpa using h),(Rt _).2 ho⟩
theorem Mv(p:aa)(hp:nP p<=cm):gu (ri p) (λr=>(r !=0)=false->ZR p):=by
 unfold ri
 exact dJ (IH p hp) (aD (λ_=>am (λh=>by cases h)) λ_=>dJ (M0 p hp) (aD (λ_=>am (λh=>by cases h)) λ_=>aA (Xd p hp) λ_ h=>am h))
def HB(o:Int):Int:=if o=18 then 1 else if o=17 then 2 else if o=16 then 3 else if o=15 then 4 else if o=14 then 5 else if o=10\/o=11\/o=12\/o=13 then 6 else if o=6\/o=7 then 7 else if o=8 then 8 else if o=9 then 9 else 10
def qcw(o:Int):ah:=if o=18 then tP else if o=17 then EI else if o=16 then Bf else if o=15 then Bd else if o=10 then Uc else if o=11 then gT else if o=12 then Qs else if o=13 then Be else if o=6 then Qr else if o=7 then pj else Qq
abbrev Uh(t:ah):ah:=cd++(t++bA)
def wW(least:Int)(x:Int×ah):ah:=if x.1<least then Uh x.2 else x.2
def wV(least:Int)(l:List (Int×ah))(i:Nat):ah:=((l[i]?).map (wW least)).getD []
def LH(n:Int):ah:=if n<0 then Uh (Lib.itoa n)else Lib.itoa n
def LD(l:List ah):ah:=Uh (Lib.join l ax)
def qT(o:Int):Int×Int:=if o=17 then(3,2)else if HB o=6 then(7,7)else(HB o,HB o+1)
mutual
def tT:aa->ah
 |⟨o,n,k,ks⟩=>if o=1 then LH k else if o=2 then(if k=1 then eC else eR)else if o=3 then n else if o=4 then n++LD ((qcI ks).map (·.2))else if o=5 then Lh++(n++LD ((qcI ks).map (·.2)))
  else if o=14 then rh++wV 5 (qcI ks) 0 else if o=9 then pj++wV 9 (qcI ks) 0 else wV (qT o).1 (qcI ks) 0++(ce++(qcw o++(ce++wV (qT o).2 (qcI ks) 1)))
def qcI:List aa->List (Int×ah)
 |[]=>[]
 |p::l=>(HB p.Op,tT p)::qcI l
end
abbrev Fr(p:aa):Int×ah:=(HB p.Op,tT p)
theorem WE:∀(l:List aa),qcI l=l.map Fr
 |[]=>rfl
 |p::l=>by rw[qcI,WE l];rfl
theorem Ou(p:aa):tT p=if p.Op=1 then LH p.N else if p.Op=2 then(if p.N=1 then eC else eR)else if p.Op=3 then p.Name else if p.Op=4 then p.Name++LD (p.Kids.map tT)else if p.Op=5 then Lh++(p.Name++LD (p.Kids.map tT))
  else if p.Op=14 then rh++wV 5 (p.Kids.map Fr) 0 else if p.Op=9 then pj++wV 9 (p.Kids.map Fr) 0 else wV (qT p.Op).1 (p.Kids.map Fr) 0++(ce++(qcw p.Op++(ce++wV (qT p.Op).2 (p.Kids.map Fr) 1))):=by
 obtain⟨o,n,k,ks⟩:=p
 rw[tT,WE,vby]
 rfl
theorem Nl(l:Int)(x:Int×ah):(wW l x).length<=x.2.length+2:=by
 unfold wW
 split
 ·simp[Uh,cd,bA]
 ·omega
theorem S9(l:List ah):(Lib.join l ax).length<=(l.map λs=>s.length+2).sum:=by
 cases l with
 |nil=>simp[Lib.join_nil]
 | cons x r =>
  rw[Lib.join_cons,vas,Lib.joinTail_length]
  have:∀r:List ah,(r.map λs=>s.length+2).sum=2 * r.length+Lib.lens r:=by
   intro r
   induction r with
   |nil=>rfl
   |cons y r ih=>
    rw[vae,List.sum_cons,ih]
    show _=_+(y.length+Lib.lens r)
    simp only[vaM]
    omega
  have h:=this r
  simp only[vae,List.sum_cons,show ax.length=2 from rfl]
  omega
theorem qcx(o:Int):(qcw o).length<=3:=by
 unfold qcw
 repeat' first|decide|split
theorem S6(n:Int)(h:qd4 n):(LH n).length<=23:=by
 unfold LH
 have:=qcY h
 split
 ·simp[Uh,cd,bA];omega
 ·omega
theorem TA(a b:Int)(l:List (Int×ah)):(wV a l 0).length+(wV b l 1).length<=(l.map λx=>x.2.length+2).sum:=by
 unfold wV
 rcases l with _|⟨x,_|⟨y,r⟩⟩
 ·simp
 ·have:=Nl a x
  simp
  omega
 ·have:=Nl a x
  have:=Nl b y
  simp only[List.getElem?_cons_zero,List.getElem?_cons_succ,vaj,Option.getD_some,vae,List.sum_cons]
  omega
theorem V5(a:Int)(l:List (Int×ah)):(wV a l 0).length<=(l.map λx=>x.2.length+2).sum:=by have:=TA a 0 l;omega
mutual
theorem Sg:∀(p:aa),ZR p->(tT p).length+8<=40 * ff (ac p)
 | ⟨o,n,k,ks⟩,h => by
  have hk:=Sf ks ((E8 _).1 h).2
  have hs:=((E8 _).1 h).1
  have hm:ff (ac ⟨o,n,k,ks⟩)=1+(n.length+1+(1+(d8 (ks.map ac)+1+0))):=Eh ⟨o,n,k,ks⟩
  have e:tT ⟨o,n,k,ks⟩=if o=1 then LH k else if o=2 then(if k=1 then eC else eR)else if o=3 then n else if o=4 then n++LD (ks.map tT)else if o=5 then Lh++(n++LD (ks.map tT))
    else if o=14 then rh++wV 5 (ks.map Fr) 0 else if o=9 then pj++wV 9 (ks.map Fr) 0 else wV (qT o).1 (ks.map Fr) 0++(ce++(qcw o++(ce++wV (qT o).2 (ks.map Fr) 1))):=Ou ⟨o,n,k,ks⟩
  rw[e]
  have hj:=S9 (ks.map tT)
  rw[vby]at hj
  have h2:=TA (qT o).1 (qT o).2 (ks.map Fr)
  have h3:=V5 5 (ks.map Fr)
  have h4:=V5 9 (ks.map Fr)
  rw[vby]at h2 h3 h4
  have e1:((λx:Int×ah=>x.2.length+2)∘Fr)=λp=>(tT p).length+2:=rfl
  have e2:((λs:ah=>s.length+2)∘tT)=λp=>(tT p).length+2:=rfl
  rw[e1]at h2 h3 h4
  rw[e2]at hj
  have hk:(ks.map λp=>(tT p).length+2).sum<=40 * d8 (ks.map ac):=hk
  have hg:=qcx o
  split
  ·rename_i h1
   have:=S6 k (hs.2.2 h1)
   omega
  split
  ·split<;>simp only[eC,eR,vaM,List.length_nil]<;>omega
  split
  ·omega
  split
  ·simp only[LD,Uh,vas,show cd.length=1 from rfl,show bA.length=1 from rfl];omega
  split
  ·simp only[LD,Uh,vas,show cd.length=1 from rfl,show bA.length=1 from rfl,show Lh.length=1 from rfl];omega
  split
  ·simp only[vas,show rh.length=1 from rfl];omega
  split
  ·simp only[vas,show pj.length=1 from rfl];omega
  ·simp only[vas,show ce.length=1 from rfl];omega
theorem Sf:∀(l:List aa),qc4 l->(l.map (λp=>(tT p).length+2)).sum<=40 * d8 (l.map ac)
 |[],_=>by simp
 |p::l,h=>by
  rw[qc4]at h
  have h1:=Sg p h.1
  have h2:=Sf l h.2
  simp only[vae,List.sum_cons,d8]
  omega
end
theorem S7{l:List ah}{s:ah}(h1:l.length<=1073741824)(h2:(Lib.join l s).length<=1073741824):PO l s=some (Lib.join l s):=by
 unfold PO
 rw[vad ⟨h1,h2⟩]
theorem PP:∀(l:List ah),Lib.join l []=l.flatten
 |[]=>rfl
 |x::r=>by
  rw[Lib.join_cons]
  unfold Lib.joinTail
  simp
theorem oX{l:List ah}(h1:l.length<=1073741824)(h2:l.flatten.length<=1073741824):dz l=some l.flatten:=by
 unfold dz
 rw[S7 h1 (by rw[PP];exact h2),PP]
 rfl
def YO(o:Int):Bool:=o==6||o==7||o==8||o==10||o==11||o==12||o==13||o==15||o==16||o==17||o==18
theorem Ze(o:Int)(h:1<=o/\o<=18):qd o=some (if YO o=true then⟨HB o,(qT o).1,(qT o).2,qcw o⟩else⟨0,0,0,[]⟩,YO o):=by
 have:o=1\/o=2\/o=3\/o=4\/o=5\/o=6\/o=7\/o=8\/o=9\/o=10\/o=11\/o=12\/o=13\/o=14\/o=15\/o=16\/o=17\/o=18:=by omega
 rcases this with rfl|rfl|rfl|rfl|rfl|rfl|rfl|rfl|rfl|rfl|rfl|rfl|rfl|rfl|rfl|rfl|rfl|rfl<;>rfl
theorem Zx(p:aa)(h:1<=p.Op/\p.Op<=18):xk p=some (HB p.Op):=by
 obtain⟨o,n,k,ks⟩:=p
 have:o=1\/o=2\/o=3\/o=4\/o=5\/o=6\/o=7\/o=8\/o=9\/o=10\/o=11\/o=12\/o=13\/o=14\/o=15\/o=16\/o=17\/o=18:=by have h:1<=o/\o<=18:=h;omega
 rcases this with rfl|rfl|rfl|rfl|rfl|rfl|rfl|rfl|rfl|rfl|rfl|rfl|rfl|rfl|rfl|rfl|rfl|rfl<;>rfl
theorem Ir(o:Int):1<=HB o:=by
 unfold HB
 repeat' first|omega|split
theorem qbS(p:aa):wW 1 (Fr p)=tT p:=by
 unfold wW
 rw[vab (by have:=Ir p.Op;simp only[Fr];omega)]
abbrev qdn(p:aa):Prop:=ZR p/\ff (ac p)<=16777216
theorem qcz{p x:aa}(h:qdn p)(hx:x∈p.Kids):qdn x:=by
 refine⟨(Rt _).1 ((E8 p).1 h.1).2 x hx,?_⟩
 have h1:=Eh p
 have h2:=AA (vaq.2 ⟨x,hx,rfl⟩:ac x∈p.Kids.map ac)
 have:=h.2
 omega
theorem qcA{p:aa}(h:qdn p):(tT p).length<=671088640:=by
 have:=Sg p h.1
 have:=h.2
 omega
theorem Mt{p:aa}(h:qdn p):(Lib.join (p.Kids.map tT) ax).length<=671088640/\p.Kids.length<=16777216:=by
 have h1:=S9 (p.Kids.map tT)
 rw[vby]at h1
 have h2:(p.Kids.map λp=>(tT p).length+2).sum<=_:=Sf p.Kids ((E8 p).1 h.1).2
 have h1:(Lib.join (p.Kids.map tT) ax).length<=(p.Kids.map λp=>(tT p).length+2).sum:=h1
 have h3:=Eh p
 have h4:=h.2
 have h5:=qc0 p.Kids
 omega
theorem qd6{p:aa}(h:qf8 p)(hb:YO p.Op=true):∃a b,p.Kids=[a,b]:=by
 have hk:=h.2.1
 have:p.Op=6\/p.Op=7\/p.Op=8\/p.Op=10\/p.Op=11\/p.Op=12\/p.Op=13\/p.Op=15\/p.Op=16\/p.Op=17\/p.Op=18:=by simpa[YO,or_assoc]using hb
 unfold yS at hk
 rw[vab (by omega),vab (by omega),vab (by omega)]at hk
 have hl:p.Kids.length=2:=by
  have:(p.Kids.length:Int)=2:=by simpa using hk
  omega
 match h:p.Kids,hl with
 |[a,b],_=>exact⟨a,b,rfl⟩
theorem Zs{p:aa}(h:qf8 p)(hb:p.Op=9\/p.Op=14):∃a,p.Kids=[a]:=by
 have hk:=h.2.1
 unfold yS at hk
 rw[vab (by omega),vab (by omega),vad hb]at hk
 have hl:p.Kids.length=1:=by
  have:(p.Kids.length:Int)=1:=by simpa using hk
  omega
 match h:p.Kids,hl with
 |[a],_=>exact⟨a,rfl⟩
theorem qbW{o:Int}(h:1<=o/\o<=18)(hb:YO o=false):o=1\/o=2\/o=3\/o=4\/o=5\/o=14\/o=9:=by
 have:¬(o=6\/o=7\/o=8\/o=10\/o=11\/o=12\/o=13\/o=15\/o=16\/o=17\/o=18):=λh=>by
  have:YO o=true:=by simpa[YO,or_assoc]using h
  rw[this]at hb
  cases hb
 omega
theorem qbn{o:Int}(hb:YO o=true):o≠1/\o≠2/\o≠3/\o≠4/\o≠5/\o≠14/\o≠9:=by
 have:o=6\/o=7\/o=8\/o=10\/o=11\/o=12\/o=13\/o=15\/o=16\/o=17\/o=18:=by simpa[YO,or_assoc]using hb
 omega
theorem qcJ{p a b:aa}(hb:YO p.Op=true)(hk:p.Kids=[a,b]):tT p=wW (qT p.Op).1 (Fr a)++(ce++(qcw p.Op++(ce++wW (qT p.Op).2 (Fr b)))):=by
 obtain⟨h1,h2,h3,h4,h5,h6,h7⟩:=qbn hb
 rw[Ou,vab h1,vab h2,vab h3,vab h4,vab h5,vab h6,vab h7,hk]
 rfl
theorem TF(R:aa->Int->Option ah)(l:List aa)(hl:l.length<=16777216)(hR:∀x∈l,R x 1=some (tT x))(hj:(Lib.join (l.map tT) ax).length<=671088640):kq R l=some (LD (l.map tT)):=by
 unfold kq
 have hL:kc R l (l.length:Int) ([]:List ah) 0=some (l.map tT):=by
  unfold kc
  have key:=dM l.length (λzz:List ah×Int=>fI R l (l.length:Int) zz.1 zz.2) (λi=>((l.take i).map tT,(i:Int))) (l.map tT) (λi hi=>?_) ?_
  ·rw[<-key];simp
  ·simp only[fI]
   rw[vad (by simp;omega),aM _ _ hi]
   simp only[vaa]
   rw[hR _ (vah hi)]
   simp only[vaa]
   rw[pK (by simp;omega)]
   simp only[vaa]
   rw[cW (by omega) (by omega),vay hi,vaB]
   rfl
  ·simp only[fI]
   rw[vab (by simp)]
   simp
 rw[hL]
 simp only[vaa]
 rw[S7 (by simp;omega) (by omega)]
 simp only[vaa]
 rw[oX (by simp) (by simp[cd,bA];omega)]
 simp[LD,Uh]
theorem ZZ(p:aa)(l:Int)(h:qdn p):um p l=some (wW l (Fr p)):=by
 have hm:∀p:aa,qdn p->nP p<=16777216:=λp h=>vau (K3 p) h.2
 refine Ak (F:=qc) (λx=>2 * nP x.1+if HB x.1.Op<x.2 then 1 else 0) (λx=>qdn x.1) (λx=>some (wW x.2 (Fr x.1))) (λR x hx ih=>?_) (p,l) h (by
  have:=hm p h
  unfold Uo
  simp only[]
  split<;>omega)
 obtain⟨p,l⟩:=x
 show lj (λp least=>R (p,least)) p l=some (wW l (Fr p))
 have hx:qdn p:=hx
 have hs:=((E8 p).1 hx.1).1
 have hlen:=qcA hx
 have hR:∀x∈p.Kids,∀l,R (x,l)=some (wW l (Fr x)):=λx hx' l=>ih (x,l) (by
  have:=pV hx'
  simp only[]
  split<;>split<;>omega) (qcz hx hx')
 unfold lj
 rw[Zx p hs.1]
 simp only[vaa]
 by_cases hlv:HB p.Op<l
 ·rw[vad (by simpa using hlv)]
  have h1:=ih (p,1) (by
   have:=Ir p.Op
   simp only[]
   rw[vab (by omega),vad hlv]
   omega) hx
  have h1:R (p,1)=some (wW 1 (Fr p)):=h1
  rw[h1,qbS]
  simp only[vaa]
  rw[oX (by simp) (by simp[cd,bA];omega)]
  simp[wW,hlv,Uh]
 rw[vab (by simpa using hlv),Ze _ hs.1]
 simp only[vaa]
 have hkt:wW l (Fr p)=tT p:=by unfold wW;rw[vab hlv]
 rw[hkt]
 cases hb:YO p.Op with
 |true=>
  obtain⟨a,b,hk⟩:=qd6 hs hb
  have ht:=qcJ hb hk
  rw[vad rfl,vad rfl,hk,ep]
  simp only[vaa]
  have h2:=aM [a,b] 1 (by simp)
  rw[show((1:Nat):Int)=1 from rfl]at h2
  rw[hR a (by rw[hk];simp),h2]
  simp only[vaa,List.getElem_cons_succ,List.getElem_cons_zero]
  rw[hR b (by rw[hk];simp)]
  simp only[vaa]
  rw[ht]at hlen
  rw[oX (by simp) (by simp only[List.flatten_cons,List.flatten_nil,vaC];exact vau hlen (by omega)),ht]
  simp
 | false =>
  rw[vab (by simp)]
  rw[Ou]at hlen ⊢
  rcases qbW hs.1 hb with h1|h1|h1|h1|h1|h1|h1
  ·rw[vad (by simp[h1]),vad h1]
   have hz:=hs.2.2 h1
   have:=qcY hz
   unfold LH
   by_cases hn:p.N<0
   ·rw[vad (by simpa using hn),vad hn,E3 hz]
    simp only[vaa]
    rw[oX (by simp) (by simp[cd,bA];omega)]
    simp[Uh]
   ·rw[vab (by simpa using hn),vab hn,E3 hz]
    rfl
  ·rw[vab (by simp[h1]),vad (by simp[h1]),vab (by omega),vad h1]
   by_cases hn:p.N=1
   ·rw[vad hn]
    unfold fq ez
    rw[vad (by simpa using hn)]
    rfl
   ·rw[vab hn]
    unfold fq ez
    rw[vab (by simpa using hn)]
    rfl
  ·rw[vab (by simp[h1]),vab (by simp[h1]),vad (by simp[h1]),vab (by omega),vab (by omega),vad h1]
  ·rw[vab (by simp[h1]),vab (by simp[h1]),vab (by simp[h1]),vad (by simp[h1]),vab (by omega),vab (by omega),vab (by omega),vad h1]
   rw[vab (by omega),vab (by omega),vab (by omega),vad h1]at hlen
   rw[TF _ _ (Mt hx).2 (λx hx'=>by rw[hR x hx' 1,qbS]) (Mt hx).1]
   simp only[vaa]
   rw[oX (by simp) (by simpa using(vau hlen (by omega):_<=1073741824))]
   simp
  ·rw[vab (by simp[h1]),vab (by simp[h1]),vab (by simp[h1]),vab (by simp[h1]),vad (by simp[h1]),vab (by omega),vab (by omega),vab (by omega),vab (by omega),vad h1]
   rw[vab (by omega),vab (by omega),vab (by omega),vab (by omega),vad h1]at hlen
   rw[TF _ _ (Mt hx).2 (λx hx'=>by rw[hR x hx' 1,qbS]) (Mt hx).1]
   simp only[vaa]
   rw[oX (by simp) (by simpa using(vau hlen (by omega):_<=1073741824))]
   simp
  ·rw[vab (by simp[h1]),vab (by simp[h1]),vab (by simp[h1]),vab (by simp[h1]),vab (by simp[h1]),vad (by simp[h1]),vab (by omega),vab (by omega),vab (by omega),vab (by omega),vab (by omega),vad h1]
   rw[vab (by omega),vab (by omega),vab (by omega),vab (by omega),vab (by omega),vad h1]at hlen
   obtain⟨a,hk⟩:=Zs hs (.inr h1)
   rw[hk]at hlen ⊢
   rw[ep]
   simp only[vaa]
   rw[hR a (by rw[hk];simp)]
   simp only[vaa]
   rw[oX (by simp) (by simpa[wV]using(vau hlen (by omega):_<=1073741824))]
   simp[wV]
  ·rw[vab (by simp[h1]),vab (by simp[h1]),vab (by simp[h1]),vab (by simp[h1]),vab (by simp[h1]),vab (by simp[h1]),vab (by omega),vab (by omega),vab (by omega),vab (by omega),vab (by omega),vab (by omega),vad h1]
   rw[vab (by omega),vab (by omega),vab (by omega),vab (by omega),vab (by omega),vab (by omega),vad h1]at hlen
   obtain⟨a,hk⟩:=Zs hs (.inl h1)
   rw[hk]at hlen ⊢
   rw[ep]
   simp only[vaa]
   rw[hR a (by rw[hk];simp)]
   simp only[vaa]
   rw[oX (by simp) (by simpa[wV]using(vau hlen (by omega):_<=1073741824))]
   simp[wV]
def Lz(p:aa):Int:=(ri p).getD 0
theorem Vt(p:aa)(h:ff (ac p)<=16777216):ri p=some (Lz p)/\rB p=some (Lz p)/\(Lz p=0->ZR p):=by
 have hb:nP p<=cm:=vau (K3 p) (vau h (by unfold cm;omega))
 obtain⟨r,e,hr⟩:=Mv p hb
 have:Lz p=r:=by unfold Lz;rw[e];rfl
 exact⟨by rw[e,this],by rw[XI p hb,e,this],λh0=>hr (by rw[<-this,h0];rfl)⟩
def ED(p:aa):ah×Int:=if Lz p=0 then(tT p,0)else([],Lz p)
theorem qfQ(p:aa)(h:ff (ac p)<=16777216):sC p=some (ED p):=by
 obtain⟨h1,h2,h3⟩:=Vt p h
 unfold sC ED
 rw[h2]
 simp only[vaa]
 by_cases h0:Lz p=0
 ·rw[vab (by simp[h0]),vad h0,ZZ p 1 ⟨h3 h0,h⟩,qbS]
  rfl
 ·rw[vad (by simpa using h0),vab h0]
theorem Ql(p:aa)(h:ff (ac p)<=16777216):(ED p).1.length<=40 * ff (ac p):=by
 unfold ED
 split
 ·rename_i h0
  have:=Sg p ((Vt p h).2.2 h0)
  simp only[]
  omega
 ·simp
abbrev Wr:=ah×Bool
def aJ(ws:List Wr):Wr:=((ws.map (·.1)).flatten,ws.any (·.2))
abbrev tW(s:ah):Wr:=(s,false)
theorem bT(w:Wr)(ws:List Wr):aJ (w::ws)=(w.1++(aJ ws).1,w.2||(aJ ws).2):=rfl
theorem ck(a b:List Wr):aJ (a++b)=((aJ a).1++(aJ b).1,(aJ a).2||(aJ b).2):=by unfold aJ;simp
structure qaY{ε:Type}(enc:ah->List ε):Prop where
 len:∀s,(enc s).length=s.length
 app:∀s t,enc (s++t)=enc s++enc t
def eD(s:ah):List Int:=s.map λc=>(c.toNat:Int)
theorem ay:qaY eD:=⟨λs=>by simp[eD],λs t=>by simp[eD]⟩
section
variable{ε β γ:Type}{enc:ah->List ε}
def RS(enc:ah->List ε)(mk:List ε->Bool->β)(k:List ε)(b:Bool)(ws:List Wr)(o:Option β):Prop:=
 k.length+(aJ ws).1.length<=1073741824->∃k' b',o=some (mk k' b')/\b'=(b||(aJ ws).2)/\(b'=false->k'=k++enc (aJ ws).1)/\k'.length<=k.length+(aJ ws).1.length
def RK(enc:ah->List ε)(k:List ε)(t:ah)(o:Option (List ε)):Prop:=k.length+t.length<=1073741824->o=some (k++enc t)
variable{mk:List ε->Bool->β}{mk':List ε->Bool->γ}{k:List ε}{b:Bool}{ws:List Wr}{w:Wr}
theorem RS.cast{ws':List Wr}{o:Option β}(h:RS enc mk k b ws o)(e:aJ ws=aJ ws'):RS enc mk k b ws' o:=by
 unfold RS at *
 rw[<-e]
 exact h
theorem RS.one{o:Option β}(h:RS enc mk k b ws o):RS enc mk k b [aJ ws] o:=h.cast (by simp[aJ])
theorem RS.of1'{o:Option β}{ws1:List Wr}(h:RS enc mk k b ws1 o):RS enc mk k b ([aJ ws1]++[]) o:=h.cast (by simp[aJ])
theorem bI(hE:qaY enc){o:Option β}{f:β->Option γ}(h:RS enc mk k b [w] o)(h':∀k' b',RS enc mk' k' b' ws (f (mk k' b'))):RS enc mk' k b (w::ws) (o.bind f):=by
 intro hl
 rw[bT]at hl ⊢
 simp only[vas]at hl
 have e1:aJ [w]=w:=by simp[aJ]
 unfold RS at h
 rw[e1]at h
 obtain⟨k1,b1,rfl,q1,q2,q3⟩:=h (by omega)
 obtain⟨k2,b2,r0,r1,r2,r3⟩:=h' k1 b1 (by omega)
 refine⟨k2,b2,r0,by rw[r1,q1,vcd],λhb=>?_,by simp only[vas];omega⟩
 have h2:=r2 hb
 rw[r1]at hb
 have hb1:b1=false:=by cases b1<;>simp_all
 rw[h2,q2 hb1,hE.app,vag]
theorem eh(hE:qaY enc){ws1:List Wr}{o:Option β}{f:β->Option γ}(h:RS enc mk k b ws1 o)(h':∀k' b',RS enc mk' k' b' ws (f (mk k' b'))):RS enc mk' k b (ws1++ws) (o.bind f):=
 (bI hE h.one h').cast (by rw[ck,bT])
theorem bS(hE:qaY enc){o:Option (List ε)}{f:List ε->Option γ}{t:ah}(h:RK enc k t o)(h':∀k',RS enc mk' k' b ws (f k')):RS enc mk' k b (tW t::ws) (o.bind f):=by
 intro hl
 rw[bT]at hl ⊢
 simp only[vas]at hl
 rw[h (by omega)]
 obtain⟨k2,b2,r0,r1,r2,r3⟩:=h' (k++enc t) (by simp only[vas,hE.len];omega)
 refine⟨k2,b2,r0,by rw[r1];simp,λhb=>?_,?_⟩
 ·rw[r2 hb]
  simp only[hE.app,vag]
 ·simp only[vas,hE.len]at r3 ⊢
  omega
theorem dw{α:Type}{o:Option α}{a:α}{f:α->Option γ}(e:o=some a)(h:RS enc mk' k b ws (f a)):RS enc mk' k b ws (o.bind f):=by rw[e];exact h
theorem bm(hE:qaY enc):RS enc mk k b [] (some (mk k b)):=λ_=>⟨k,b,rfl,by simp[aJ],λ_=>by
 have:=hE.len []
 have:enc []=[]:=vam this
 simp[aJ,this],by simp[aJ]⟩
theorem R0(h:(aJ ws).2=true):RS enc mk k b ws (some (mk k true)):=λ_=>⟨k,true,rfl,by rw[h];simp,(λh=>by cases h),by omega⟩
theorem qcs{x:Bool}{o:Option β}(h:RS enc mk k (b||x) ws o):RS enc mk k b (([],x)::ws) o:=by
 intro hl
 rw[bT]at hl ⊢
 obtain⟨k2,b2,r0,r1,r2,r3⟩:=h hl
 exact⟨k2,b2,r0,by rw[r1,vcd],r2,r3⟩
theorem fi{c:Bool}{x y:Option β}(h:c=true->RS enc mk k b ws x)(h':c=false->RS enc mk k b ws y):RS enc mk k b ws (if c=true then x else y):=by
 cases c with
 |false=>exact h' rfl
 |true=>exact h rfl
theorem qer(hE:qaY enc):RK enc k [] (some k):=λ_=>by
 have:=hE.len []
 have:enc []=[]:=vam this
 rw[this,vaC]
theorem qdk{t:ah}{o:Option (List ε)}(h:RK enc k t o):RK enc k t (o.bind λr=>some r):=λhl=>by rw[h hl];rfl
theorem Xt{i n:Nat}(h:i<n):decide ((i:Int)<(n:Int))=true:=by simp;omega
theorem Xs(n:Nat):¬decide ((n:Int)<(n:Int))=true:=by simp
def eU(s:ah):List Wr->List Wr
 |[]=>[]
 |w::ws=>w::ws.flatMap λx=>[tW s,x]
theorem Og(s:ah):∀(l:List Wr),(aJ (eU s l)).1.length<=(l.map λw=>w.1.length+s.length).sum
 |[]=>by simp[eU,aJ]
 | w :: ws => by
  have h:∀l:List Wr,(aJ (l.flatMap λx=>[tW s,x])).1.length=(l.map λw=>w.1.length+s.length).sum:=by
   intro l
   induction l with
   |nil=>rfl
   |cons x l ih=>
    rw[vbz,ck]
    simp only[vas,ih,vae,List.sum_cons,bT]
    simp[aJ]
    omega
  rw[eU,bT,vas,h]
  simp
theorem Wz(hE:qaY enc){α:Type}(l:List α)(hn:l.length<9223372036854775808)(g:Nat->α->List Wr){body:Int×List ε×Bool->Option ((Int×List ε×Bool)⊕(List ε×Bool))}
  (hin:∀(i:Nat) (hi:i<l.length) k b,RS enc (λk b=>.inl (dU ((i:Int)+1),k,b)) k b (g i l[i]) (body ((i:Int),k,b))) (hend:∀k b,body ((l.length:Int),k,b)=some (.inr (k,b))):
  RS enc Prod.mk k b ((l.zipIdx.map λx=>g x.2 x.1).flatten) (loop body (0,k,b)):=by
 have key:∀m i k b,m+i=l.length->RS enc Prod.mk k b (((l.drop i).zipIdx i|>.map λx=>g x.2 x.1).flatten) (loop body ((i:Int),k,b)):=by
  intro m
  induction m with
  |zero=>
   intro i k b hi
   have:i=l.length:=by omega
   subst this
   rw[ik (hend k b),vbN]
   exact bm (mk:=Prod.mk) hE
  |succ m ih=>
   intro i k b hi
   have hi':i<l.length:=by omega
   rw[vaI hi',List.zipIdx_cons,vae,List.flatten_cons]
   intro hl
   rw[ck]at hl ⊢
   simp only[vas]at hl
   obtain⟨k1,b1,r0,r1,r2,r3⟩:=hin i hi' k b (by omega)
   rw[wn r0,cW (by omega) (by omega),show((i:Int)+1)=((i+1:Nat):Int) by omega]
   obtain⟨k2,b2,q0,q1,q2,q3⟩:=ih (i+1) k1 b1 (by omega) (by omega)
   refine⟨k2,b2,q0,by rw[q1,r1,vcd],λhb=>?_,by simp only[vas];omega⟩
   have h2:=q2 hb
   rw[q1]at hb
   have hb1:b1=false:=by cases b1<;>simp_all
   rw[h2,r2 hb1,hE.app,vag]
 have:=key l.length 0 k b (by omega)
 simpa using this
theorem qcu{α:Type}(s:ah)(f:α->Wr):∀(l:List α),((l.zipIdx.map λx=>(if x.2=0 then[]else[tW s])++[f x.1]).flatten)=eU s (l.map f)
 |[]=>rfl
 | x :: l => by
  have h:∀(l:List α) (i:Nat),0<i->((l.zipIdx i).map λx=>(if x.2=0 then[]else[tW s])++[f x.1]).flatten=(l.map f).flatMap λx=>[tW s,x]:=by
   intro l
   induction l with
   |nil=>intro i _;rfl
   |cons y l ih=>
    intro i hi
    rw[List.zipIdx_cons,vae,List.flatten_cons,ih (i+1) (by omega),vab (by simp only[];omega)]
    rfl
  rw[List.zipIdx_cons,vae,List.flatten_cons,h l (0+1) (by omega)]
  rfl
theorem Hf(hE:qaY enc){α:Type}(l:List α)(hn:l.length<9223372036854775808)(s:ah)(f:α->Wr){body:Int×List ε×Bool->Option ((Int×List ε×Bool)⊕(List ε×Bool))}
  (hin:∀(i:Nat) (hi:i<l.length) k b,RS enc (λk b=>.inl (dU ((i:Int)+1),k,b)) k b ((if i=0 then[]else[tW s])++[f l[i]]) (body ((i:Int),k,b))) (hend:∀k b,body ((l.length:Int),k,b)=some (.inr (k,b))):
  RS enc Prod.mk k b (eU s (l.map f)) (loop body (0,k,b)):=by
 rw[<-qcu]
 exact Wz hE l hn (λi x=>(if i=0 then[]else[tW s])++[f x]) hin hend
theorem qes(hE:qaY enc){α:Type}(l:List α)(hn:l.length<9223372036854775808)(f:α->List Wr){body:Int×List ε×Bool->Option ((Int×List ε×Bool)⊕(List ε×Bool))}
  (hin:∀(i:Nat) (hi:i<l.length) k b,RS enc (λk b=>.inl (dU ((i:Int)+1),k,b)) k b (f l[i]) (body ((i:Int),k,b))) (hend:∀k b,body ((l.length:Int),k,b)=some (.inr (k,b))):
  RS enc Prod.mk k b (l.flatMap f) (loop body (0,k,b)):=by
 have:=Wz (k:=k) (b:=b) hE l hn (λ_ x=>f x) hin hend
 have e:(l.zipIdx.map λx=>f x.1).flatten=l.flatMap f:=by
  rw[show(l.zipIdx.map λx=>f x.1)=(l.zipIdx.map Prod.fst).map f by rw[vby];rfl,vcS,List.flatMap_def]
 rw[e]at this
 exact this
theorem xu(hE:qaY enc){i:Nat}{s:ah}{o:Option (List ε)}{f:List ε->Option γ}(h:RK enc k (if i=0 then[]else s) o)(h':∀k',RS enc mk' k' b ws (f k')):RS enc mk' k b ((if i=0 then[]else[tW s])++ws) (o.bind f):=by
 refine(bS hE h h').cast ?_
 split<;>simp[aJ]
end
theorem qbh(k:List Int)(s:ah):RK eD k s (YG k s):=λh=>by
 unfold YG
 rw[vad h]
 rfl
theorem qeg{k:List Int}{b:Bool}{s:ah}(h:k.length+s.length<=1073741824):eB s k b=some ((s.length:Int),(),k++eD s):=by
 unfold eB GH
 simp only[vaa]
 rw[qbh k s h]
 rfl
theorem qc8(l:List ah)(hl:l.length<=100)(k:List Int)(b:Bool):RK eD k l.flatten (ak l k b):=λh=>by
 unfold ak nd
 have key:=dM l.length (λzz:Int×List Int=>fh l (l.length:Int) b zz.1 zz.2) (λi=>((i:Int),k++eD (l.take i).flatten)) (k++eD l.flatten) (λi hi=>?_) ?_
 ·rw[show((0:Int),k)=(λi:Nat=>((i:Int),k++eD (l.take i).flatten)) 0 by simp[eD],key]
  rfl
 ·simp only[fh]
  rw[vad (by simp;omega),aM _ _ hi]
  simp only[vaa]
  have hs:(l.take (i+1)).flatten.length<=l.flatten.length:=by
   conv=>rhs;rw[<-vbD (i+1) l,vcT,vas]
   omega
  rw[vay hi,vcT]at hs ⊢
  simp only[List.flatten_cons,List.flatten_nil,vaC,vas]at hs ⊢
  rw[qeg (by simp only[vas,ay.len];omega),cW (by omega) (by omega),ay.app]
  simp only[vaa,vag]
  rfl
 ·simp only[fh]
  rw[vab (by simp),va1]
theorem fk(s:ah)(k:List Int)(b:Bool):RK eD k s (ak ([s]:List ah) k b):=by
 have:=qc8 [s] (by simp) k b
 simpa using this
theorem qc7(s t u:ah)(k:List Int)(b:Bool):RK eD k (s++(t++u)) (ak ([s,t,u]:List ah) k b):=by
 have:=qc8 [s,t,u] (by simp) k b
 simpa using this
theorem G2(s:ah)(i:Nat)(k:List Int)(b:Bool):RK eD k (if i=0 then[]else s) (if decide ((i:Int)>0)=true then(ak ([s]:List ah) k b).bind λr=>some r else some k):=by
 by_cases h:i=0
 ·subst h;exact qer ay
 ·rw[vab h,vad (by simp;omega)]
  exact qdk (fk s k b)
def qa(cap:Bool)(s:ah):Wr:=(s,!(aY s&&(eG fc s==cap)))
theorem qbA{s:ah}(h:aY s=true):∃c r,s=c::r:=by
 cases s with
 |nil=>rw[rv]at h;cases h
 |cons c r=>exact⟨c,r,rfl⟩
theorem Wc{s:ah}(h:aY s=true):nz s=some (eG fc s):=by
 obtain⟨c,r,rfl⟩:=qbA h
 unfold nz eG fc
 rw[oW]
 simp only[vaa]
 by_cases h1:65<=(c.toNat:Int)
 ·rw[vad (by simpa using h1)];simp[h1]
 ·rw[vab (by simpa using h1)];simp[h1]
theorem qam(s:ah):iC s=some (qa false s).2:=by
 unfold iC qa
 rw[nu]
 simp only[vaa,pP]
 cases h:aY s with
 |false=>rfl
 |true=>
  rw[vab (by simp),Wc h]
  simp only[vaa]
  cases eG fc s<;>rfl
theorem X6(s:ah):g9 s=some (qa true s).2:=by
 unfold g9 qa
 rw[nu]
 simp only[vaa,pP]
 cases h:aY s with
 |false=>rfl
 |true=>
  rw[vab (by simp),Wc h]
  simp only[vaa]
  cases eG fc s<;>rfl
abbrev Ue{ε:Type}(k:List ε)(b:Bool):Bool×List ε:=(b,k)
theorem dC{w:Wr}:aJ [w]=w:=by simp[aJ]
theorem La(s:ah)(k:List Int)(b:Bool):RS eD Ue k b [qa false s] (cz s k b):=by
 unfold cz
 refine dw (qam s) (fi (λh=>R0 (by rw[dC];exact h)) λh=>?_)
 refine RS.cast (ws:=[tW s]) (bS ay (fk s k b) λk'=>bm (mk:=Ue) ay) ?_
 rw[dC,dC]
 exact Prod.ext rfl h.symm
theorem U4(s:ah)(k:List Int)(b:Bool):RS eD Ue k b [qa true s] (fm s k b):=by
 unfold fm
 refine dw (X6 s) (fi (λh=>R0 (by rw[dC];exact h)) λh=>?_)
 refine RS.cast (ws:=[tW s]) (bS ay (fk s k b) λk'=>bm (mk:=Ue) ay) ?_
 rw[dC,dC]
 exact Prod.ext rfl h.symm
def aN:ah->ah->Option ah
 |[],s=>some s
 |c::p,d::s=>if c=d then aN p s else none
 |_::_,[]=>none
theorem aT:∀(p s:ah),aN p (p++s)=some s
 |[],s=>rfl
 |c::p,s=>by rw[vaL,aN,vad rfl,aT p s]
def pk(c:UInt8):Bool:=gb c||jU c||c==46
def xv:ah->Prop
 |[]=>True
 |c::_=>pk c=false
def cN(s:ah):ah:=s.takeWhile pk
def ef(s:ah):ah:=s.dropWhile pk
theorem oN:∀(w r:ah),(∀c∈w,pk c=true)->xv r->cN (w++r)=w/\ef (w++r)=r
 |[],[],_,_=>⟨rfl,rfl⟩
 |[],c::r,_,h=>by
  unfold cN ef
  have h:pk c=false:=h
  rw[vaJ,vcU,vcV,h]
  exact⟨rfl,rfl⟩
 |c::w,r,hw,hr=>by
  obtain⟨h1,h2⟩:=oN w r (λx hx=>hw x (vax _ hx)) hr
  unfold cN ef at *
  rw[vaL,vcU,vcV,hw c (by simp),h1,h2]
  exact⟨rfl,rfl⟩
theorem M3:∀(s:ah) (c:UInt8),c∈s->c=46\/∃x∈jV s,c∈x
 | d :: s,c,h => by
  rw[jV]
  by_cases hd:(d==46)=true
  ·rw[vad hd]
   rcases vaF.1 h with rfl|h
   ·exact .inl (by simpa using hd)
   ·rcases M3 s c h with h|⟨x,hx,hc⟩
    ·exact .inl h
    ·exact .inr ⟨x,vax _ hx,hc⟩
  ·rw [vab hd]
   cases hq:jV s with
   |nil=>exact absurd hq (vH s)
   | cons y l =>
    rcases vaF.1 h with rfl|h
    ·exact .inr ⟨c::y,by simp,by simp⟩
    ·rcases M3 s c h with h|⟨x,hx,hc⟩
     ·exact .inl h
     ·rw[hq]at hx
      rcases vaF.1 hx with rfl|hx
      ·exact .inr ⟨d::x,by simp,vax _ hc⟩
      ·exact .inr ⟨x,vax _ hx,hc⟩
theorem ZJ{s:ah}(h:mW s=true):∀c∈s,pk c=true:=λc hc=>by
 unfold mW at h
 simp only[vaf]at h
 have:=vak.1 h.2 c hc
 unfold pk
 rw[this]
 simp
theorem Yh{s:ah}(h:jf s=true):∀c∈s,pk c=true:=λc hc=>by
 unfold jf at h
 simp only[vaf]at h
 have:=vak.1 h.1.1.1.1.2 c hc
 unfold pk
 rw[this]
 simp
theorem Z1{s:ah}(h:lP s=true):∀c∈s,pk c=true:=λc hc=>by
 unfold lP Ub at h
 simp only[vaf,vaY]at h
 unfold pk
 rcases h.2 with h|h
 ·rw[vak.1 h c hc];simp
 ·rw[vak.1 h.2 c hc];simp
theorem MX{s:ah}(h:aY s=true):∀c∈s,pk c=true:=λc hc=>by
 rcases M3 s c hc with rfl|⟨x,hx,hc⟩
 ·decide
 ·unfold aY at h
  simp only[vaf,var]at h
  cases hd:jV s with
  |nil=>exact absurd hd (vH s)
  | cons f r =>
   rw[hd]at h hx
   simp only[vaf,vaY]at h
   rcases vaF.1 hx with rfl|hx
   ·rcases h.2.1 with(h|h)|h
    ·exact ZJ h c hc
    ·exact Yh h c hc
    ·have:x=[118]:=by simpa using h.1
     subst this
     have:c=118:=by simpa using hc
     subst this
     decide
   ·exact Z1 (vak.1 h.2.2 x hx) c hc
theorem WZ{s:ah}(h:aY s=true):∃c r,s=c::r/\(dp c.toNat=true\/fc c.toNat=true):=by
 have h0:=h
 unfold aY at h
 simp only[vaf,var]at h
 cases s with
 |nil=>rw[rv]at h0;cases h0
 | cons c s =>
  refine⟨c,s,rfl,?_⟩
  rw[jV]at h
  by_cases hd:(c==46)=true
  ·rw[vad hd]at h
   simp only[vaf,vaY]at h
   rcases h.2.1 with(h|h)|h
   ·exact absurd h (by decide)
   ·exact absurd h (by decide)
   ·exact absurd h.1 (by decide)
  ·rw[vab hd]at h
   cases hq:jV s with
   |nil=>exact absurd hq (vH s)
   | cons y l =>
    rw[hq]at h
    simp only[vaf,vaY]at h
    rcases h.2.1 with(h|h)|h
    ·left
     unfold mW eG at h
     simp only[vaf]at h
     exact h.1.1.2
    ·right
     unfold jf eG at h
     simp only[vaf]at h
     exact h.1.1.1.1.1.2
    ·left
     have:c::y=[118]:=by simpa using h.1
     have:c=118:=by simp at this;exact this.1
     subst this
     decide
theorem QZ:∀(n:Nat),qjT (Lib.decDigits n):=by
 intro n
 induction n using Nat.strongRecOn with
 | ind n ih =>
  rw[Lib.decDigits]
  have hb:∀q,q<10->48<=(UInt8.ofNat (48+q)).toNat/\(UInt8.ofNat (48+q)).toNat<=57:=λq hq=>by
   have:(UInt8.ofNat (48+q)).toNat=48+q:=by simp;omega
   omega
  by_cases h:n<10
  ·rw[dif_pos h]
   intro c hc
   have:c=UInt8.ofNat (48+n):=by simpa using hc
   subst this
   exact hb n h
  ·rw[dif_neg h]
   intro c hc
   rcases vaS.1 hc with hc|hc
   ·exact ih (n / 10) (by omega) c hc
   ·have:c=UInt8.ofNat (48+n % 10):=by simpa using hc
    subst this
    exact hb _ (by omega)
theorem Y4:∀(n:Nat),dv (Lib.decDigits n)=n:=by
 intro n
 induction n using Nat.strongRecOn with
 | ind n ih =>
  rw[Lib.decDigits]
  have hb:∀q,q<10->(UInt8.ofNat (48+q)).toNat=48+q:=λq hq=>by simp;omega
  by_cases h:n<10
  ·rw[dif_pos h]
   show 10 * 0+((UInt8.ofNat (48+n)).toNat - 48)=n
   rw[hb n h]
   omega
  ·rw[dif_neg h,qbG,ih (n / 10) (by omega),hb _ (by omega)]
   omega
theorem VO{s:ah}(h:qjT s):∀c∈s,pk c=true:=λc hc=>by
 have:=h c hc
 unfold pk gb jX
 simp
 omega
theorem SL(n:Nat):∃c r,Lib.decDigits n=c::r/\jX c.toNat=true:=by
 have hd:=QZ n
 have hne:Lib.decDigits n≠[]:=by
  rw[Lib.decDigits]
  split<;>simp
 obtain⟨c,r,e⟩:=vbB hne
 refine⟨c,r,e,?_⟩
 have:=hd c (by rw[e];simp)
 unfold jX
 simp
 omega
mutual
def qa2:aa->Prop
 |⟨o,n,k,ks⟩=>lF ⟨o,n,k,ks⟩=some 0/\Xa ks
def Xa:List aa->Prop
 |[]=>True
 |p::ps=>qa2 p/\Xa ps
end
theorem Ml(p:aa):qa2 p↔lF p=some 0/\Xa p.Kids:=by obtain⟨o,n,k,ks⟩:=p;rw[qa2];exact Iff.rfl
theorem Ii:∀(l:List aa),Xa l↔∀p∈l,qa2 p
 |[]=>by simp[Xa]
 |p::l=>by rw[Xa,Ii l];simp
theorem Xc(p:aa)(hp:nP p<=cm):gu (HK p) (λr=>(r !=0)=false->qa2 p):=by
 refine tN (F:=Bo) nP (λx=>nP x<=cm) (λx r=>(r !=0)=false->qa2 x) (λR x hx ih=>?_) p hp (iJ hp)
 show gu (oA (λt=>R t) x) _
 unfold oA sQ
 have h1:=wX x
 obtain⟨q,hq,_⟩:=NF x
 refine dJ hq (aD (λh=>am (λh'=>by rw[h]at h';cases h')) λh=>aA (jT x.Kids (by unfold cm at hx;omega) _ qa2 (λr=>(r !=0)=true) (λi=>rfl) (λy hy i=>aA (ih _ (pV hy) (by have:=pV hy;omega)) λr hr=>aD (λh=>am h) λh=>am ⟨rfl,hr (by simpa using h)⟩)) λo ho=>?_)
 cases o with
 |inl r=>
  have ho:(r !=0)=true:=ho
  exact am λh'=>by rw[ho]at h';cases h'
 |inr _=>
  have hq0:q=0:=by simpa using h
  exact am λ_=>(Ml x).2 ⟨by rw[hq,hq0],(Ii _).2 ho⟩
theorem qbp(p:aa)(hp:nP p<=cm)(h:Lz p=0):qa2 p:=by
 obtain⟨r,e,_⟩:=Mv p hp
 unfold Lz at h
 rw[e]at h
 have h0:r=0:=h
 subst h0
 unfold ri at e
 rw[IH p hp]at e
 simp only[vaa]at e
 rcases n9 e with⟨_,e⟩|⟨_,e⟩
 ·cases e
 rw[M0 p hp]at e
 simp only[vaa]at e
 rcases n9 e with⟨_,e⟩|⟨_,e⟩
 ·cases e
 obtain⟨r,e1,h1⟩:=Xc p hp
 rw[e1]at e
 have:r=0:=by simpa using e
 exact h1 (by simp[this])
structure qly(p:aa):Prop where
 rng:1<=p.Op/\p.Op<=18
 nm:p.Op≠3->p.Op≠4->p.Op≠5->p.Name=[]
 n0:p.Op≠1->p.Op≠2->p.N=0
 n2:p.Op=2->p.N=0\/p.N=1
 v3:p.Op=3->p.Name=[118]\/aY p.Name=true
 a4:p.Op=4->p.Name=[116,97,103]\/p.Name=[118,97,108]\/aY p.Name=true
 a5:p.Op=5->aY p.Name=true
 k0:p.Op=1\/p.Op=2\/p.Op=3->p.Kids=[]
 k5:p.Op=4\/p.Op=5->p.Kids≠[]
 k1:p.Op=9\/p.Op=14->∃a,p.Kids=[a]
 k2:p.Op=6\/p.Op=7\/p.Op=8\/(10<=p.Op/\p.Op<=13)\/(15<=p.Op/\p.Op<=18)->∃a b,p.Kids=[a,b]
theorem P0{p:aa}(h:lF p=some 0):qly p:=by
 unfold lF at h
 rw[qjm]at h
 simp only[vaa]at h
 rw[qjn]at h
 simp only[vaa]at h
 rcases n9 h with⟨_,h⟩|⟨hs,h⟩
 ·cases h
 obtain⟨o3,e3,h⟩:=Gd h
 rcases n9 h with⟨_,h⟩|⟨c3,h⟩
 ·cases h
 obtain⟨o4,e4,h⟩:=Gd h
 rcases n9 h with⟨_,h⟩|⟨c4,h⟩
 ·cases h
 clear h
 have c4:o4=true:=by simpa using c4
 subst c3 c4
 simp only[Hj,vb9,vbo,vc0]at hs
 obtain⟨⟨r1,r2⟩,⟨s1,s2⟩,s3⟩:=hs
 have hk:=s3
 unfold yS at hk
 have hcore:∀s,io s=some (Ai (aY s)):=lD
 refine⟨by omega,λa b c=>?_,λa b=>?_,λh2=>?_,λh3=>?_,λh4=>?_,λh5=>?_,λhq=>?_,λhq=>?_,λhq=>?_,λhq=>?_⟩
 ·have:(p.Op==3||p.Op==4||p.Op==5)=false:=by simp[a,b,c]
  rw[this]at s1
  simpa using s1
 ·have:(p.Op==1||p.Op==2)=false:=by simp[a,b]
  rw[this]at s2
  simpa using s2
 ·unfold lG at e3
  rw[vab (by simp[h2]),vad (by simp[h2])]at e3
  rcases n9 e3 with⟨d,e3⟩|⟨d,e3⟩
  ·cases e3
  ·simp at d e3
   omega
 ·unfold j3 at e4
  rw[vad (by simp[h3])]at e4
  rcases n9 e4 with⟨d,e4⟩|⟨d,e4⟩
  ·exact .inl (by simpa using d)
  ·rw[hcore]at e4
   right
   cases hx:aY p.Name with
   |true=>rfl
   |false=>rw[hx]at e4;cases e4
 ·unfold j3 at e4
  rw[vab (by simp[h4]),vad (by simp[h4])]at e4
  rcases n9 e4 with⟨d,e4⟩|⟨d,e4⟩
  ·exact .inl (by simpa using d)
  rcases n9 e4 with⟨d,e4⟩|⟨d,e4⟩
  ·exact .inr (.inl (by simpa using d))
  ·rw[hcore]at e4
   right;right
   cases hx:aY p.Name with
   |true=>rfl
   |false=>rw[hx]at e4;cases e4
 ·unfold j3 at e4
  rw[vab (by simp[h5]),vab (by simp[h5]),vad (by simp[h5])]at e4
  rw[hcore]at e4
  cases hx:aY p.Name with
  |true=>rfl
  |false=>rw[hx]at e4;cases e4
 ·rw[vad hq]at hk
  exact vam (by simp at hk;simp[hk])
 ·rw[vab (by omega),vad hq]at hk
  intro e
  rw[e]at hk
  simp at hk
 ·rw[vab (by omega),vab (by omega),vad hq]at hk
  have:p.Kids.length=1:=by simp at hk;omega
  match hl:p.Kids,this with
  |[a],_=>exact⟨a,rfl⟩
 ·rw[vab (by omega),vab (by omega),vab (by omega)]at hk
  have:p.Kids.length=2:=by simp at hk;omega
  match hl:p.Kids,this with
  |[a,b],_=>exact⟨a,b,rfl⟩
def P3(o:Int):ah:=ce++(qcw o++ce)
def Yu(s:ah):Option (Int×ah):=[18,17,16,15,10,11,13,12,6,7,8].findSome? λo=>(aN (P3 o) s).map λr=>(o,r)
theorem qb7{o:Int}(h:o=6\/o=7\/o=8\/(10<=o/\o<=13)\/(15<=o/\o<=18))(r:ah):Yu (P3 o++r)=some (o,r):=by
 have:o=6\/o=7\/o=8\/o=10\/o=11\/o=12\/o=13\/o=15\/o=16\/o=17\/o=18:=by omega
 rcases this with rfl|rfl|rfl|rfl|rfl|rfl|rfl|rfl|rfl|rfl|rfl<;>rfl
theorem ZY{s:ah}(h:∀c r,s=c::r->c≠32):Yu s=none:=by
 have hs:∀p,aN (ce++p) s=none:=λp=>by
  cases s with
  |nil=>rfl
  |cons c r=>
   show aN (32::([]++p)) (c::r)=none
   rw[aN,vab (λe=>h c r rfl e.symm)]
 unfold Yu P3
 simp only[List.findSome?_cons,hs,Option.map_none,List.findSome?_nil]
def JG(p:aa):aa:=if p.Op=9 then⟨1,[],-(p.Kids.headD dK).N,[]⟩else p
mutual
def OB(l:Int)(s:ah):Option (aa×ah):=TS s>>=λx=>qcm l x.1 x.2
partial_fixpoint
def qcm(l:Int)(a:aa)(s:ah):Option (aa×ah):=
 match Yu s with
 |none=>some (a,s)
 |some (o,r)=>if HB o<l then some (a,s)else OB (qT o).2 r>>=λy=>qcm l ⟨o,[],0,[a,y.1]⟩ y.2
partial_fixpoint
def TS(s:ah):Option (aa×ah):=
 match s with
 |[]=>none
 | c :: r =>
  if c=33 then OB 5 r>>=λx=>some (⟨14,[],0,[x.1]⟩,x.2)
  else if c=45 then OB 9 r>>=λx=>some (⟨9,[],0,[x.1]⟩,x.2)
  else if c=40 then OB 1 r>>=λx=>(aN bA x.2).bind λt=>some (JG x.1,t)
  else if c=63 then aN cd (ef r)>>=λt=>qa5 t>>=λx=>some (⟨5,cN r,0,x.1⟩,x.2)
  else if jX c.toNat=true then some (⟨1,[],(dv (cN (c::r)):Int),[]⟩,ef (c::r))
  else if cN (c::r)=eC then some (⟨2,[],1,[]⟩,ef (c::r))
  else if cN (c::r)=eR then some (⟨2,[],0,[]⟩,ef (c::r))
  else match aN cd (ef (c::r))with
   |some t=>qa5 t>>=λx=>some (⟨4,cN (c::r),0,x.1⟩,x.2)
   |none=>some (⟨3,cN (c::r),0,[]⟩,ef (c::r))
partial_fixpoint
def qa5(s:ah):Option (List aa×ah):=OB 1 s>>=λx=>
 match aN ax x.2 with
 |some t=>qa5 t>>=λy=>some (x.1::y.1,y.2)
 |none=>(aN bA x.2).bind λt=>some ([x.1],t)
partial_fixpoint
end
theorem xq(l:Int)(s:ah):OB l s=(TS s).bind λx=>qcm l x.1 x.2:=by rw[OB];rfl
theorem qav(l:Int)(a:aa)(s:ah):qcm l a s=match Yu s with
 |none=>some (a,s)
 |some (o,r)=>if HB o<l then some (a,s)else(OB (qT o).2 r).bind λy=>qcm l ⟨o,[],0,[a,y.1]⟩ y.2:=by rw[qcm];rfl
theorem zV(c:UInt8)(r:ah):TS (c::r)=if c=33 then(OB 5 r).bind λx=>some (⟨14,[],0,[x.1]⟩,x.2)
  else if c=45 then(OB 9 r).bind λx=>some (⟨9,[],0,[x.1]⟩,x.2)
  else if c=40 then(OB 1 r).bind λx=>(aN bA x.2).bind λt=>some (JG x.1,t)
  else if c=63 then(aN cd (ef r)).bind λt=>(qa5 t).bind λx=>some (⟨5,cN r,0,x.1⟩,x.2)
  else if jX c.toNat=true then some (⟨1,[],(dv (cN (c::r)):Int),[]⟩,ef (c::r))
  else if cN (c::r)=eC then some (⟨2,[],1,[]⟩,ef (c::r))
  else if cN (c::r)=eR then some (⟨2,[],0,[]⟩,ef (c::r))
  else match aN cd (ef (c::r))with
   |some t=>(qa5 t).bind λx=>some (⟨4,cN (c::r),0,x.1⟩,x.2)
   |none=>some (⟨3,cN (c::r),0,[]⟩,ef (c::r)):=by rw[TS];rfl
theorem qau(s:ah):qa5 s=(OB 1 s).bind λx=>match aN ax x.2 with
 |some t=>(qa5 t).bind λy=>some (x.1::y.1,y.2)
 |none=>(aN bA x.2).bind λt=>some ([x.1],t):=by rw[qa5];rfl
def NC(o:Int):Int:=if o=17 then 2 else if o=14 then 5 else if o=9 then 9 else if 6<=o then HB o+1 else 100
def Ez(n:Int)(r:ah):Prop:=∀o t,Yu r=some (o,t)->HB o<n
theorem Hm{n m:Int}{r:ah}(h:Ez n r)(hnm:n<=m):Ez m r:=λo t e=>vc1 (h o t e) hnm
def qa4(r:ah):Prop:=∀c t,r=c::t->pk c=false/\c≠40
theorem V4{r:ah}(h:qa4 r):xv r:=by
 cases r with
 |nil=>trivial
 |cons c t=>exact(h c t rfl).1
theorem nI{l:Int}{a:aa}{r:ah}(h:Ez l r):qcm l a r=some (a,r):=by
 rw[qav]
 cases e:Yu r with
 |none=>rfl
 |some x=>
  obtain⟨o,t⟩:=x
  simp only[]
  rw[vad (h o t e)]
theorem rJ{n:Int}{r:ah}(h:Yu r=none):Ez n r:=λo t e=>by rw[h]at e;cases e
theorem Ty{c:UInt8}{r:ah}(h:c≠32):Yu (c::r)=none:=ZY λd t e=>by cases e;exact h
def qay(p:aa):Prop:=∀l r,l<=HB p.Op->qa4 r->Ez (NC p.Op) r->OB l (tT p++r)=qcm l p r
theorem Kf(r:ah):qa4 (bA++r):=λc t e=>by cases e;exact⟨by decide,by decide⟩
theorem rI(n:Int)(r:ah):Ez n (bA++r):=rJ (Ty (c:=41) (r:=r) (by decide))
theorem qcq{p:aa}(h:qay p)(h1:1<=HB p.Op)(r:ah):TS (Uh (tT p)++r)=some (JG p,r):=by
 show TS (40::([]++(tT p++bA)++r))=_
 rw[zV]
 simp only[vaJ,vag]
 rw[vab (by decide),vab (by decide),vad (by decide),h 1 (bA++r) h1 (Kf r) (rI _ _),nI (rI _ _)]
 simp only[vaa]
 rw[aT]
 rfl
theorem RV{p:aa}(h:qay p){L l:Int}(r:ah)(hl:l<=L)(h1:1<=HB p.Op)(hL:L<=9)(hr:qa4 r)(hs:L<=HB p.Op->Ez (NC p.Op) r):OB l (wW L (Fr p)++r)=qcm l p r:=by
 unfold wW
 by_cases hc:(Fr p).1<L
 ·rw[vad hc,xq,qcq h h1]
  have h9:p.Op≠9:=λe=>by
   have:HB p.Op=9:=by rw[e];rfl
   have:(Fr p).1=HB p.Op:=rfl
   omega
  unfold JG
  rw[vab h9]
  rfl
 ·rw[vab hc]
  have hc:¬HB p.Op<L:=hc
  exact h l r (by omega) hr (hs (by omega))
theorem RU:∀(l:List aa),l≠[]->(∀x∈l,qay x/\1<=HB x.Op)->∀r,qa5 (Lib.join (l.map tT) ax++(bA++r))=some (l,r)
 |[],h,_,_=>absurd rfl h
 |[x],_,h,r=>by
  obtain⟨h1,h2⟩:=h x (by simp)
  have e:Lib.join ([x].map tT) ax=tT x:=by rw[vae,vaK,Lib.join_cons];simp[Lib.joinTail]
  rw[e,qau,h1 1 _ h2 (Kf r) (rI _ _),nI (rI _ _)]
  simp only[vaa]
  rw[show aN ax (bA++r)=none from rfl]
  simp only[]
  rw[aT]
  rfl
 | x :: y :: l,_,h,r => by
  obtain⟨h1,h2⟩:=h x (by simp)
  have ih:=RU (y::l) (by simp) (λz hz=>h z (vax _ hz)) r
  have e:Lib.join ((x::y::l).map tT) ax=tT x++(ax++Lib.join ((y::l).map tT) ax):=by
   rw[vae,Lib.join_cons,vae,Lib.join_cons]
   simp[Lib.joinTail,vag]
  have ho:qa4 (ax++(Lib.join ((y::l).map tT) ax++(bA++r))):=λc t e=>by cases e;exact⟨by decide,by decide⟩
  have hn:Yu (ax++(Lib.join ((y::l).map tT) ax++(bA++r)))=none:=Ty (by decide)
  rw[e,vag,vag,qau,h1 1 _ h2 ho (rJ hn),nI (rJ hn)]
  simp only[vaa]
  rw[aT]
  simp only[]
  rw[ih]
  rfl
theorem ZC{o q:Int}(ho:o=6\/o=7\/o=8\/(10<=o/\o<=13)\/(15<=o/\o<=18))(hq:1<=q/\q<=18):(HB o<=(qT o).1/\(qT o).1<=9/\(qT o).2<=9/\(qT o).2=NC o)/\((qT o).1<=HB q->HB o<NC q)/\((qT o).2<=HB q->(qT o).2<=NC q):=by
 have h1:o=6\/o=7\/o=8\/o=10\/o=11\/o=12\/o=13\/o=15\/o=16\/o=17\/o=18:=by omega
 have h2:q=1\/q=2\/q=3\/q=4\/q=5\/q=6\/q=7\/q=8\/q=9\/q=10\/q=11\/q=12\/q=13\/q=14\/q=15\/q=16\/q=17\/q=18:=by omega
 rcases h1 with rfl|rfl|rfl|rfl|rfl|rfl|rfl|rfl|rfl|rfl|rfl<;>rcases h2 with rfl|rfl|rfl|rfl|rfl|rfl|rfl|rfl|rfl|rfl|rfl|rfl|rfl|rfl|rfl|rfl|rfl|rfl<;>decide
theorem WI{w r:ah}(hw:∀c∈w,pk c=true)(hne:w≠[])(hr:xv r):∃c t,w++r=c::t/\c≠33/\c≠45/\c≠40/\c≠63/\cN (c::t)=w/\ef (c::t)=r/\∃t',w=c::t':=by
 obtain⟨c,t,rfl⟩:=vbB hne
 obtain⟨h1,h2⟩:=oN (c::t) r hw hr
 have hc:=hw c (by simp)
 refine⟨c,t++r,rfl,?_,?_,?_,?_,h1,h2,t,rfl⟩<;>(rintro rfl;revert hc;decide)
theorem qbU{r:ah}(h:qa4 r):aN cd r=none:=by
 cases r with
 |nil=>rfl
 |cons c t=>
  show aN [40] (c::t)=none
  rw[aN,vab (λe=>(h c t rfl).2 e.symm)]
theorem TT{w r:ah}(hw:∀c∈w,pk c=true)(hd:∃c t,w=c::t/\jX c.toNat=false)(h1:w≠eC)(h2:w≠eR)(hr:xv r):TS (w++r)=match aN cd r with
   |some t=>(qa5 t).bind λx=>some (⟨4,w,0,x.1⟩,x.2)
   |none=>some (⟨3,w,0,[]⟩,r):=by
 obtain⟨d,t0,e0,hd0⟩:=hd
 obtain⟨c,t,e,c1,c2,c3,c4,e1,e2,t',e3⟩:=WI hw (by rw[e0];simp) hr
 have:d=c:=by rw[e0]at e3;cases e3;rfl
 subst this
 rw[e,zV]
 rw[vab c1,vab c2,vab c3,vab c4,vab (by rw[hd0];simp),e1,e2,vab h1,vab h2]
theorem T3{c:UInt8}(h:dp c.toNat=true\/fc c.toNat=true):jX c.toNat=false:=by
 unfold dp fc at h
 unfold jX
 simp at h ⊢
 omega
theorem wk{s:ah}(h:aY s=true):(∀c∈s,pk c=true)/\(∃c t,s=c::t/\jX c.toNat=false)/\s≠eC/\s≠eR:=by
 obtain⟨c,t,e,hc⟩:=WZ h
 refine⟨MX h,⟨c,t,e,T3 hc⟩,?_,?_⟩
 ·rintro rfl
  have:aY eC=false:=by kernel_rfl
  rw[this]at h;cases h
 ·rintro rfl
  have:aY eR=false:=by kernel_rfl
  rw[this]at h;cases h
theorem VP{n:Nat}{r:ah}(hr:xv r):TS (Lib.decDigits n++r)=some (⟨1,[],(n:Int),[]⟩,r):=by
 obtain⟨d,t0,e0,hd0⟩:=SL n
 obtain⟨c,t,e,c1,c2,c3,c4,e1,e2,t',e3⟩:=WI (VO (QZ n)) (by rw[e0];simp) hr
 have:d=c:=by rw[e0]at e3;cases e3;rfl
 subst this
 rw[e,zV]
 rw[vab c1,vab c2,vab c3,vab c4,vad hd0,e1,e2,Y4]
theorem Wx:∀(m:Nat) (p:aa),nP p<=m->qa2 p->qay p:=by
 intro m
 induction m with
 |zero=>intro p h;have:=ZI p;omega
 | succ m ih =>
  intro p hp hf l r hl hr hs
  obtain⟨hn,hks⟩:=(Ml p).1 hf
  have hu:=P0 hn
  have hkid:∀x∈p.Kids,qay x/\1<=HB x.Op:=λx hx=>⟨ih x (by have:=pV hx;omega) ((Ii _).1 hks x hx),Ir _⟩
  have hkr:∀x∈p.Kids,1<=x.Op/\x.Op<=18:=λx hx=>(P0 ((Ml x).1 ((Ii _).1 hks x hx)).1).rng
  have hrng:=hu.rng
  have hself:p=⟨p.Op,p.Name,p.N,p.Kids⟩:=by cases p;rfl
  have hse:=V4 hr
  rw[Ou]
  by_cases h1:p.Op=1
  ·rw [vad h1]
   have hz:=hu.k0 (.inl h1)
   have hnm:=hu.nm (by omega) (by omega) (by omega)
   have hself:p=⟨1,[],p.N,[]⟩:=hself.trans (by rw[h1,hz,hnm])
   unfold LH Lib.itoa
   by_cases hneg:p.N<0
   ·rw[vad hneg,vad hneg,xq]
    have hu2:TS (Uh (45::Lib.decDigits p.N.natAbs)++r)=some (p,r):=by
     show TS (40::([]++(45::Lib.decDigits p.N.natAbs++bA)++r))=_
     rw[zV]
     simp only[vaJ,vaL,vag]
     rw[vab (by decide),vab (by decide),vad (by decide),xq,zV]
     simp only[]
     rw[vab (by decide),vad (by decide),xq,VP (V4 (Kf r))]
     simp only[vaa]
     rw[nI (rI _ _)]
     simp only[vaa]
     rw[nI (rI _ _)]
     simp only[vaa]
     have hc:JG (⟨9,[],0,[⟨1,[],(p.N.natAbs:Int),[]⟩]⟩)=⟨1,[],p.N,[]⟩:=by
      have h0:JG (⟨9,[],0,[⟨1,[],(p.N.natAbs:Int),[]⟩]⟩)=⟨1,[],-(p.N.natAbs:Int),[]⟩:=rfl
      rw[h0]
      rw[show -(p.N.natAbs:Int)=p.N by omega]
     rw[aT,hc,<-hself]
     rfl
    rw[hu2]
    rfl
   ·rw[vab hneg,vab hneg,xq,VP hse]
    have:(p.N.toNat:Int)=p.N:=by omega
    rw[this]
    simp only[vaa]
    rw[<-hself]
  rw[vab h1]
  by_cases h2:p.Op=2
  ·rw[vad h2,xq]
   have hz:=hu.k0 (.inr (.inl h2))
   have hnm:=hu.nm (by omega) (by omega) (by omega)
   have hself:p=⟨2,[],p.N,[]⟩:=hself.trans (by rw[h2,hz,hnm])
   by_cases hn1:p.N=1
   ·rw[vad hn1]
    obtain⟨e1,e2⟩:=oN eC r (by decide) hse
    have e:TS (eC++r)=some (⟨2,[],1,[]⟩,r):=by
     show TS (116::([114,117,101]++r))=_
     rw[zV]
     rw[vab (by decide),vab (by decide),vab (by decide),vab (by decide),vab (by decide)]
     rw[show(116::([114,117,101]++r):ah)=eC++r from rfl,e1,e2,vad (by decide)]
    rw[e,hself,hn1]
    rfl
   ·rw[vab hn1]
    have hn0:=(hu.n2 h2).resolve_right hn1
    obtain⟨e1,e2⟩:=oN eR r (by decide) hse
    have e:TS (eR++r)=some (⟨2,[],0,[]⟩,r):=by
     show TS (102::([97,108,115,101]++r))=_
     rw[zV]
     rw[vab (by decide),vab (by decide),vab (by decide),vab (by decide),vab (by decide)]
     rw[show(102::([97,108,115,101]++r):ah)=eR++r from rfl,e1,e2,vab (by decide),vad (by decide)]
    rw[e,hself,hn0]
    rfl
  rw[vab h2]
  have hN:=hu.n0 h1 h2
  by_cases h3:p.Op=3
  ·rw[vad h3,xq]
   have hz:=hu.k0 (.inr (.inr h3))
   have hw:(∀c∈p.Name,pk c=true)/\(∃c t,p.Name=c::t/\jX c.toNat=false)/\p.Name≠eC/\p.Name≠eR:=by
    rcases hu.v3 h3 with h|h
    ·rw[h];exact⟨by decide,⟨118,[],rfl,by decide⟩,by decide,by decide⟩
    ·exact wk h
   rw[TT hw.1 hw.2.1 hw.2.2.1 hw.2.2.2 hse,qbU hr]
   have hself:p=⟨3,p.Name,0,[]⟩:=hself.trans (by rw[h3,hN,hz])
   simp only[vaa]
   rw[<-hself]
  rw[vab h3]
  by_cases h4:p.Op=4
  ·rw[vad h4,xq]
   have hk:=hu.k5 (.inl h4)
   have hw:(∀c∈p.Name,pk c=true)/\(∃c t,p.Name=c::t/\jX c.toNat=false)/\p.Name≠eC/\p.Name≠eR:=by
    rcases hu.a4 h4 with h|h|h
    ·rw[h];exact⟨by decide,⟨116,_,rfl,by decide⟩,by decide,by decide⟩
    ·rw[h];exact⟨by decide,⟨118,_,rfl,by decide⟩,by decide,by decide⟩
    ·exact wk h
   unfold LD
   have e:p.Name++Uh (Lib.join (p.Kids.map tT) ax)++r=p.Name++(cd++(Lib.join (p.Kids.map tT) ax++(bA++r))):=by simp[vag]
   rw[e,TT hw.1 hw.2.1 hw.2.2.1 hw.2.2.2 (by show pk 40=false;decide),aT]
   simp only[]
   rw[RU p.Kids hk hkid r]
   have hself:p=⟨4,p.Name,0,p.Kids⟩:=hself.trans (by rw[h4,hN])
   simp only[vaa]
   rw[<-hself]
  rw[vab h4]
  by_cases h5:p.Op=5
  ·rw[vad h5,xq]
   have hk:=hu.k5 (.inr h5)
   have hw:=wk (hu.a5 h5)
   unfold LD
   have e:Lh++(p.Name++Uh (Lib.join (p.Kids.map tT) ax))++r=63::(p.Name++(cd++(Lib.join (p.Kids.map tT) ax++(bA++r)))):=by simp[vag,Lh]
   obtain⟨e1,e2⟩:=oN p.Name (cd++(Lib.join (p.Kids.map tT) ax++(bA++r))) hw.1 (by show pk 40=false;decide)
   have e3:TS (63::(p.Name++(cd++(Lib.join (p.Kids.map tT) ax++(bA++r)))))=some (p,r):=by
    rw[zV]
    rw[vab (by decide),vab (by decide),vab (by decide),vad (by decide),e1,e2,aT]
    simp only[vaa]
    rw[RU p.Kids hk hkid r]
    have hself:p=⟨5,p.Name,0,p.Kids⟩:=hself.trans (by rw[h5,hN])
    simp only[vaa]
    rw[<-hself]
   rw[e,e3]
   rfl
  rw[vab h5]
  have hnm:=hu.nm h3 h4 h5
  by_cases h14:p.Op=14
  ·obtain⟨a,ha⟩:=hu.k1 (.inr h14)
   have hka:=hkid a (by rw[ha];simp)
   have hs5:Ez 5 r:=by rw[h14]at hs;exact hs
   rw[vad h14,ha,xq]
   show(TS (33::([]++wW 5 (Fr a)++r))).bind _=_
   rw[zV]
   simp only[vaJ]
   have hfit:5<=HB a.Op->5<=NC a.Op:=λh=>by
    have:=hkr a (by rw[ha];simp)
    have h2:a.Op=1\/a.Op=2\/a.Op=3\/a.Op=4\/a.Op=5\/a.Op=6\/a.Op=7\/a.Op=8\/a.Op=9\/a.Op=10\/a.Op=11\/a.Op=12\/a.Op=13\/a.Op=14\/a.Op=15\/a.Op=16\/a.Op=17\/a.Op=18:=by omega
    revert h
    rcases h2 with e|e|e|e|e|e|e|e|e|e|e|e|e|e|e|e|e|e<;>rw[e]<;>decide
   rw[vad (by decide),RV hka.1 r (vch _) hka.2 (by omega) hr (λh=>Hm hs5 (hfit h)),nI hs5]
   have hself:p=⟨14,[],0,[a]⟩:=hself.trans (by rw[h14,hN,ha,hnm])
   simp only[vaa]
   rw[<-hself]
  rw[vab h14]
  by_cases h9:p.Op=9
  ·obtain⟨a,ha⟩:=hu.k1 (.inl h9)
   have hka:=hkid a (by rw[ha];simp)
   have hs9:Ez 9 r:=by rw[h9]at hs;exact hs
   rw[vad h9,ha,xq]
   show(TS (45::([]++wW 9 (Fr a)++r))).bind _=_
   rw[zV]
   simp only[vaJ]
   have hfit:9<=HB a.Op->9<=NC a.Op:=λh=>by
    have:=hkr a (by rw[ha];simp)
    have h2:a.Op=1\/a.Op=2\/a.Op=3\/a.Op=4\/a.Op=5\/a.Op=6\/a.Op=7\/a.Op=8\/a.Op=9\/a.Op=10\/a.Op=11\/a.Op=12\/a.Op=13\/a.Op=14\/a.Op=15\/a.Op=16\/a.Op=17\/a.Op=18:=by omega
    revert h
    rcases h2 with e|e|e|e|e|e|e|e|e|e|e|e|e|e|e|e|e|e<;>rw[e]<;>decide
   rw[vab (by decide),vad (by decide),RV hka.1 r (vch _) hka.2 (by omega) hr (λh=>Hm hs9 (hfit h)),nI hs9]
   have hself:p=⟨9,[],0,[a]⟩:=hself.trans (by rw[h9,hN,ha,hnm])
   simp only[vaa]
   rw[<-hself]
  rw[vab h9]
  have hop:p.Op=6\/p.Op=7\/p.Op=8\/(10<=p.Op/\p.Op<=13)\/(15<=p.Op/\p.Op<=18):=by omega
  obtain⟨a,b,hab⟩:=hu.k2 hop
  have hka:=hkid a (by rw[hab];simp)
  have hkb:=hkid b (by rw[hab];simp)
  obtain⟨⟨f1,f2,f3,f4⟩,fa,_⟩:=ZC hop (hkr a (by rw[hab];simp))
  obtain⟨_,_,fb⟩:=ZC hop (hkr b (by rw[hab];simp))
  have hself:p=⟨p.Op,[],0,[a,b]⟩:=hself.trans (by rw[hN,hab,hnm])
  have e:wV (qT p.Op).1 (p.Kids.map Fr) 0++(ce++(qcw p.Op++(ce++wV (qT p.Op).2 (p.Kids.map Fr) 1)))++r=wW (qT p.Op).1 (Fr a)++(P3 p.Op++(wW (qT p.Op).2 (Fr b)++r)):=by
   rw[hab]
   unfold wV P3
   simp[vag]
  have hor:qa4 (P3 p.Op++(wW (qT p.Op).2 (Fr b)++r)):=λc t e=>by cases e;exact⟨by decide,by decide⟩
  have hst:∀t,Ez t r->True:=λ_ _=>trivial
  have htok:=qb7 hop (wW (qT p.Op).2 (Fr b)++r)
  rw[e,RV hka.1 _ (Int.le_trans hl f1) hka.2 f2 hor (λh o t e=>by rw[htok]at e;cases e;exact fa h),qav,htok]
  simp only[]
  have hs2:Ez (qT p.Op).2 r:=by rw[f4];exact hs
  rw[vab (by omega),RV hkb.1 r (vch _) hkb.2 f3 hr (λh=>Hm hs2 (fb h)),nI hs2]
  simp only[vaa]
  rw[<-hself]
end Go.Proofs.YtibglelmlnfojaaGreatDoor
