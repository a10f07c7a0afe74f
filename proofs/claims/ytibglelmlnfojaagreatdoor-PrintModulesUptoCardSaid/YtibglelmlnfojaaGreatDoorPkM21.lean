/- PROVED: a part of the proof. Conditions: none. -/
import Derived.Test.YtibglelmlnfojaaGreatDoorPkM20
import Derived.Test.YtibglelmlnfojaaGreatDoorPkM12
import Derived.Test.YtibglelmlnfojaaGreatDoorPkM10
import Derived.Test.YtibglelmlnfojaaGreatDoorPkM11
set_option linter.unusedSimpArgs false set_option linter.defProp false
set_option linter.unusedVariables false
noncomputable section
namespace Go.Proofs.YtibglelmlnfojaaGreatDoor
open Go
open Option renaming some→O,none→N
open Go renaming TypeId→G,Value→D,Program→I,Oper→M,World→J,Code→W
open Bool renaming true→T,false→Z
open Decidable renaming decide→Y
open Go.Proofs.YtibglelmlnfojaaGreatDoor renaming PVal→U
set_option linter.unusedVariables false
set_option linter.unusedSimpArgs false
def qjn(t:am)(c:jm t<=dm):jV (Ey t) (λ_=>True):=by refine Gs (F:=AX) jm (λx=>jm x<=dm) (λ_ _=>True) (λR x d e=>?_) t c (lP c);show jV (vR (λt=>R t) x) _;unfold vR Dz;have h:=qF x;refine aG (R:=λ_=>True) (qe3 x.Args (by unfold dm at d;omega) (λi s=>(s,i)) (λi s y=>(R y).bind λr=>O (.inl ((if r>s then r else s),cz (i+1)))) id (λ_ _=>True) (λi s=>rfl) (λi b s _=>?_) (λ_ _=>trivial) 0 trivial) (λa _=>av md);exact aG (e _ (pp (m4 b)) (by have:=pp (m4 b);omega)) (λa _=>av ⟨_,rfl,md⟩)
def qb1(t:am):jV (wH t) (λ_=>True):=by
 unfold wH;refine aG (R:=λ_=>True) ?_ λ_ _=>aQ (λ_=>av md) λ_=>aG (R:=λ_=>True) ?_ λ_ _=>aQ (λ_=>av md) λ_=>aG (R:=λ_=>True) ?_ λ_ _=>aQ (λ_=>av md) λ_=>aG (R:=λ_=>True) ?_ λ_ _=>aQ (λ_=>av md) λ_=>av md;.unfold la;repeat' first|exact av md|refine aQ (λ_=>?_) (λ_=>?_)
 .unfold nq;repeat' first|exact av md|refine aQ (λ_=>?_) (λ_=>?_)
 .unfold lb;repeat' first|exact av md|refine aQ (λ_=>?_) (λ_=>?_)
 .unfold nr;repeat' first|exact av md|refine aQ (λ_=>?_) (λ_=>?_)|refine aG (qhH _ _) λ_ _=>?_
def qju(t:am)(a:jm t<=dm):jV (ES t) (λ_=>True):=by refine Gs (F:=zm) jm (λx=>jm x<=dm) (λ_ _=>True) (λR x c d=>?_) t a (lP a);show jV (lJ (λt=>R t) x) _;unfold lJ ql;have e:=qF x;refine aG (qb1 x) λ_ _=>aQ (λ_=>av md) λ_=>aG (nj x.Args (by unfold dm at c;omega) _ (λ_=>True) (λ_=>True) (λi=>rfl) (λy b i=>aG (d _ (pp b) (by have:=pp b;omega)) λ_ _=>aQ (λ_=>av md) λ_=>av ⟨rfl,md⟩)) λo _=>?_;cases o<;>exact av md
def G2(t:am)(a:jm t<=dm):jV (kX t) (λ_=>True):=by unfold kX;exact aG (qjn t a) λ_ _=>aQ (λ_=>av md) λ_=>aG (qju t a) λ_ _=>av md
def qom(b n:Int):jV (qj b n) (λr=>r=T->b=8->n=2):=by
 by_cases h:b=8
 .subst h;refine qj8 (a:=n==2) ?_ λh _=>by simpa using h
  simp[qj,AQ,AR,AS]
 .unfold qj;refine aG (R:=λ_=>True) ?_ λ_ _=>aQ (λ_=>av λ_ e=>absurd e h) λ_=>aG (R:=λ_=>True) ?_ λ_ _=>aQ (λ_=>aQ (λ_=>av λ_ e=>absurd e h) λ_=>av λ_ e=>absurd e h) λ_=>aG (R:=λ_=>True) ?_ λ_ _=>aQ (λ_=>av λ_ e=>absurd e h) λ_=>av λ_ e=>absurd e h;.unfold AQ;repeat' first|exact av md|refine aQ (λ_=>?_) (λ_=>?_)
  .unfold AR;repeat' first|exact av md|refine aQ (λ_=>?_) (λ_=>?_)
  .unfold AS;repeat' first|exact av md|refine aQ (λ_=>?_) (λ_=>?_)
def Tl(p:ah):jV (u7 p) (λ_=>True):=by unfold u7;have a:=λs=>(qhc s).mono (R:=λ_=>True) λ_ _=>trivial;repeat' first|exact av md|refine aQ (λ_=>?_) (λ_=>?_)|refine aG (a _) λ_ _=>?_
def qjJ(p:ah):jV (AT p) (λ_=>True):=by
 unfold AT;have i:jV (qj p.Op (p.Kids.length:Int)) (λr=>r=T->p.Op=8->0<p.Kids.length):=(qom _ _).mono λr b c d=>by have:=b c d;omega
 have n:∀r:K,(r=T->p.Op=8->0<p.Kids.length)->jV (O (!r)) (λo=>o=T\/(p.Op=8->0<p.Kids.length)):=λr b=>by cases r with|false=>exact av (.inl rfl)|true=>exact av (.inr (b rfl))
 refine aG (R:=λ_=>True) ?_ λs _=>aG (R:=λo=>o=T\/(p.Op=8->0<p.Kids.length)) ?_ λo q=>aQ (λ_=>av md) λa=>aG (R:=λ_=>True) ?_ λ_ _=>aQ (λ_=>av md) λ_=>aG (Tl p) λ_ _=>aQ (λ_=>av md) λ_=>aG (R:=λ_=>True) ?_ λ_ _=>aQ (λ_=>av md) λ_=>av md;.unfold AU;repeat' first|exact av md|refine aQ (λ_=>?_) (λ_=>?_)
 .unfold AV;have m:jV (Ex p.Op) (λ_=>True):=by unfold Ex;repeat' first|exact av md|refine aQ (λ_=>?_) (λ_=>?_)
  repeat' first|exact av (.inl rfl)|refine aQ (λ_=>?_) (λ_=>?_)|refine aG m λ_ _=>?_|exact aG i n
 .have e:jV (K2 p.N) (λ_=>True):=by
   unfold K2
   repeat' first|exact av md|refine aQ (λ_=>?_) (λ_=>?_)
  unfold qk
  repeat' first|exact av md|refine aQ (λ_=>?_) (λ_=>?_)|refine aG e λ_ _=>?_
 .unfold AW;refine aQ (λh=>?_) λ_=>av md;exact fj (aC p.Kids 0 (q.resolve_left a (by simpa using h))) (av md)
def Tu:ck []=false:=by kernel_rfl
def xi(b:K):(Nk b !=0)= !b:=by cases b<;>rfl
def Q5(b:K):(Nk b==0)=b:=by cases b<;>rfl
def qmZ(t:am):Ir t=Ey t:=by have h:Jp=AX:=rfl;unfold Ir Ey;rw[h]
def qpW(t:am):AI t=O (t.Op==4||t.Op==5):=by unfold AI;by_cases h:t.Op=4<;>simp[h]
def qpX(t:am):AJ t=O (t.Op==4||t.Op==6):=by unfold AJ;by_cases h:t.Op=4<;>simp[h]
def qpY(t:am):AK t (t.Op==4||t.Op==5) (t.Op==4||t.Op==6)=la t:=by
 unfold AK la;by_cases a:t.Op=4;.simp[a]
 by_cases b:t.Op=5;.simp[b]
 by_cases c:t.Op=6;.simp[c]
 .simp[a,b,c]
def qui(t:am):Iq t=(nq t).bind λa=>if a then O 13 else(lb t).bind λb=>if b then O 13 else O 0:=by
 unfold Iq nq lb Gt;by_cases c:t.Op=4;.simp[c]
 by_cases d:t.Op=6
 .have i:((t.Names.length:Int)!=0)=Y ((t.Names.length:Int)>0):=by
   by_cases h:t.Names.length=0
   .rw[h];rfl
   .have m:(t.Names.length:Int)≠0:=by omega
    have e:(t.Names.length:Int)>0:=by omega
    rw[tr e];simpa using h
  rw[i]
  simp[d]
 .simp[c,d]
def qtE(s:ae)(b:K):AY s b=O (ck s&&(kQ mU s==b)):=by
 unfold AY;rw[nn];simp only[hN,Q5];by_cases h:ck s=T
 .cases s with
  |nil=>rw[Tu]at h;cases h
  | cons c r =>
   rw[hU h,h];simp only[mT,hN,kQ,mU,vbo];by_cases d:(c.toNat:Int)>=65;.have a:(65:Int)<=c.toNat:=d;rw[hU (tr d),tr a,vbo]
   .have a:¬(65:Int)<=c.toNat:=d;rw[hG (by simpa using d),decide_eq_false a,vcb]
 .rw[hG h];have:ck s=false:=by simpa using h
  rw[this];rfl
def qpZ(t:am):AL t (t.Op==4||t.Op==5)=(nr t).bind λb=>if b then O (.inl ())else O (.inr ()):=by
 unfold AL nr;simp only[qtE,hN,pd,xi]
 have d:ck t.Name=T->AM t=O (kQ mU t.Name):=λh=>by
  unfold AM;cases n:t.Name with
  |nil=>rw[n,Tu]at h;cases h
  | cons c r =>
   simp only[mT,hN,kQ,mU];by_cases e:(c.toNat:Int)>=65;.have a:(65:Int)<=c.toNat:=e;rw[hU (tr e),tr a,vbo]
   .have a:¬(65:Int)<=c.toNat:=e;rw[hG (by simpa using e),decide_eq_false a,vcb]
 by_cases i:t.Op=4
 .by_cases h:ck t.Name=T;.rw[d h];cases kQ mU t.Name<;>simp[i,h]
  .simp[i,h]
 by_cases m:t.Op=5
 .by_cases h:ck t.Name=T;.rw[d h];cases kQ mU t.Name<;>simp[m,h]
  .simp[m,h]
 .simp[i,m]
def qiq(t:am):∃a b c b4,la t=O a/\nq t=O b/\lb t=O c/\nr t=O b4:=by
 have m:jV (la t) (λ_=>True):=by unfold la;repeat' first|exact av md|refine aQ (λ_=>?_) (λ_=>?_)
 have n:jV (nq t) (λ_=>True):=by unfold nq;repeat' first|exact av md|refine aQ (λ_=>?_) (λ_=>?_)
 have o:jV (lb t) (λ_=>True):=by unfold lb;repeat' first|exact av md|refine aQ (λ_=>?_) (λ_=>?_)
 have p:jV (nr t) (λ_=>True):=by unfold nr;repeat' first|exact av md|refine aQ (λ_=>?_) (λ_=>?_)|refine aG (qhH _ _) λ_ _=>?_
 let⟨a,d,_⟩:=m;let⟨b,e,_⟩:=n;let⟨c,h,_⟩:=o;let⟨b4,i,_⟩:=p;exact⟨a,b,c,b4,d,e,h,i⟩
def qrY(R:am->Q Int)(t:am):Ep R t=lJ R t:=by let⟨h,i,m,b4,n,a,b,c⟩:=qiq t;have e:=qui t;have d:=qpZ t;have o:Jq R t.Args (t.Args.length:Int) 0=ql R t.Args (t.Args.length:Int) 0:=rfl;rw[a,b]at e;rw[c]at d;unfold Ep lJ wH;rw[qpW,qpX];simp only[hN];rw[qpY,n,a,b,c,e,o];rw[d];cases h<;>cases i<;>cases m<;>cases b4<;>rfl
def XR(t:am):nF t=kX t:=by
 have h:MQ=zm:=by funext R x;exact qrY (λt=>R t) x
 have a:MP t=ES t:=by unfold MP ES;rw[h]
 unfold nF kX;rw[qmZ,a]
def JV(a n:Int):K:=if a=1\/a=2\/a=3 then n==0 else if a=4\/a=5 then Y (n>=1)&&Y (n<=24)else if a=9\/a=14 then n==1 else n==2
def qpD(a n:Int):qj a n=O (JV a n):=by
 unfold qj AQ AR AS JV;by_cases d:a=1;.simp[d]
 by_cases e:a=2;.simp[e]
 by_cases h:a=3;.simp[h]
 by_cases i:a=4;.subst i;by_cases c:n>=1<;>simp[c]
 by_cases m:a=5;.subst m;by_cases c:n>=1<;>simp[c]
 by_cases o:a=9;.simp[o]
 by_cases b:a=14;.simp[b]
 .simp[d,e,h,i,m,o,b]
def qo7(c:Int)(n:Nat):∃l m,Rk c=O (l,m)/\(if Y ((n:Int)<l)then O T else O (Y ((n:Int)>m)))=O (!JV c (n:Int)):=by
 unfold Rk L8 L9 Ma JV;have q:(if Y ((n:Int)<0)then O T else O (Y ((n:Int)>0)))=O (!((n:Int)==0)):=by
  rw[hG (by simp)];by_cases h:n=0;.subst h;rfl
  .have d:(n:Int)>0:=by omega
   rw[tr d];simp[h]
 have s:(if Y ((n:Int)<1)then O T else O (Y ((n:Int)>24)))=O (!(Y ((n:Int)>=1)&&Y ((n:Int)<=24))):=by
  by_cases h:(n:Int)<1;.rw[hU (tr h),decide_eq_false (by omega:¬(n:Int)>=1)];rfl
  .rw[hG (by simpa using h),tr (by omega:(n:Int)>=1)];by_cases a:(n:Int)>24;.rw[tr a,decide_eq_false (by omega:¬(n:Int)<=24)];rfl
   .rw[decide_eq_false a,tr (by omega:(n:Int)<=24)];rfl
 have r:∀k:Nat,(if Y ((n:Int)<(k:Int))then O T else O (Y ((n:Int)>(k:Int))))=O (!((n:Int)==(k:Int))):=λk=>by
  by_cases h:(n:Int)<k
  .rw[hU (tr h)];have:((n:Int)==(k:Int))=false:=by rw[beq_eq_false_iff_ne];omega
   rw[this];rfl
  .rw[hG (by simpa using h)];by_cases a:(n:Int)>k
   .have:((n:Int)==(k:Int))=false:=by rw[beq_eq_false_iff_ne];omega
    rw[this,tr a];rfl
   .have:((n:Int)==(k:Int))=true:=by rw[o5];omega
    rw[this,decide_eq_false a];rfl
 by_cases d:c=1;.exact⟨0,0,by simp[d],by simpa[d]using q⟩
 by_cases a:c=2;.exact⟨0,0,by simp[a],by simpa[a]using q⟩
 by_cases e:c=3;.exact⟨0,0,by simp[e],by simpa[e]using q⟩
 by_cases i:c=4;.exact⟨1,24,by simp[i],by rw[s];simp[i]⟩
 by_cases o:c=5;.exact⟨1,24,by simp[o],by rw[s];simp[o]⟩
 by_cases p:c=9;.exact⟨1,1,by simp[p],by have:=r 1;rw[show((1:Nat):Int)=1 from rfl]at this;rw[this];simp[p]⟩
 by_cases b:c=14;.exact⟨1,1,by simp[b],by have:=r 1;rw[show((1:Nat):Int)=1 from rfl]at this;rw[this];simp[b]⟩
 .exact⟨2,2,by simp[d,a,e,i,o,p,b],by have:=r 2;rw[show((2:Nat):Int)=2 from rfl]at this;rw[this];simp[d,a,e,i,o,p,b]⟩
def qeS(a:Int):Ex a=O (a==3||a==4||a==5):=by
 unfold Ex;by_cases b:a=3;.simp[b]
 by_cases c:a=4<;>simp[b,c]
def qeL(a:Int):Mb a=O (a==3||a==4||a==5):=qeS a
def qA7(p:ah):AU p=O (p.Op==1||p.Op==2):=by unfold AU;by_cases h:p.Op=1<;>simp[h]
def XI(p:ah):K:=!(p.Name==([]:ae))&&!(p.Op==3||p.Op==4||p.Op==5)||((p.N !=0)&&!(p.Op==1||p.Op==2))||!JV p.Op (p.Kids.length:Int)
def qA8(p:ah):AV p (p.Op==1||p.Op==2)=O (Y (p.Op<1)||decide (p.Op>18)||XI p):=by
 unfold AV XI;simp only[qeS,qpD,hN];cases Y (p.Op<1)
 .cases Y (p.Op>18);.cases(p.Name==([]:ae))<;>cases(p.Op==3||p.Op==4||p.Op==5)<;>cases(p.N !=0)<;>cases(p.Op==1||p.Op==2)<;>cases JV p.Op (p.Kids.length:Int)<;>rfl
  .rfl
 .rfl
def qCJ(p:ah)(l m:Int)(h:(if Y ((p.Kids.length:Int)<l)then O T else O (Y ((p.Kids.length:Int)>m)))=O (!JV p.Op (p.Kids.length:Int))):DT p l m=O (XI p):=by
 unfold DT XI;simp only[qeL,hN,h];by_cases a:p.Op=1;.cases(p.Name==([]:ae))<;>cases(p.N !=0)<;>simp[a]
 by_cases b:p.Op=2;.cases(p.Name==([]:ae))<;>cases(p.N !=0)<;>simp[b]
 have c:(p.Op !=1)=true:=by simpa using a
 have d:(p.Op !=2)=true:=by simpa using b
 have e:(p.Op==1)=false:=by simpa using a
 have i:(p.Op==2)=false:=by simpa using b
 rw[c,d,e,i];cases(p.Name==([]:ae))<;>cases(p.Op==3||p.Op==4||p.Op==5)<;>cases(p.N !=0)<;>cases JV p.Op (p.Kids.length:Int)<;>rfl
def qwa(n:Int):qb5 n=K2 n:=rfl
def qCK(p:ah):DU p=qk p:=by
 unfold DU qk;rw[qwa];have e:(if(p.N !=0)then O (p.N !=1)else O Z)=(if Y (p.N<0)then O T else O (Y (p.N>1))):=by
  by_cases a:p.N=0;.rw[a];rfl
  by_cases b:p.N=1;.rw[b];rfl
  .have:(p.N !=0)=true:=by simpa using a
   have d:(p.N !=1)=true:=by simpa using b
   rw[hU this,d];by_cases c:p.N<0;.rw[hU (tr c)]
   .rw[hG (by simpa using c),tr (by omega:p.N>1)]
 rw[e]
def qCL(p:ah):DV p=(u7 p).bind λr=>if(!r)then O (.inl ())else O (.inr ()):=by
 unfold DV Mc Md Me Mf u7;simp only[qeL,hN,pd,nn,xi,Q5];by_cases b:p.Op=3;.cases a:ck p.Name<;>cases(p.Name==([118]:ae))<;>simp[b,a]
 by_cases c:p.Op=4;.cases a:ck p.Name<;>cases(p.Name==([116,97,103]:ae))<;>cases(p.Name==([118,97,108]:ae))<;>simp[c,a]
 by_cases d:p.Op=5;.cases a:ck p.Name<;>simp[d,a]
 .simp[b,c,d]
def qCM(p:ah):Mg p=AW p:=rfl
def qCI(p:ah):DS p=O (Y (p.Op<1)||decide (p.Op>18)):=by unfold DS;cases Y (p.Op<1)<;>rfl
def qjh(p:ah):∃b,u7 p=O b:=by let⟨b,e,_⟩:=Tl p;exact⟨b,e⟩
def qpc(p:ah):Rl p=AT p:=by
 let⟨l,m,d,e⟩:=qo7 p.Op p.Kids.length;let⟨c,b⟩:=qjh p;have a:=qCL p;rw[b]at a;unfold Rl AT;rw[qCI,qA7,d];simp only[hN];rw[qA8,qCJ p l m e,qCK,a,b,qCM];simp only[hN];cases(Y (p.Op<1)||decide (p.Op>18))
 .cases XI p;.cases c<;>rfl
  .rfl
 .rfl
def qiw(r s:Int):K×Int:=if(r !=0)then(Z,r)else(T,s)
def ql5(R:ah->Q Int)(l:List ah)(y:l.length<9223372036854775808)(w:∀x∈l,∃r,R x=O r/\∀s,qcW eP x s=O (qiw r s)):jV (AP R l (l.length:Int) 0) (λo=>o.elim (λr=>(r !=0)=T/\∀s,KU eP l s=O (Z,r)) (λ_=>∀s,KU eP l s=O (T,s))):=by
 unfold AP;have m:∀k i,k+i=l.length->jV (loop (λn=>jQ R l (l.length:Int) n) (i:Int)) (λo=>o.elim (λr=>(r !=0)=T/\∀s,KU eP (l.drop i) s=O (Z,r)) (λ_=>∀s,KU eP (l.drop i) s=O (T,s))):=by
  intro k;induction k with
  | zero =>
   intro i h;have h:i=l.length:=by omega
   subst h;have d:(λn=>jQ R l (l.length:Int) n) ((l.length:Nat):Int)=O (.inr (.inr ())):=by show jQ R l (l.length:Int) (l.length:Int)=_;unfold jQ;rw[hG (by simp)]
   rw[dW d];exact av (λs=>by rw[vbP,KU])
  | succ k ihk =>
   intro i h;have a:i<l.length:=by omega
   let⟨r,e,t⟩:=w _ (m4 a);rw[ls];have d:jQ R l (l.length:Int) (i:Int)=if(r !=0)then O (.inr (.inl r))else O (.inl (cz ((i:Int)+1))):=by unfold jQ;rw[hU (tr (by omega)),aC _ i a];simp only[hN];rw[e];rfl
   rw[d];have p:=vaD a;by_cases c:(r !=0)=T;.rw[hU c];refine av ⟨c,λs=>?_⟩;rw[p,KU,t s];unfold qiw;rw[hU c];rfl
   .rw[hG c];simp only;rw[dj (by omega) (by omega),show((i:Int)+1)=((i+1:Nat):Int) by omega];have q:∀s,KU eP (l.drop i) s=KU eP (l.drop (i+1)) s:=λs=>by rw[p,KU,t s];unfold qiw;rw[hG c];rfl
    refine(ihk (i+1) (by omega)).mono λo b=>?_;cases o with|inl r'=>have b:(r' !=0)=T/\∀s,KU eP (l.drop (i+1)) s=O (Z,r'):=b;exact⟨b.1,λs=>by rw[q];exact b.2 s⟩|inr _=>have b:∀s,KU eP (l.drop (i+1)) s=O (T,s):=b;exact λs=>by rw[q];exact b s
 exact m l.length 0 (by omega)
def qjt(p:ah)(h:nP p<=dm):jV (Uf p) (λr=>∀s,qcW eP p s=O (qiw r s)):=by
 refine Gs (F:=K8) nP (λx=>nP x<=dm) (λx r=>∀s,qcW eP x s=O (qiw r s)) (λR x w z=>?_) p h (lP h);show jV (zk (λt=>R t) x) _;have A:=JW x;unfold dm at w;let⟨c,d,_⟩:=qjJ x;unfold zk;rw[d];simp only[hN];have i:∀s,eP s x=O (if(c !=0)then(Z,c)else(T,s)):=λs=>by unfold eP;rw[qpc,d];simp only[hN];split<;>rfl
 by_cases a:(c !=0)=T;.rw[hU a];refine av λs=>?_;rw[qg6,i,hU a];unfold qiw;rw[hU a];rfl
 .rw[hG a];have m:∀s,qcW eP x s=KU eP x.Kids s:=λs=>by rw[qg6,i,hG a];simp only[hN];rw[hU (by omega)]
  refine aG (ql5 (λt=>R t) x.Kids (by omega) (λy n=>z _ (B9 n) (by have:=B9 n;unfold dm;omega))) λo e=>?_;cases o with
  |inl r=>obtain⟨q,b⟩:(r !=0)=T/\∀s,KU eP x.Kids s=O (Z,r):=e;exact av λs=>by rw[m,b];unfold qiw;rw[hU q]
  |inr _=>have b:∀s,KU eP x.Kids s=O (T,s):=e;exact av λs=>by rw[m,b];rfl
def qmP(p:ah):zL p=vQ p:=by have h:L5=Hf:=rfl;unfold zL vQ;rw[h]
def qmH(p:ah):zK p=Ju p:=by have h:L4=Hd:=rfl;unfold zK Ju;rw[h]
def qmx(p:ah)(a:nP p<=dm):zJ p=rM p:=by
 let⟨r,e,c⟩:=qjt p a;unfold zJ rM;rw[qmP,qb4 p a,qmH,qhK p a,e,c 0];simp only[hN];split;.rfl
 split;.rfl
 unfold qiw;by_cases b:(r !=0)=T;.rw[hU b];rfl
 .rw[hG b];have:r=0:=by simpa using b
  rw[this];rfl
def jA(p:ah):dc (ag p)=1+(p.Name.length+1+(1+(bC (p.Kids.map ag)+1+0))):=by rw[bP];simp only[dc,pm,sl]
def Xu{α:Type}(c:α->List U)(h:∀x,1<=dc (c x)):∀(l:List α),l.length<=bC (l.map c)
 |[]=>by simp
 |x::l=>by have:=Xu c h l;have:=h x;simp only[ox,bC,vz];omega
def qpa(t:am):1<=dc (al t):=by rw[Qq];omega
def qee(e:aj):(⟨e.Op,e.Name,e.N,e.Kids,e.Params,e.Alts,e.Types⟩:aj)=e:=by let⟨o,n,k,ks,b,a,ts⟩:=e;rfl
mutual
def nE:aj->Nat|⟨_,_,_,ks,ps,as1,ts⟩=>qkR ks+qbU as1+ps.length+ts.length+1
def nA:cH->Nat|⟨_,ns,b⟩=>ns.length+nE b+1
def qkR:List aj->Nat|[]=>0|e::l=>nE e+qkR l
def qbU:List cH->Nat|[]=>0|a::l=>nA a+qbU l
end
def Qh(e:aj):nE e=qkR e.Kids+qbU e.Alts+e.Params.length+e.Types.length+1:=by let⟨o,n,k,ks,b,a,ts⟩:=e;rw[nE];rfl
def qim(a:cH):nA a=a.Names.length+nE a.Body+1:=by let⟨c,d,b⟩:=a;rw[nA];rfl
def qgu(e:aj):1<=nE e:=by rw[Qh];omega
def qkS:∀{l:List aj}{x:aj},x∈l->nE x<=qkR l
 | y :: l,x,h => by
  rw[qkR];rcases oL.1 h with rfl|h;.omega
  .have:=qkS h;omega
def qgs:∀{l:List cH}{x:cH},x∈l->nA x<=qbU l
 | y :: l,x,h => by
  rw[qbU];rcases oL.1 h with rfl|h;.omega
  .have:=qgs h;omega
def qgt:∀(l:List aj),l.length<=qkR l
 |[]=>by simp[qkR]
 |p::l=>by rw[qkR];have:=qgt l;have:=qgu p;simp only[vz];omega
def Z3:∀(l:List cH),l.length<=qbU l
 |[]=>by simp[qbU]
 |p::l=>by rw[qbU];have:=Z3 l;have:=qim p;simp only[vz];omega
def DO{e x:aj}(h:x∈e.Kids):nE x<nE e:=by rw[Qh e];have:=qkS h;omega
def QU{e:aj}{x:cH}(h:x∈e.Alts):nE x.Body<nE e:=by rw[Qh e];have:=qgs h;have:=qim x;omega
def zD(e:aj):e.Kids.length<nE e:=by rw[Qh];have:=qgt e.Kids;omega
def oZ(e:aj):e.Alts.length<nE e:=by rw[Qh];have:=Z3 e.Alts;omega
def lu(e:aj):e.Params.length<nE e:=by rw[Qh];omega
def z8(e:aj):e.Types.length<nE e:=by rw[Qh];omega
def WR{e:aj}{x:cH}(h:x∈e.Alts):x.Names.length<nE e:=by rw[Qh];have:=qgs h;have:=qim x;omega
def bM(e:aj):V aj:=e.Kids++e.Alts.map (·.Body)
def QY{e x:aj}(h:x∈bM e):nE x<nE e:=by
 rcases vaQ.1 h with h|h;.exact DO h
 .obtain⟨a,b,rfl⟩:=m8.1 h;exact QU b
def qg4:∀(l:List aj)(m:List cH),((l++m.map (·.Body)).map nE).sum<=qkR l+qbU m
 |[],[]=>by simp
 |[],a::m=>by have:=qg4 [] m;have:=qim a;simp only[qkR,qbU,va6,ox,List.sum_cons]at *;omega
 |x::l,m=>by have:=qg4 l m;simp only[qkR,vaN,ox,List.sum_cons]at *;omega
def HD(e:aj):(bM e).length<nE e:=by rw[Qh];have:=qgt e.Kids;have:=Z3 e.Alts;simp only[bM,m3,vbJ];omega
def qog{Q:aj->Prop}(h:∀e,(∀x∈bM e,Q x)->Q e):∀e,Q e:=by
 have a:∀(n:Nat)(e:aj),nE e<=n->Q e:=by intro n;induction n with|zero=>intro e b;have:=qgu e;omega|succ n ih=>exact λe b=>h e λx c=>ih x (by have:=QY c;omega)
 exact λe=>a _ e (m7 _)
mutual
def dy:aj->List aj|⟨o,n,k,ks,ps,as1,ts⟩=>⟨o,n,k,ks,ps,as1,ts⟩::(qb3 ks++qb2 as1)
def qjK:cH->List aj|⟨_,_,b⟩=>dy b
def qb3:List aj->List aj|[]=>[]|e::l=>dy e++qb3 l
def qb2:List cH->List aj|[]=>[]|a::l=>qjK a++qb2 l
end
def Yk:∀(l:List aj),qb3 l=l.flatMap dy
 |[]=>by rw[qb3];rfl
 |e::l=>by rw[qb3,Yk l];rfl
def qmn(a:cH):qjK a=dy a.Body:=by let⟨c,d,b⟩:=a;rw[qjK];rfl
def Yj:∀(l:List cH),qb2 l=(l.map (·.Body)).flatMap dy
 |[]=>by rw[qb2];rfl
 |a::l=>by rw[qb2,Yj l,qmn];rfl
def zG(e:aj):dy e=e::(bM e).flatMap dy:=by let⟨o,n,k,ks,b,a,ts⟩:=e;rw[dy,Yk,Yj,bM,vcY];rfl
def qkW:∀(e:aj),(dy e).length<=nE e:=by
 refine qog λe h=>?_;rw[zG,vz,vcZ];have i:=qg4 e.Kids e.Alts;have m:((bM e).map λx=>(dy x).length).sum<=((bM e).map nE).sum:=by
  have:∀(l:List aj),(∀x∈l,(dy x).length<=nE x)->(l.map λx=>(dy x).length).sum<=(l.map nE).sum:=by intro l;induction l with|nil=>intro _;simp|cons x l ihl=>intro c;have a:=c x (by simp);have b:=ihl λy d=>c y (by simp[d]);simp only[ox,List.sum_cons];omega
  exact this _ h
 have n:=Qh e;unfold bM at *;omega
def qpQ(e:aj):e∈dy e:=by rw[zG];simp
mutual
def dE:aj->Nat|⟨_,_,_,ks,_,as1,_⟩=>max (Q2 ks) (quz as1)+1
def dA:cH->Nat|⟨_,_,b⟩=>dE b
def Q2:List aj->Nat|[]=>0|e::l=>max (dE e) (Q2 l)
def quz:List cH->Nat|[]=>0|a::l=>max (dA a) (quz l)
end
def qv4(a:cH):dA a=dE a.Body:=by let⟨c,d,b⟩:=a;rw[dA];rfl
def qv5(e:aj):dE e=max (Q2 e.Kids) (quz e.Alts)+1:=by let⟨o,n,k,ks,b,a,ts⟩:=e;rw[dE];rfl
def LN:∀(a b:List aj),Q2 (a++b)=max (Q2 a) (Q2 b)
 |[],b=>by simp[Q2]
 |x::a,b=>by rw[vaN,Q2,Q2,LN a b];omega
def qnW:∀(l:List cH),quz l=Q2 (l.map (·.Body))
 |[]=>by rw[quz,vcd,Q2]
 |a::l=>by rw[quz,ox,Q2,qv4,qnW l]
def WX(e:aj):dE e=Q2 (bM e)+1:=by rw[qv5,bM,LN,qnW]
def qnX{n:Nat}:∀{l:List aj},(∀x∈l,dE x<=n)->Q2 l<=n
 |[],_=>by simp[Q2]
 |x::l,h=>by have a:=h x (by simp);have b:=qnX (l:=l) λy c=>h y (by simp[c]);rw[Q2];omega
def qsc:∀(e:aj),dE e<=nE e:=by
 refine qog λe b=>?_;rw[WX];have:Q2 (bM e)<=nE e - 1:=qnX λx a=>by have:=b x a;have:=QY a;omega
 have:=qgu e;omega
def P9{X o:Type}{F:(X->Q o)->X->Q o}(μ:X->Nat)(m:X->Prop)(s:X->Q o)(h:∀(R:X->Q o) x,m x->(∀y,μ y<μ x->m y->R y=s y)->F R x=s x)(x:X)(b:m x)(d:μ x<qjf):rT F x=s x:=by
 have c:∀n x,μ x<n->m x->qc0 F n x=s x:=by intro n;induction n with|zero=>intro x b;omega|succ n ih=>intro x b e;exact h _ x e λy i a=>ih y (by omega) a
 exact c _ x d b
def Ol{α S:Type}(F:S->α->Q (K×S)):List α->S->Q (K×S)|[],s=>O (T,s)|x::l,s=>(F s x).bind λr=>match r.1 with|false=>O (Z,r.2)|true=>Ol F l r.2
def Tt{α S:Type}(F:S->α->Q (K×S)):∀(l m:List α)(s:S),Ol F (l++m) s=(Ol F l s).bind λr=>match r.1 with
  |false=>O (Z,r.2)
  |true=>Ol F m r.2
 |[],m,s=>rfl
 | x :: l,m,s => by rw[vaN,Ol,Ol];cases h:F s x with|none=>rfl|some r=>let⟨b,a⟩:=r;cases b with|false=>rfl|true=>exact Tt F l m a
def qeh{α S:Type}{F b:S->α->Q (K×S)}:∀{l:List α},(∀x∈l,∀s,F s x=b s x)->∀s,Ol F l s=Ol b l s
 |[],_,s=>rfl
 |x::l,h,s=>by rw[Ol,Ol,h x (by simp)];congr 1;funext r;rw[qeh (l:=l) λy a=>h y (by simp[a])]
def qkK{α β S:Type}(F:S->β->Q (K×S))(g:α->β):∀(l:List α)(s:S),Ol F (l.map g) s=Ol (λs x=>F s (g x)) l s
 |[],s=>rfl
 |x::l,s=>by rw[ox,Ol,Ol];congr 1;funext r;rw[qkK F g l]
def qhZ{α β S:Type}(F:S->β->Q (K×S))(g:α->List β):∀(l:List α)(s:S),Ol F (l.flatMap g) s=Ol (λs x=>Ol F (g x) s) l s
 |[],s=>rfl
 |x::l,s=>by rw[vcB,Tt,Ol];congr 1;funext r;rw[qhZ F g l]
def qkO{α S:Type}(l:List α)(q:l.length<9223372036854775808)(a:Int×S->Q ((Int×S)⊕(S⊕S)))(F:S->α->Q (K×S))
  (e:∀(i:Nat)(h:i<l.length) s,a ((i:Int),s)=(F s l[i]).bind λr=>match r.1 with|false=>O (.inr (.inl r.2))|true=>O (.inl (cz ((i:Int)+1),r.2)))
  (c:∀s,a ((l.length:Int),s)=O (.inr (.inr s))) (s:S):loop a (0,s)=(Ol F l s).bind λr=>match r.1 with|false=>O (.inl r.2)|true=>O (.inr r.2):=by
 have m:∀(k i:Nat)(s:S),i+k=l.length->loop a ((i:Int),s)=(Ol F (l.drop i) s).bind λr=>match r.1 with|false=>O (.inl r.2)|true=>O (.inr r.2):=by
  intro k;induction k with
  |zero=>
   intro i s n;have:i=l.length:=by omega
   subst this;rw[ls,c,vbP];rfl
  | succ k ih =>
   intro i s n;have d:i<l.length:=by omega
   rw[ls,e i d,vaD d,Ol];cases p:F s l[i]with|none=>rfl| some r =>let⟨b,o⟩:=r;cases b with|false=>rfl|true=>have:=ih (i+1) o (by omega);simp only[hN];rw[dj (by omega) (by omega),show((i:Int)+1)=((i+1:Nat):Int) by omega];exact this
 have:=m l.length 0 s (by omega)
 exact this
def qlv{S:Type}{F:(aj×S->Q (K×S))->aj×S->Q (K×S)}(a:S->aj->Q (K×S))
  (h:∀(R:aj×S->Q (K×S)) e s,nE e<=dm->F R (e,s)=(a s e).bind λr=>match r.1 with
   |false=>O (Z,r.2)
   |true=>Ol (λs x=>R (x,s)) (bM e) r.2) (e:aj) (s:S) (c:nE e<=dm):rT F (e,s)=Ol a (dy e) s:=by
 refine P9 (λx=>nE x.1) (λx=>nE x.1<=dm) (λx=>Ol a (dy x.1) x.2) (λR x d i=>?_) (e,s) c (lP c)
 let⟨e,s⟩:=x
 show F R (e,s)=Ol a (dy e) s
 rw[h R e s d,zG,Ol]
 congr 1
 funext r
 cases r.1 with
 |false=>rfl
 |true=>
  rw[qhZ]
  refine qeh (λx b s=>?_) r.2
  have:=QY b
  exact i (x,s) this (n3 (vbw this) d)
def qe5{S:Type}(P:S->aj->Q (K×S))(e:aj)(F:nE e<=dm)(s:S)(d m:Int×S->Q ((Int×S)⊕(S⊕S))){q t:S⊕S->Q (K×S)}
  (B:∀(i:Nat)(h:i<e.Kids.length) s,d ((i:Int),s)=(P s e.Kids[i]).bind λr=>if(!r.1)then O (.inr (.inl r.2))else O (.inl (cz ((i:Int)+1),r.2))) (n:∀s,d ((e.Kids.length:Int),s)=O (.inr (.inr s)))
  (E:∀(i:Nat)(h:i<e.Alts.length) s,m ((i:Int),s)=(P s e.Alts[i].Body).bind λr=>if(!r.1)then O (.inr (.inl r.2))else O (.inl (cz ((i:Int)+1),r.2))) (p:∀s,m ((e.Alts.length:Int),s)=O (.inr (.inr s)))
  (x:∀o,q (.inl o)=O (Z,o)) (y:∀o,q (.inr o)=(loop m (0,o)).bind t) (z:∀o,t (.inl o)=O (Z,o)) (A:∀o,t (.inr o)=O (T,o)):
  (loop d (0,s)).bind q=Ol P (bM e) s:=by
 have H:=zD e
 have L:=oZ e
 unfold dm at F
 rw[qkO e.Kids (by omega) d P (λi h s=>by rw[B i h s];congr 1;funext r;cases r.1<;>rfl) n s,bM,Tt]
 cases h:Ol P e.Kids s with
 |none=>rfl
 | some r =>
  let⟨b,w⟩:=r
  cases b with
  |false=>exact x w
  | true =>
   simp only[hN]
   rw[y,qkO e.Alts (by omega) m (λs a=>P s a.Body) (λi h s=>by rw[E i h s];congr 1;funext r;cases r.1<;>rfl) p w,qkK]
   cases h:Ol (λs a=>P s a.Body) e.Alts w with
   |none=>rfl
   |some r=>
    let⟨b,c⟩:=r
    cases b with
    |false=>exact z c
    |true=>exact A c
def qwR(p:ah):Prop:=(1<=p.Op/\p.Op<=18)/\JV p.Op (p.Kids.length:Int)=T/\(p.Op=1->qqd p.N)
mutual
def qoK:ah->Prop|⟨o,n,k,ks⟩=>qwR ⟨o,n,k,ks⟩/\qso ks
def qso:List ah->Prop|[]=>True|p::ps=>qoK p/\qso ps
end
def DQ(p:ah):qoK p↔qwR p/\qso p.Kids:=by let⟨o,n,k,ks⟩:=p;rw[qoK];exact Iff.rfl
def qgx:∀(l:List ah),qso l↔∀p∈l,qoK p
 |[]=>by simp[qso]
 |p::l=>by rw[qso,qgx l];simp
def qmm(p:ah):jV (AT p) (λr=>(r !=0)=Z->qwR p):=by
 unfold AT;rw[qA7];simp only[hN];rw[qA8];simp only[hN];refine aQ (λ_=>av (λh=>by cases h)) λd=>?_;have a:(1<=p.Op/\p.Op<=18)/\JV p.Op (p.Kids.length:Int)=true:=by simp only[XI,va5,nm,vdb,vc8,vcU,Bool.not_eq_false']at d;exact⟨by omega,d.2.2⟩
 have i:jV (qk p) (λo=>o=Z->p.Op=1->qqd p.N):=by
  unfold qk;refine aQ (λ_=>?_) λh=>?_
  .unfold K2;refine qp0 (aQ (λn=>av ?_) λ_=>av ?_)
   .refine aQ (λ_=>av λh=>by cases h) λq=>?_;have t:qqd p.N:=⟨by simpa using n,by simpa using q⟩
    repeat' first|exact av (λ_ _=>t)|refine aQ (λ_=>?_) (λ_=>?_)
   .exact aQ (λ_=>av λh=>by cases h) (λh=>absurd rfl h)
  .repeat' first|exact av (λ_ e=>absurd (by simp[e]) h)|refine aQ (λ_=>?_) (λ_=>?_)
 refine aG i λo s=>aQ (λ_=>av (λh=>by cases h)) λc=>aG (Tl p) λ_ _=>aQ (λ_=>av (λh=>by cases h)) λ_=>aG (R:=λ_=>True) ?_ λ_ _=>?_
 .unfold AW;refine aQ (λh=>?_) λ_=>av md;have m:p.Op=8:=by simpa using h
  have b:=a.2;unfold JV at b;rw[m]at b;refine fj (aC p.Kids 0 ?_) (av md);simp at b;omega
 .exact aQ (λ_=>av (λh=>by cases h)) λ_=>av λ_=>⟨a.1,a.2,s (by simpa using c)⟩
def ql4(p:ah)(d:nP p<=dm):jV (Uf p) (λr=>(r !=0)=Z->qoK p):=by
 refine Gs (F:=K8) nP (λx=>nP x<=dm) (λx r=>(r !=0)=Z->qoK x) (λR x m n=>?_) p d (lP d);show jV (zk (λt=>R t) x) _;unfold zk AP;have q:=JW x;refine aG (qmm x) λr c=>aQ (λh=>av (λa=>by rw[h]at a;cases a)) λh=>aG (nj x.Kids (by unfold dm at m;omega) _ qoK (λr=>(r !=0)=T) (λi=>rfl) (λy e i=>aG (n _ (B9 e) (by have:=B9 e;omega)) λr c=>aQ (λh=>av h) λh=>av ⟨rfl,c (by simpa using h)⟩)) λo b=>?_;cases o with
 |inl r=>have b:(r !=0)=true:=b;exact av λa=>by rw[b]at a;cases a
 |inr _=>exact av λ_=>(DQ x).2 ⟨c (by simpa using h),(qgx _).2 b⟩
def qi9(p:ah)(a:nP p<=dm):jV (rM p) (λr=>(r !=0)=Z->qoK p):=by unfold rM;exact fj (qb4 p a) (aQ (λ_=>av (λh=>by cases h)) λ_=>fj (qhK p a) (aQ (λ_=>av (λh=>by cases h)) λ_=>aG (ql4 p a) λ_ h=>av h))
def qbS(o:Int):Int:=if o=18 then 1 else if o=17 then 2 else if o=16 then 3 else if o=15 then 4 else if o=14 then 5 else if o=10\/o=11\/o=12\/o=13 then 6 else if o=6\/o=7 then 7 else if o=8 then 8 else if o=9 then 9 else 10
def qrR(o:Int):ae:=if o=18 then wo else if o=17 then yz else if o=16 then yA else if o=15 then yx else if o=10 then qe7 else if o=11 then yw else if o=12 then KW else if o=13 then yy else if o=6 then Wi else if o=7 then wn else Wh
abbrev qk5(t:ae):ae:=dl++(t++dM)
def JU(a:Int)(x:Int×ae):ae:=if x.1<a then qk5 x.2 else x.2
def GP(a:Int)(l:V (Int×ae))(i:Nat):ae:=((l[i]?).map (JU a)).getD []
def qir(n:Int):ae:=if n<0 then qk5 (Lib.itoa n)else Lib.itoa n
def Zk(l:V ae):ae:=qk5 (Lib.join l ch)
def QK(o:Int):Int×Int:=if o=17 then(3,2)else if qbS o=6 then(7,7)else(qbS o,qbS o+1)
mutual
def BN:ah->ae|⟨o,n,k,ks⟩=>if o=1 then qir k else if o=2 then(if k=1 then yB else Iw)else if o=3 then n else if o=4 then n++Zk ((qr1 ks).map (·.2))else if o=5 then qcZ++(n++Zk ((qr1 ks).map (·.2))) else if o=14 then QO++GP 5 (qr1 ks) 0 else if o=9 then wn++GP 9 (qr1 ks) 0 else GP (QK o).1 (qr1 ks) 0++(bZ++(qrR o++(bZ++GP (QK o).2 (qr1 ks) 1)))
def qr1:List ah->List (Int×ae)|[]=>[]|p::l=>(qbS p.Op,BN p)::qr1 l
end
abbrev XS(p:ah):Int×ae:=(qbS p.Op,BN p)
def qlq:∀(l:List ah),qr1 l=l.map XS
 |[]=>rfl
 |p::l=>by rw[qr1,qlq l];rfl
def qcR(p:ah):BN p=if p.Op=1 then qir p.N else if p.Op=2 then(if p.N=1 then yB else Iw)else if p.Op=3 then p.Name else if p.Op=4 then p.Name++Zk (p.Kids.map BN)else if p.Op=5 then qcZ++(p.Name++Zk (p.Kids.map BN))
  else if p.Op=14 then QO++GP 5 (p.Kids.map XS) 0 else if p.Op=9 then wn++GP 9 (p.Kids.map XS) 0 else GP (QK p.Op).1 (p.Kids.map XS) 0++(bZ++(qrR p.Op++(bZ++GP (QK p.Op).2 (p.Kids.map XS) 1))):=by
 let⟨o,n,k,ks⟩:=p
 rw[BN,qlq,vb2]
 rfl
def qbG(l:Int)(x:Int×ae):(JU l x).length<=x.2.length+2:=by
 unfold JU;split;.simp[qk5,dl,dM]
 .omega
def qbE(l:List ae):(Lib.join l ch).length<=(l.map λs=>s.length+2).sum:=by
 cases l with
 |nil=>simp[Lib.join_nil]
 | cons x r =>
  rw[Lib.join_cons,m3,Lib.joinTail_length];have:∀r:List ae,(r.map λs=>s.length+2).sum=2 * r.length+Lib.lens r:=by
   intro r;induction r with
   |nil=>rfl
   |cons y r ih=>
    rw[ox,List.sum_cons,ih];show _=_+(y.length+Lib.lens r)
    simp only[vz];omega
  have h:=this r;simp only[ox,List.sum_cons,show ch.length=2 from rfl];omega
def qrS(o:Int):(qrR o).length<=3:=by unfold qrR;repeat' first|decide|split
def qh6(n:Int)(h:qqd n):(qir n).length<=23:=by
 unfold qir;have:=qok h;split;.simp[qk5,dl,dM];omega
 .omega
def qix(a b:Int)(l:V (Int×ae)):(GP a l 0).length+(GP b l 1).length<=(l.map λx=>x.2.length+2).sum:=by
 unfold GP;rcases l with _|⟨x,_|⟨y,r⟩⟩;.simp
 .have:=qbG a x;simp;omega
 .have:=qbG a x;have:=qbG b y;simp only[List.getElem?_cons_zero,List.getElem?_cons_succ,oo,Option.getD_some,ox,List.sum_cons];omega
def qk1(a:Int)(l:V (Int×ae)):(GP a l 0).length<=(l.map λx=>x.2.length+2).sum:=by have:=qix a 0 l;omega
mutual
def qg5:∀(p:ah),qoK p->(BN p).length+8<=40 * dc (ag p)
 | ⟨o,n,k,ks⟩,h => by
  have i:=qad ks ((DQ _).1 h).2;have t:=((DQ _).1 h).1;have y:dc (ag ⟨o,n,k,ks⟩)=1+(n.length+1+(1+(bC (ks.map ag)+1+0))):=jA ⟨o,n,k,ks⟩
  have e:BN ⟨o,n,k,ks⟩=if o=1 then qir k else if o=2 then(if k=1 then yB else Iw)else if o=3 then n else if o=4 then n++Zk (ks.map BN)else if o=5 then qcZ++(n++Zk (ks.map BN))
    else if o=14 then QO++GP 5 (ks.map XS) 0 else if o=9 then wn++GP 9 (ks.map XS) 0 else GP (QK o).1 (ks.map XS) 0++(bZ++(qrR o++(bZ++GP (QK o).2 (ks.map XS) 1))):=qcR ⟨o,n,k,ks⟩
  rw[e];have d:=qbE (ks.map BN);rw[vb2]at d;have a:=qix (QK o).1 (QK o).2 (ks.map XS);have b:=qk1 5 (ks.map XS);have c:=qk1 9 (ks.map XS);rw[vb2]at a b c;have m:((λx:Int×ae=>x.2.length+2)∘XS)=λp=>(BN p).length+2:=rfl;have q:((λs:ae=>s.length+2)∘BN)=λp=>(BN p).length+2:=rfl;rw[m]at a b c;rw[q]at d;have i:(ks.map λp=>(BN p).length+2).sum<=40 * bC (ks.map ag):=i;have w:=qrS o;split;.rename_i r;have:=qh6 k (t.2.2 r);omega
  split;.split<;>simp only[yB,Iw,vz,List.length_nil]<;>omega
  split;.omega
  split;.simp only[Zk,qk5,m3,show dl.length=1 from rfl,show dM.length=1 from rfl];omega
  split;.simp only[Zk,qk5,m3,show dl.length=1 from rfl,show dM.length=1 from rfl,show qcZ.length=1 from rfl];omega
  split;.simp only[m3,show QO.length=1 from rfl];omega
  split;.simp only[m3,show wn.length=1 from rfl];omega
  .simp only[m3,show bZ.length=1 from rfl];omega
def qad:∀(l:List ah),qso l->(l.map (λp=>(BN p).length+2)).sum<=40 * bC (l.map ag)
 |[],_=>by simp
 |p::l,h=>by rw[qso]at h;have a:=qg5 p h.1;have b:=qad l h.2;simp only[ox,List.sum_cons,bC];omega
end
def qh7{l:V ae}{s:ae}(a:l.length<=1073741824)(b:(Lib.join l s).length<=1073741824):qel l s=O (Lib.join l s):=by unfold qel;rw[hU ⟨a,b⟩]
def qem:∀(l:List ae),Lib.join l []=l.flatten
 |[]=>rfl
 |x::r=>by rw[Lib.join_cons];unfold Lib.joinTail;simp
def vY{l:V ae}(a:l.length<=1073741824)(b:l.flatten.length<=1073741824):eN l=O l.flatten:=by unfold eN;rw[qh7 a (by rw[qem];exact b),qem];rfl
def qki(o:Int):K:=o==6||o==7||o==8||o==10||o==11||o==12||o==13||o==15||o==16||o==17||o==18
def qn8(o:Int)(h:1<=o/\o<=18):xv o=O (if qki o then⟨qbS o,(QK o).1,(QK o).2,qrR o⟩else⟨0,0,0,[]⟩,qki o):=by
 have:o=1\/o=2\/o=3\/o=4\/o=5\/o=6\/o=7\/o=8\/o=9\/o=10\/o=11\/o=12\/o=13\/o=14\/o=15\/o=16\/o=17\/o=18:=by omega
 rcases this with rfl|rfl|rfl|rfl|rfl|rfl|rfl|rfl|rfl|rfl|rfl|rfl|rfl|rfl|rfl|rfl|rfl|rfl<;>rfl
def qoq(p:ah)(h:1<=p.Op/\p.Op<=18):FP p=O (qbS p.Op):=by
 let⟨o,n,k,ks⟩:=p;have:o=1\/o=2\/o=3\/o=4\/o=5\/o=6\/o=7\/o=8\/o=9\/o=10\/o=11\/o=12\/o=13\/o=14\/o=15\/o=16\/o=17\/o=18:=by have h:1<=o/\o<=18:=h;omega
 rcases this with rfl|rfl|rfl|rfl|rfl|rfl|rfl|rfl|rfl|rfl|rfl|rfl|rfl|rfl|rfl|rfl|rfl|rfl<;>rfl
def qeR(p:ah)(h:1<=p.Op/\p.Op<=18):QP p=O (qbS p.Op):=by
 let⟨o,n,k,ks⟩:=p;have:o=1\/o=2\/o=3\/o=4\/o=5\/o=6\/o=7\/o=8\/o=9\/o=10\/o=11\/o=12\/o=13\/o=14\/o=15\/o=16\/o=17\/o=18:=by have h:1<=o/\o<=18:=h;omega
 rcases this with rfl|rfl|rfl|rfl|rfl|rfl|rfl|rfl|rfl|rfl|rfl|rfl|rfl|rfl|rfl|rfl|rfl|rfl<;>rfl
def qpJ(o:Int)(h:qki o=T):qaI o=O (qrR o):=by
 have:o=6\/o=7\/o=8\/o=10\/o=11\/o=12\/o=13\/o=15\/o=16\/o=17\/o=18:=by simpa[qki,or_assoc]using h
 rcases this with rfl|rfl|rfl|rfl|rfl|rfl|rfl|rfl|rfl|rfl|rfl<;>rfl
def qgo(o:Int):1<=qbS o:=by unfold qbS;repeat' first|omega|split
def qrp(p:ah):JU 1 (XS p)=BN p:=by unfold JU;rw[hG (by have:=qgo p.Op;simp only[XS];omega)]
abbrev qpU(p:ah):Prop:=qoK p/\dc (ag p)<=16777216
def qg1{p x:ah}(h:qpU p)(a:x∈p.Kids):qpU x:=by refine⟨(qgx _).1 ((DQ p).1 h.1).2 x a,?_⟩;have b:=jA p;have c:=Ka (m8.2 ⟨x,a,rfl⟩:ag x∈p.Kids.map ag);have:=h.2;omega
def qg2{p:ah}(h:qpU p):(BN p).length<=671088640:=by have:=qg5 p h.1;have:=h.2;omega
def Rp{p:ah}(h:qpU p):(Lib.join (p.Kids.map BN) ch).length<=671088640/\p.Kids.length<=16777216:=by have a:=qbE (p.Kids.map BN);rw[vb2]at a;have b:(p.Kids.map λp=>(BN p).length+2).sum<=_:=qad p.Kids ((DQ p).1 h.1).2;have a:(Lib.join (p.Kids.map BN) ch).length<=(p.Kids.map λp=>(BN p).length+2).sum:=a;have c:=jA p;have d:=h.2;have e:=qsk p.Kids;omega
def qol{p:ah}(h:qwR p)(d:qki p.Op=T):∃a b,p.Kids=[a,b]:=by
 have c:=h.2.1;have:p.Op=6\/p.Op=7\/p.Op=8\/p.Op=10\/p.Op=11\/p.Op=12\/p.Op=13\/p.Op=15\/p.Op=16\/p.Op=17\/p.Op=18:=by simpa[qki,or_assoc]using d
 unfold JV at c;rw[hG (by omega),hG (by omega),hG (by omega)]at c;have e:p.Kids.length=2:=by
  have:(p.Kids.length:Int)=2:=by simpa using c
  omega
 match h:p.Kids,e with|[a,b],_=>exact⟨a,b,rfl⟩
def qgi{p:ah}(h:qwR p)(c:p.Op=9\/p.Op=14):∃a,p.Kids=[a]:=by
 have b:=h.2.1;unfold JV at b;rw[hG (by omega),hG (by omega),hU c]at b;have d:p.Kids.length=1:=by
  have:(p.Kids.length:Int)=1:=by simpa using b
  omega
 match h:p.Kids,d with|[a],_=>exact⟨a,rfl⟩
def qkX{o:Int}(h:1<=o/\o<=18)(a:qki o=Z):o=1\/o=2\/o=3\/o=4\/o=5\/o=14\/o=9:=by
 have:¬(o=6\/o=7\/o=8\/o=10\/o=11\/o=12\/o=13\/o=15\/o=16\/o=17\/o=18):=λh=>by
  have:qki o=true:=by simpa[qki,or_assoc]using h
  rw[this]at a;cases a
 omega
def qkj{o:Int}(a:qki o=T):o≠1/\o≠2/\o≠3/\o≠4/\o≠5/\o≠14/\o≠9:=by
 have:o=6\/o=7\/o=8\/o=10\/o=11\/o=12\/o=13\/o=15\/o=16\/o=17\/o=18:=by simpa[qki,or_assoc]using a
 omega
def qlr{p a b:ah}(o:qki p.Op=T)(q:p.Kids=[a,b]):BN p=JU (QK p.Op).1 (XS a)++(bZ++(qrR p.Op++(bZ++JU (QK p.Op).2 (XS b)))):=by let⟨c,d,e,h,i,m,n⟩:=qkj o;rw[qcR,hG c,hG d,hG e,hG h,hG i,hG m,hG n,q];rfl
def qiH(R:ah->Int->Q ae)(l:V ah)(m:l.length<=16777216)(e:∀x∈l,R x 1=O (BN x))(h:(Lib.join (l.map BN) ch).length<=671088640):oJ R l=O (Zk (l.map BN)):=by
 unfold oJ;have d:vF R l (l.length:Int) ([]:V ae) 0=O (l.map BN):=by
  unfold vF;have b:=fa l.length (λc:V ae×Int=>iI R l (l.length:Int) c.1 c.2) (λi=>((l.take i).map BN,(i:Int))) (l.map BN) (λi a=>?_) ?_;.rw[<-b];simp
  .simp only[iI];rw[hU (by simp;omega),aC _ _ a];simp only[hN];rw[e _ (m4 a)];simp only[hN];rw[qE (by simp;omega)];simp only[hN];rw[dj (by omega) (by omega),vas a,va1];rfl
  .simp only[iI];rw[hG (by simp)];simp
 rw[d];simp only[hN];rw[qh7 (by simp;omega) (by omega)];simp only[hN];rw[vY (by simp) (by simp[dl,dM];omega)];simp[Zk,qk5]
def qoU(p:ah)(l:Int)(h:qpU p):Ci p l=O (JU l (XS p)):=by
 have E:∀p:ah,qpU p->nP p<=16777216:=λp h=>n3 (qbW p) h.2;refine P9 (F:=xu) (λx=>2 * nP x.1+if qbS x.1.Op<x.2 then 1 else 0) (λx=>qpU x.1) (λx=>O (JU x.2 (XS x.1))) (λR x n B=>?_) (p,l) h (by
  have:=E p h;unfold qjf;simp only[];split<;>omega)
 let⟨p,l⟩:=x;show p7 (λp r=>R (p,r)) p l=O (JU l (XS p));have n:qpU p:=n;have q:=((DQ p).1 n.1).1;have d:=qg2 n;have s:∀x∈p.Kids,∀l,R (x,l)=O (JU l (XS x)):=λx e l=>B (x,l) (by
  have:=B9 e;simp only[];split<;>split<;>omega) (qg1 n e)
 unfold p7;rw[qoq p q.1];simp only[hN];by_cases i:qbS p.Op<l
 .rw[hU (by simpa using i)];have c:=B (p,1) (by
   have:=qgo p.Op;simp only[];rw[hG (by omega),hU i];omega) n
  have c:R (p,1)=O (JU 1 (XS p)):=c;rw[c,qrp];simp only[hN];rw[vY (by simp) (by simp[dl,dM];omega)];simp[JU,i,qk5]
 rw[hG (by simpa using i),qn8 _ q.1];simp only[hN];have w:JU l (XS p)=BN p:=by unfold JU;rw[hG i]
 rw[w];cases t:qki p.Op with
 |true=>let⟨a,b,m⟩:=qol q t;have A:=qlr t m;rw[hU rfl,hU rfl,m,dI];simp only[hN];have z:=aC [a,b] 1 (by simp);rw[show((1:Nat):Int)=1 from rfl]at z;rw[s a (by rw[m];simp),z];simp only[hN,List.getElem_cons_succ,List.getElem_cons_zero];rw[s b (by rw[m];simp)];simp only[hN];rw[A]at d;rw[vY (by simp) (by simp only[List.flatten_cons,List.flatten_nil,vh];exact n3 d (by omega)),A];simp
 | false =>
  rw[hG (by simp)];rw[qcR]at d ⊢;rcases qkX q.1 t with c|c|c|c|c|c|c
  .rw[hU (by simp[c]),hU c];have y:=q.2.2 c;have:=qok y;unfold qir;by_cases o:p.N<0;.rw[hU (by simpa using o),hU o,W1 y];simp only[hN];rw[vY (by simp) (by simp[dl,dM];omega)];simp[qk5]
   .rw[hG (by simpa using o),hG o,W1 y];rfl
  .rw[hG (by simp[c]),hU (by simp[c]),hG (by omega),hU c];by_cases o:p.N=1;.rw[hU o];unfold iq gh;rw[hU (by simpa using o)];rfl
   .rw[hG o];unfold iq gh;rw[hG (by simpa using o)];rfl
  .rw[hG (by simp[c]),hG (by simp[c]),hU (by simp[c]),hG (by omega),hG (by omega),hU c]
  .rw[hG (by simp[c]),hG (by simp[c]),hG (by simp[c]),hU (by simp[c]),hG (by omega),hG (by omega),hG (by omega),hU c];rw[hG (by omega),hG (by omega),hG (by omega),hU c]at d;rw[qiH _ _ (Rp n).2 (λx e=>by rw[s x e 1,qrp]) (Rp n).1];simp only[hN];rw[vY (by simp) (by simpa using(n3 d (by omega):_<=1073741824))];simp
  .rw[hG (by simp[c]),hG (by simp[c]),hG (by simp[c]),hG (by simp[c]),hU (by simp[c]),hG (by omega),hG (by omega),hG (by omega),hG (by omega),hU c];rw[hG (by omega),hG (by omega),hG (by omega),hG (by omega),hU c]at d;rw[qiH _ _ (Rp n).2 (λx e=>by rw[s x e 1,qrp]) (Rp n).1];simp only[hN];rw[vY (by simp) (by simpa using(n3 d (by omega):_<=1073741824))];simp
  .rw[hG (by simp[c]),hG (by simp[c]),hG (by simp[c]),hG (by simp[c]),hG (by simp[c]),hU (by simp[c]),hG (by omega),hG (by omega),hG (by omega),hG (by omega),hG (by omega),hU c];rw[hG (by omega),hG (by omega),hG (by omega),hG (by omega),hG (by omega),hU c]at d;let⟨a,m⟩:=qgi q (.inr c);rw[m]at d ⊢;rw[dI];simp only[hN];rw[s a (by rw[m];simp)];simp only[hN];rw[vY (by simp) (by simpa[GP]using(n3 d (by omega):_<=1073741824))];simp[GP]
  .rw[hG (by simp[c]),hG (by simp[c]),hG (by simp[c]),hG (by simp[c]),hG (by simp[c]),hG (by simp[c]),hG (by omega),hG (by omega),hG (by omega),hG (by omega),hG (by omega),hG (by omega),hU c];rw[hG (by omega),hG (by omega),hG (by omega),hG (by omega),hG (by omega),hG (by omega),hU c]at d;let⟨a,m⟩:=qgi q (.inl c);rw[m]at d ⊢;rw[dI];simp only[hN];rw[s a (by rw[m];simp)];simp only[hN];rw[vY (by simp) (by simpa[GP]using(n3 d (by omega):_<=1073741824))];simp[GP]
def qmd(l:List ae)(x s:ae):Lib.join (l++[x]) s=if l=[]then x else Lib.join l s++(s++x):=by cases l with|nil=>rw[hU rfl];exact Lib.join_one x s|cons y r=>rw[hG (by simp),vaN,Lib.join_cons,Lib.join_cons];unfold Lib.joinTail;simp
def qiR(R:ah->Q ae)(l:List ah)(z:l.length<=16777216)(q:∀x∈l,R x=O (BN x))(s:(l.map λp=>(BN p).length+2).sum<=671088640):O0 R l=O (Zk (l.map BN)):=by
 unfold O0
 have b:∀i,((l.take i).map λp=>(BN p).length+2).sum<=671088640:=λi=>by
  refine n3 ?_ s;conv=>rhs;rw[<-vbd i l,va1,vbW]
  omega
 have d:∀i,(Lib.join ((l.take i).map BN) ch).length<=671088640:=λi=>by have:=qbE ((l.take i).map BN);rw[vb2]at this;exact n3 this (b i)
 have e:∀i (a:i<l.length),(BN l[i]).length<=671088640:=λi a=>by have:=b (i+1);rw[vas a,va1,vbW]at this;simp at this;omega
 have o:O1 R l dl 0=O (dl++Lib.join (l.map BN) ch):=by
  unfold O1;have h:=fa l.length (λm:ae×Int=>tM R l m.1 m.2) (λi=>(dl++Lib.join ((l.take i).map BN) ch,(i:Int))) (dl++Lib.join (l.map BN) ch) (λi a=>?_) ?_;.rw[<-h];simp[Lib.join_nil]
  .simp only[tM];rw[hU (by simp;omega)];have t:=d i;have w:=e i a;have n:Hh (dl++Lib.join ((l.take i).map BN) ch) (i:Int)=O (dl++(Lib.join ((l.take i).map BN) ch++(if i=0 then[]else ch))):=by
    unfold Hh;by_cases c:i=0;.subst c;rfl
    .rw[hU (by simp;omega),iH (by simp only[m3,show dl.length=1 from rfl,show ch.length=2 from rfl];omega),hG c];simp
   rw[n];simp only[hN];rw[aC _ _ a];simp only[hN];rw[q _ (m4 a)];simp only[hN];rw[iH (by split<;>simp only[m3,List.length_nil,show dl.length=1 from rfl,show ch.length=2 from rfl]<;>omega)];simp only[hN];rw[dj (by omega) (by omega),vas a,va1,ox,vcd,qmd];refine mx O (mx Sum.inl (Prod.ext ?_ (by show(i:Int)+1=((i+1:Nat):Int);omega)));show dl++(Lib.join ((l.take i).map BN) ch++(if i=0 then[]else ch))++BN l[i]=_;by_cases c:i=0;.subst c;simp[Lib.join_nil]
   .rw[hG c,hG (by cases l with
     |nil=>simp at a
     |cons y r=>cases i with
      |zero=>omega
      |succ i=>simp)]
    simp
  .simp only[tM];rw[hG (by simp)];simp
 rw[o];simp only[hN];have:=d l.length;rw[vaY]at this;rw[iH (by simp[dl,dM];omega)];simp[Zk,qk5]
def qrM(R:ah->Q ae)(p:ah)(l:Int)(h:qpU p)(b:R p=O (BN p)):Ae R p l=O (JU l (XS p)):=by
 have d:=((DQ p).1 h.1).1;have c:=qg2 h;unfold Ae JU;rw[qeR p d.1];simp only[hN];by_cases a:qbS p.Op<l;.rw[hU (by simpa using a),hU a,b];simp only[hN];rw[iH (by simp[dl];omega)];simp only[hN];rw[iH (by simp[dl,dM];omega)];simp[qk5]
 .rw[hG (by simpa using a),hG a,b];rfl
def qpK(p:ah)(h:qpU p):qaJ p=O (BN p):=by
 have hm:nP p<=16777216:=n3 (qbW p) h.2;refine P9 (F:=S3) nP qpU (λx=>O (BN x)) (λR p q ih=>?_) p h (by unfold qjf;omega);show K9 (λp=>R p) p=O (BN p);have w:=((DQ p).1 q.1).1;have c:=qg2 q;have L:∀x∈p.Kids,R x=O (BN x):=λx i=>ih x (B9 i) (qg1 q i);have s:∀x∈p.Kids,∀l,Ae (λp=>R p) x l=O (JU l (XS x)):=λx i l=>qrM _ x l (qg1 q i) (L x i);have hj:(p.Kids.map λp=>(BN p).length+2).sum<=671088640:=by have h2:(p.Kids.map λp=>(BN p).length+2).sum<=_:=qad p.Kids ((DQ p).1 q.1).2;have h3:=jA p;have h4:=q.2;omega
 unfold K9;rw[qeR p w.1];simp only[hN];cases y:qki p.Op with
 | true =>
  let⟨a,b,m⟩:=qol w y;have S:=qlr y m;let⟨d,h2,h3,h4,h5,o,h7⟩:=qkj y;rw[hG (by simpa using d),hG (by simpa using h2),hG (by simpa using h3),hG (by simpa using h4),hG (by simpa using h5),hG (by simpa using o),hG (by simpa using h7)];rw[S]at c;simp only[m3]at c;have A:=aC [a,b] 1 (by simp);rw[show((1:Nat):Int)=1 from rfl]at A;have hw:cz (qbS p.Op+1)=qbS p.Op+1:=by
   have h9:qbS p.Op<=10:=by unfold qbS;repeat' first|omega|split
   have:=qgo p.Op;exact dj (by omega) (by omega)
  rw[hw,m,dI];simp only[hN];rw[A];simp only[hN,List.getElem_cons_succ,List.getElem_cons_zero];have t:a∈p.Kids:=by rw[m];simp
  have z:b∈p.Kids:=by rw[m];simp
  by_cases e:p.Op=17
  .rw[hU (by simpa using e)];have P:qbS p.Op=2:=by rw[e];rfl
   have E:QK p.Op=(3,2):=by rw[e];rfl
   have B:qrR p.Op=yz:=by rw[e];rfl
   rw[E,B]at c;have c:(JU 3 (XS a)).length+(bZ.length+(yz.length+(bZ.length+(JU 2 (XS b)).length)))<=671088640:=c;rw[P,s a t,show((2:Int)+1)=3 from rfl];simp only[hN];rw[iH (by simp[yt];omega)];simp only[hN];rw[s b z];simp only[hN];rw[iH (by simp[yt];omega),S,E,B];simp[yt,bZ,yz]
  .rw[hG (by simpa using e)];have hJ:Hi (qbS p.Op)=O (QK p.Op).1:=by
    unfold Hi QK;rw[hG e];by_cases o:qbS p.Op=6;.rw[hU (by simpa using o),hU o]
    .rw[hG (by simpa using o),hG o]
   have H:(QK p.Op).2=qbS p.Op+1:=by
    unfold QK;rw[hG e];split;.rename_i o;rw[o];rfl
    .rfl
   rw[hJ];simp only[hN];rw[s a t];simp only[hN];rw[iH (by simp[bZ];omega)];simp only[hN];rw[qpJ _ y];simp only[hN];rw[iH (by simp[bZ];simp[bZ]at c;omega)];simp only[hN];rw[iH (by simp[bZ];simp[bZ]at c;omega)];simp only[hN];rw[s b z,<-H];simp only[hN];rw[iH (by simp[bZ];simp[bZ]at c;omega),S];simp
 | false =>
  rw[qcR]at c ⊢;rcases qkX w.1 y with d|d|d|d|d|d|d
  .rw[hU (by simp[d]),hU d];have X:=w.2.2 d;have:=qok X;unfold qir;by_cases n:p.N<0;.rw[hU (by simpa using n),hU n,VT X];simp only[hN];rw[iH (by simp[dl];omega)];simp only[hN];rw[iH (by simp[dl,dM];omega)];simp[qk5]
   .rw[hG (by simpa using n),hG n,VT X];rfl
  .rw[hG (by simp[d]),hU (by simp[d]),hG (show ¬p.Op=1 by omega),hU d];by_cases n:p.N=1;.rw[hU n,hU (by simpa using n)]
   .rw[hG n,hG (by simpa using n)]
  .rw[hG (by simp[d]),hG (by simp[d]),hU (by simp[d]),hG (by omega),hG (by omega),hU d]
  .rw[hG (by simp[d]),hG (by simp[d]),hG (by simp[d]),hU (by simp[d]),hG (by omega),hG (by omega),hG (by omega),hU d];rw[hG (by omega),hG (by omega),hG (by omega),hU d]at c;rw[qiR _ _ (Rp q).2 L hj];simp only[hN];rw[iH (by simp at c ⊢;omega)];rfl
  .rw[hG (by simp[d]),hG (by simp[d]),hG (by simp[d]),hG (by simp[d]),hU (by simp[d]),hG (by omega),hG (by omega),hG (by omega),hG (by omega),hU d];rw[hG (by omega),hG (by omega),hG (by omega),hG (by omega),hU d]at c;rw[iH (by simp at c ⊢;omega)];simp only[hN];rw[qiR _ _ (Rp q).2 L hj];simp only[hN];rw[iH (by simp at c ⊢;omega)];simp
  .rw[hG (by simp[d]),hG (by simp[d]),hG (by simp[d]),hG (by simp[d]),hG (by simp[d]),hU (by simp[d]),hG (by omega),hG (by omega),hG (by omega),hG (by omega),hG (by omega),hU d];rw[hG (by omega),hG (by omega),hG (by omega),hG (by omega),hG (by omega),hU d]at c;let⟨a,m⟩:=qgi w (.inr d);have r:qbS p.Op=5:=by rw[d];rfl
   have t:a∈p.Kids:=by rw[m];simp
   rw[m]at c ⊢;rw[dI,r];simp only[hN];rw[s a t];simp only[hN];rw[iH (by simp[GP]at c ⊢;omega)];rfl
  .rw[hG (by simp[d]),hG (by simp[d]),hG (by simp[d]),hG (by simp[d]),hG (by simp[d]),hG (by simp[d]),hU (by simp[d]),hG (by omega),hG (by omega),hG (by omega),hG (by omega),hG (by omega),hG (by omega),hU d];rw[hG (by omega),hG (by omega),hG (by omega),hG (by omega),hG (by omega),hG (by omega),hU d]at c;let⟨a,m⟩:=qgi w (.inl d);have r:qbS p.Op=9:=by rw[d];rfl
   have t:a∈p.Kids:=by rw[m];simp
   rw[m]at c ⊢;rw[dI,r];simp only[hN];rw[s a t];simp only[hN];rw[iH (by simp[GP]at c ⊢;omega)];rfl
def qds(p:ah):Int:=(rM p).getD 0
def qfS(p:ah)(h:dc (ag p)<=16777216):rM p=O (qds p)/\zJ p=O (qds p)/\(qds p=0->qoK p):=by
 have a:nP p<=dm:=n3 (qbW p) (n3 h (by unfold dm;omega));let⟨r,e,c⟩:=qi9 p a;have:qds p=r:=by unfold qds;rw[e];rfl
 exact⟨by rw[e,this],by rw[qmx p a,e,this],λb=>c (by rw[<-this,b];rfl)⟩
def Ip(p:ah):ae×Int:=if qds p=0 then(BN p,0)else([],qds p)
def qwp(p:ah)(h:dc (ag p)<=16777216):Ay p=O (Ip p):=by
 let⟨d,b,c⟩:=qfS p h;unfold Ay Ip;rw[b];simp only[hN];by_cases a:qds p=0;.rw[hG (by simp[a]),hU a,qoU p 1 ⟨c a,h⟩,qrp];rfl
 .rw[hU (by simpa using a),hG a]
def qwN(p:ah)(h:dc (ag p)<=16777216):Ug p=O (Ip p):=by
 let⟨b,d,c⟩:=qfS p h;unfold Ug Ip;rw[b];simp only[hN];by_cases a:qds p=0;.rw[hG (by simp[a]),hU a,qpK p ⟨c a,h⟩];rfl
 .rw[hU (by simpa using a),hG a]
def qe2(p:ah)(h:dc (ag p)<=16777216):(Ip p).1.length<=40 * dc (ag p):=by
 unfold Ip;split;.rename_i a;have:=qg5 p ((qfS p h).2.2 a);simp only[];omega
 .simp
abbrev Wr:=ae×K
def IQ(a:V Wr):Wr:=((a.map (·.1)).flatten,a.any (·.2))
abbrev tW(s:ae):Wr:=(s,Z)
def WU(w:Wr)(a:V Wr):IQ (w::a)=(w.1++(IQ a).1,w.2||(IQ a).2):=rfl
structure quq{ε:Type}(enc:ae->List ε):Prop where
 len:∀s,(enc s).length=s.length
 app:∀s t,enc (s++t)=enc s++enc t
def qG(s:ae):V Int:=s.map λc=>(c.toNat:Int)
def ir:quq qG:=⟨λs=>by simp[qG],λs t=>by simp[qG]⟩
def U2:quq (λs:ae=>s):=⟨λ_=>rfl,λ_ _=>rfl⟩
section
variable{ε β γ:Type}{enc:ae->V ε}
def RS(enc:ae->V ε)(mk:V ε->K->β)(k:V ε)(b:K)(a:V Wr)(o:Q β):Prop:=k.length+(IQ a).1.length<=1073741824->∃d c,o=O (mk d c)/\c=(b||(IQ a).2)/\(c=Z->d=k++enc (IQ a).1)/\d.length<=k.length+(IQ a).1.length
def RK(enc:ae->V ε)(k:V ε)(t:ae)(o:Q (V ε)):Prop:=k.length+t.length<=1073741824->o=O (k++enc t)
variable{mk:V ε->K->β}{mk':V ε->K->γ}{k:V ε}{b:K}{ws:V Wr}{w:Wr}
def RS.cast{a:V Wr}{o:Q β}(h:RS enc mk k b ws o)(e:IQ ws=IQ a):RS enc mk k b a o:=by unfold RS at *;rw[<-e];exact h
def qgV(t:quq enc){o:Q β}{f:β->Q γ}(h:RS enc mk k b [w] o)(r:∀m d,RS enc mk' m d ws (f (mk m d))):RS enc mk' k b (w::ws) (o.bind f):=by
 intro i;rw[WU]at i ⊢;simp only[m3]at i;have q:IQ [w]=w:=by simp[IQ]
 unfold RS at h;rw[q]at h;obtain⟨x,a,rfl,z,A,F⟩:=h (by omega);let⟨y,p,B,n,E,H⟩:=r x a (by omega);refine⟨y,p,B,by rw[n,z,vcF],λe=>?_,by simp only[m3];omega⟩;have s:=E e;rw[n]at e;have c:a=false:=by cases a<;>simp_all
 rw[s,A c,t.app,vbi]
def XH(a:quq enc){o:Q (V ε)}{f:V ε->Q γ}{t:ae}(h:RK enc k t o)(i:∀d,RS enc mk' d b ws (f d)):RS enc mk' k b (tW t::ws) (o.bind f):=by
 intro c;rw[WU]at c ⊢;simp only[m3]at c;rw[h (by omega)];let⟨n,e,p,q,r,s⟩:=i (k++enc t) (by simp only[m3,a.len];omega);refine⟨n,e,p,by rw[q];simp,λm=>?_,?_⟩;.rw[r m];simp only[a.app,vbi]
 .simp only[m3,a.len]at s ⊢;omega
def Yu{α:Type}{o:Q α}{a:α}{f:α->Q γ}(e:o=O a)(h:RS enc mk' k b ws (f a)):RS enc mk' k b ws (o.bind f):=by rw[e];exact h
def MG(a:quq enc):RS enc mk k b [] (O (mk k b)):=λ_=>⟨k,b,rfl,by simp[IQ],λ_=>by
 have:=a.len [];have:enc []=[]:=vaw this;simp[IQ,this],by simp[IQ]⟩
def qpH(h:(IQ ws).2=T):RS enc mk k b ws (O (mk k T)):=λ_=>⟨k,T,rfl,by rw[h];simp,(λh=>by cases h),by omega⟩
def qgU{x:K}{o:Q β}(h:RS enc mk k (b||x) ws o):RS enc mk k b (([],x)::ws) o:=by intro a;rw[WU]at a ⊢;let⟨d,c,e,i,m,n⟩:=h a;exact⟨d,c,e,by rw[i,vcF],m,n⟩
def qpI{c:K}{x y:Q β}(h:c=T->RS enc mk k b ws x)(a:c=Z->RS enc mk k b ws y):RS enc mk k b ws (if c then x else y):=by cases c with|false=>exact a rfl|true=>exact h rfl
def qpC(a:quq enc):RK enc k [] (O k):=λ_=>by have:=a.len [];have:enc []=[]:=vaw this;rw[this,vh]
def qsz{t:ae}{o:Q (V ε)}(h:RK enc k t o):RK enc k t (o.bind λr=>O r):=λa=>by rw[h a];rfl
def qnb{i n:Nat}(h:i<n):Y ((i:Int)<(n:Int))=true:=by simp;omega
def qsm(n:Nat):¬Y ((n:Int)<(n:Int))=true:=by simp
end
def qqD(k:V Int)(s:ae):RK qG k s (qns k s):=λh=>by unfold qns;rw[hU h];rfl
def qtR{k:V Int}{b:K}{s:ae}(h:k.length+s.length<=1073741824):gj s k b=O ((s.length:Int),(),k++qG s):=by unfold gj Th;simp only[hN];rw[qqD k s h];rfl
def qsp(l:V ae)(m:l.length<=100)(k:V Int)(b:K):RK qG k l.flatten (aa l k b):=λh=>by
 unfold aa Dr;have a:=fa l.length (λe:Int×V Int=>ib l (l.length:Int) b e.1 e.2) (λi=>((i:Int),k++qG (l.take i).flatten)) (k++qG l.flatten) (λi c=>?_) ?_;.rw[show((0:Int),k)=(λi:Nat=>((i:Int),k++qG (l.take i).flatten)) 0 by simp[qG],a];rfl
 .simp only[ib];rw[hU (by simp;omega),aC _ _ c];simp only[hN];have d:(l.take (i+1)).flatten.length<=l.flatten.length:=by
   conv=>rhs;rw[<-vbd (i+1) l,vb1,m3]
   omega
  rw[vas c,vb1]at d ⊢;simp only[List.flatten_cons,List.flatten_nil,vh,m3]at d ⊢;rw[qtR (by simp only[m3,ir.len];omega),dj (by omega) (by omega),ir.app];simp only[hN,vbi];rfl
 .simp only[ib];rw[hG (by simp),vaY]
def Vy(s:ae)(k:V Int)(b:K):RK qG k s (aa ([s]:V ae) k b):=by have:=qsp [s] (by simp) k b;simpa using this
def qpe(s t u:ae)(k:V Int)(b:K):RK qG k (s++(t++u)) (aa ([s,t,u]:V ae) k b):=by have:=qsp [s,t,u] (by simp) k b;simpa using this
def qtS(s:ae)(i:Nat)(k:V Int)(b:K):RK qG k (if i=0 then[]else s) (if Y ((i:Int)>0)then(aa ([s]:V ae) k b).bind λr=>O r else O k):=by
 by_cases h:i=0;.subst h;exact qpC ir
 .rw[hG h,hU (by simp;omega)];exact qsz (Vy s k b)
def qsB(l:V ae)(m:l.length<=100)(k:ae)(b:K):RK (λs=>s) k l.flatten (ac l k b):=λh=>by
 unfold ac Hv;have a:=fa l.length (λe:Int×ae=>jz l (l.length:Int) e.1 e.2) (λi=>((i:Int),k++(l.take i).flatten)) (k++l.flatten) (λi c=>?_) ?_;.rw[show((0:Int),k)=(λi:Nat=>((i:Int),k++(l.take i).flatten)) 0 by simp,a];rfl
 .simp only[jz];rw[hU (by simp;omega),aC _ _ c];simp only[hN];have d:(l.take (i+1)).flatten.length<=l.flatten.length:=by
   conv=>rhs;rw[<-vbd (i+1) l,vb1,m3]
   omega
  rw[vas c,vb1]at d ⊢;simp only[List.flatten_cons,List.flatten_nil,vh,m3]at d ⊢;rw[iH (by simp only[m3];omega),dj (by omega) (by omega)];simp only[hN,vbi];rfl
 .simp only[jz];rw[hG (by simp),vaY]
def R5(s k:ae)(b:K):RK (λs=>s) k s (ac ([s]:V ae) k b):=by have:=qsB [s] (by simp) k b;simpa using this
def qpG(s t u k:ae)(b:K):RK (λs=>s) k (s++(t++u)) (ac ([s,t,u]:V ae) k b):=by have:=qsB [s,t,u] (by simp) k b;simpa using this
def qlj(s:ae)(i:Nat)(k:ae)(b:K):RK (λs=>s) k (if i=0 then[]else s) (if Y ((i:Int)>0)then(ac ([s]:V ae) k b).bind λr=>O r else O k):=by
 by_cases h:i=0;.subst h;exact qpC U2
 .rw[hG h,hU (by simp;omega)];exact qsz (R5 s k b)
def mc(x:K)(k:ae)(b:K):bv x k b=O (b||!x):=by unfold bv;cases x<;>cases b<;>rfl
def qoE(a:K)(s:ae):Wr:=(s,!(ck s&&(kQ mU s==a)))
def qkv{s:ae}(h:ck s=T):∃c r,s=c::r:=by
 cases s with
 |nil=>rw[Tu]at h;cases h
 |cons c r=>exact⟨c,r,rfl⟩
def qk8{s:ae}(h:ck s=T):uq s=O (kQ mU s):=by
 obtain⟨c,r,rfl⟩:=qkv h;unfold uq kQ mU;rw[mT];simp only[hN];by_cases a:65<=(c.toNat:Int)
 .rw[hU (by simpa using a)];simp[a]
 .rw[hG (by simpa using a)];simp[a]
def qpb(s:ae):lB s=O (qoE Z s).2:=by unfold lB qoE;rw[pd];simp only[hN,xi];cases h:ck s with|false=>rfl|true=>rw[hG (by simp),qk8 h];simp only[hN];cases kQ mU s<;>rfl
def qmS(s:ae):kI s=O (qoE T s).2:=by unfold kI qoE;rw[pd];simp only[hN,xi];cases h:ck s with|false=>rfl|true=>rw[hG (by simp),qk8 h];simp only[hN];cases kQ mU s<;>rfl
abbrev tI{ε:Type}(k:V ε)(b:K):K×V ε:=(b,k)
def pT{w:Wr}:IQ [w]=w:=by simp[IQ]
def qwo(s:ae)(k:V Int)(b:K):RS qG tI k b [qoE Z s] (aW s k b):=by unfold aW;refine Yu (qpb s) (qpI (λh=>qpH (by rw[pT];exact h)) λh=>?_);refine RS.cast (ws:=[tW s]) (XH ir (Vy s k b) λa=>MG (mk:=tI) ir) ?_;rw[pT,pT];exact Prod.ext rfl h.symm
def qpg(s:ae)(k:V Int)(b:K):RS qG tI k b [qoE T s] (bw s k b):=by unfold bw;refine Yu (qmS s) (qpI (λh=>qpH (by rw[pT];exact h)) λh=>?_);refine RS.cast (ws:=[tW s]) (XH ir (Vy s k b) λa=>MG (mk:=tI) ir) ?_;rw[pT,pT];exact Prod.ext rfl h.symm
def qpF(s:ae)(a:K)(k:ae)(b:K):nN s a k b=O (b||(qoE a s).2):=by
 unfold nN qoE;rw[nn];simp only[hN,Q5];cases h:ck s with
 |false=>rw[hG (by simp),mc];rfl
 | true =>
  obtain⟨c,r,rfl⟩:=qkv h;rw[hU rfl,mT];simp only[hN,kQ,mU];by_cases d:65<=(c.toNat:Int)
  .rw[hU (by simpa using d),mc];simp[d]
  .rw[hG (by simpa using d),mc];simp[d]
def qpE(s:ae)(a:K)(k:ae)(b:K):RS (λs=>s) Prod.mk k b [qoE a s] (aH s a k b):=by unfold aH;refine Yu (qpF s a k b) ?_;refine RS.cast (ws:=[([],(qoE a s).2),tW s]) (qgU (XH U2 (R5 s k _) λc=>MG (mk:=Prod.mk) U2)) ?_;simp[IQ,qoE]
mutual
def qqc:am->Prop|⟨o,n,as1,ns,p,ps⟩=>wH ⟨o,n,as1,ns,p,ps⟩=O 0/\ql3 as1
def ql3:List am->Prop|[]=>True|t::l=>qqc t/\ql3 l
end
mutual
def qqb:am->Nat|⟨_,_,as1,_,_,_⟩=>GH as1+1
def GH:List am->Nat|[]=>0|t::l=>max (qqb t) (GH l)
end
def Q7(t:am):qqc t↔wH t=O 0/\ql3 t.Args:=by let⟨o,n,a,b,p,c⟩:=t;rw[qqc];exact Iff.rfl
def Vb:∀(l:List am),ql3 l↔∀t∈l,qqc t
 |[]=>by simp[ql3]
 |t::l=>by rw[ql3,Vb l];simp
def qjo(t:am):qqb t=GH t.Args+1:=by let⟨o,n,a,b,p,c⟩:=t;rw[qqb];rfl
def X6:∀(a b:List am),GH (a++b)=max (GH a) (GH b)
 |[],b=>by simp[GH]
 |x::a,b=>by rw[vaN,GH,GH,X6 a b];omega
def qhO:∀{l:List am}{x:am},x∈l->qqb x<=GH l
 | y :: l,x,h => by
  rw[GH];rcases oL.1 h with rfl|h;.omega
  .have:=qhO h;omega
mutual
def qkw:∀(t:am),qqb t<=jm t
 |⟨o,n,as1,ns,p,ps⟩=>by rw[qqb,jm];have:=qhN as1;omega
def qhN:∀(l:List am),GH l<=HS l
 |[]=>m7 _
 |t::l=>by rw[GH,HS];have:=qkw t;have:=qhN l;omega
end
theorem qtM(a b:Nat):(if(b:Int)>(a:Int)then(b:Int)else(a:Int))=((max a b:Nat):Int):=by
 by_cases h:(b:Int)>(a:Int)
 ·rw[hU h];congr 1;omega
 ·rw[hG h];congr 1;omega
def qq9(t:am)(b:jm t<=dm):Ey t=O (qqb t:Int):=by
 refine P9 (F:=AX) jm (λx=>jm x<=dm) (λx=>O (qqb x:Int)) (λR t b p=>?_) t b (lP b);have q:jm t<=1073741824:=b;show vR (λt=>R t) t=_;have d:=qF t;have r:=qkw t;unfold vR;have h:=fa t.Args.length (λe:Int×Int=>jZ (λt=>R t) t.Args (t.Args.length:Int) e.1 e.2) (λi=>((GH (t.Args.take i):Int),(i:Int))) (GH t.Args:Int) (λi a=>?_) ?_
 .have n:Dz (λt=>R t) t.Args (t.Args.length:Int) 0 0=O (GH t.Args:Int):=by unfold Dz;simpa[GH]using h
  have m:=qjo t;rw[n,hN,dj (by omega) (by omega),m];rfl
 .show jZ (λt=>R t) t.Args _ _ (i:Int)=_;unfold jZ;have o:t.Args[i]∈t.Args:=m4 a;have c:=pp o;rw[hU (by simpa using a),aC _ _ a,hN];show(R _).bind _=_;rw[p _ c (by unfold dm;omega),hN];dsimp only;rw[dj (by omega) (by omega),qtM,vas a,X6];have:max (GH (t.Args.take i)) (qqb t.Args[i])=max (GH (t.Args.take i)) (GH [t.Args[i]]):=by rw[GH,GH];omega
  rw[this];rfl
 .show jZ (λt=>R t) t.Args _ _ (t.Args.length:Int)=_;unfold jZ;rw[hG (by simp),vaY]
def qrh(t:am)(e:jm t<=dm):jV (ES t) (λr=>(r !=0)=Z->qqc t):=by
 refine Gs (F:=zm) jm (λx=>jm x<=dm) (λx r=>(r !=0)=Z->qqc x) (λR x p s=>?_) t e (lP e);show jV (lJ (λt=>R t) x) _;unfold lJ ql;have w:=qF x;let⟨q,d,_⟩:=qb1 x;refine fj d (aQ (λh=>av (λa=>by rw[h]at a;cases a)) λh=>aG (nj x.Args (by unfold dm at p;omega) _ qqc (λr=>(r !=0)=T) (λi=>rfl) (λy m i=>aG (s _ (pp m) (by have:=pp m;omega)) λr n=>aQ (λh=>av h) λh=>av ⟨rfl,n (by simpa using h)⟩)) λo b=>?_);cases o with
 |inl r=>have b:(r !=0)=true:=b;exact av λa=>by rw[b]at a;cases a
 |inr _=>
  have c:q=0:=by simpa using h
  exact av λ_=>(Q7 x).2 ⟨by rw[d,c],(Vb _).2 b⟩
def qrg(t:am)(d:jm t<=dm)(h:qqc t):ES t=O 0:=by
 refine P9 (F:=zm) jm (λx=>jm x<=dm/\qqc x) (λx=>O 0) (λR x e n=>?_) t ⟨d,h⟩ (lP d);show lJ (λt=>R t) x=_;have p:jm x<=1073741824:=e.1;have o:=qF x;have c:=(Q7 x).1 e.2;unfold lJ;rw[c.1];simp only[hN];rw[hG (by simp)];have m:ql (λt=>R t) x.Args (x.Args.length:Int) 0=O (.inr ()):=by
  unfold ql;refine fa x.Args.length _ (λi=>(i:Int)) _ (λi a=>?_) ?_;.simp only[Ag];have b:x.Args[i]∈x.Args:=m4 a;rw[hU (by simpa using a),aC _ _ a,hN];rw[n _ (pp b) ⟨by have:=pp b;unfold dm;omega,(Vb _).1 c.2 _ b⟩,hN];rw[hG (by simp),dj (by omega) (by omega),show((i:Int)+1)=((i+1:Nat):Int) by omega]
  .simp only[Ag];rw[hG (by simp)]
 rw[m];rfl
abbrev qoH(t:am):Prop:=kX t=O 0
def Vq(t:am)(a:jm t<=dm):qoH t↔qqb t<=40/\qqc t:=by
 unfold qoH kX;rw[qq9 t a];simp only[hN];constructor
 .intro h;rcases T6 h with⟨b,h⟩|⟨b,h⟩;.cases h
  .let⟨r,e,i⟩:=qrh t a;rw[e]at h;have c:r=0:=by simpa using h
   exact⟨by simp at b;omega,i (by rw[c];rfl)⟩
 .intro⟨m,d⟩;rw[hG (by simp;omega),qrg t a d];rfl
def qk0{t a:am}(e:jm t<=dm)(h:qoH t)(b:a∈t.Args):qoH a:=by let⟨c,d⟩:=(Vq t e).1 h;have:=pp b;refine(Vq a (by omega)).2 ⟨?_,(Vb _).1 ((Q7 t).1 d).2 a b⟩;have:=qhO b;rw[qjo]at c;omega
abbrev P2(t:am):am:=⟨t.Op,t.Name,t.Args,t.Names,mg,t.Preds⟩
def qme(t:am):jm (P2 t)=jm t:=by rw[LT,LT t];rfl
def qoI{t:am}(b:jm t<=dm)(h:qoH t):qoH (P2 t):=by let⟨a,c⟩:=(Vq t b).1 h;refine(Vq _ (by rw[qme];exact b)).2 ⟨by rw[qjo]at a ⊢;exact a,?_⟩;exact(Q7 _).2 ((Q7 t).1 c)
def qz7(t:am):Prop:=(1<=t.Op/\t.Op<=6)/\(t.Op=6->2<=t.Args.length/\(t.Names=[]\/t.Names.length=t.Args.length - 1))
def qrs(t:am)(p:jm t<=dm)(h:wH t=O 0):qz7 t:=by
 have m:=qF t;have r:jm t<=1073741824:=p;unfold wH at h;let⟨s,b,h⟩:=qdp h;rcases T6 h with⟨c,h⟩|⟨c,h⟩;.cases h
 let⟨w,q,h⟩:=qdp h;rcases T6 h with⟨n,h⟩|⟨n,h⟩;.cases h
 let⟨x,a,h⟩:=qdp h;rcases T6 h with⟨i,h⟩|⟨i,h⟩;.cases h
 subst c i;refine⟨?_,λo=>?_⟩
 .unfold la at b;rcases T6 b with⟨c,b⟩|⟨c,b⟩;.cases b
  rcases T6 b with⟨e,b⟩|⟨e,b⟩;.cases b
  simp at c e;omega
 .unfold lb at a;rw[hU (by simp[o])]at a;rcases T6 a with⟨c,a⟩|⟨c,a⟩;.cases a
  rcases T6 a with⟨e,a⟩|⟨e,a⟩;.cases a
  simp at c e;refine⟨by omega,?_⟩;rcases T6 a with⟨d,a⟩|⟨d,a⟩;.right;have a:=vbh a;rw[dj (by omega) (by omega)]at a;simp at a;omega
  .left;have:t.Names.length=0:=by simp at d;simp[d]
   exact vaw this
def qtO{t:am}(a:jm t<=dm)(h:qoH t):qz7 t:=qrs t a ((Q7 t).1 ((Vq t a).1 h).2).1
def pW(p:ah):Wr:=((Ip p).1,(Ip p).2 !=0)
def qwS(p:ah):Wr:=if p=mg then tW yB else pW p
def qwQ(a:am):K:=Y (a.Pred=mg)&&(a.Op==6||(Y ((a.Args.length:Int)>0)||decide ((a.Preds.length:Int)>0)))
def RP(t:am):K:=(t.Op==6&&(!Y (t.Pred=mg)||decide ((t.Preds.length:Int)>0)))||(t.Op !=4&&Y ((t.Preds.length:Int)>0))
abbrev KD(t:am):Prop:=dc (al t)<=16777216
def Yq(t:am):dc (al t)=1+(t.Name.length+1)+(bC (t.Args.map al)+1)+(bC (t.Names.map cS)+1)+dc (ag t.Pred)+(bC (t.Preds.map ag)+1):=by rw[Qq,jA];simp only[pm,sl];omega
def qac{t a:am}(h:KD t)(b:a∈t.Args):KD a:=by have c:=Yq t;have d:=Ka (m8.2 ⟨a,b,rfl⟩:al a∈t.Args.map al);unfold KD at *;omega
def Gh{t:am}(h:KD t):dc (ag t.Pred)<=16777216:=by have a:=Yq t;unfold KD at *;omega
def qeZ{t:am}(h:KD t){p:ah}(a:p∈t.Preds):dc (ag p)<=16777216:=by have b:=Yq t;have c:=Ka (m8.2 ⟨p,a,rfl⟩:ag p∈t.Preds.map ag);unfold KD at *;omega
def xY{t:am}(h:KD t):jm t<=dm:=n3 (qgj t) (n3 h (by unfold dm;omega))
def zM(p:ah)(h:dc (ag p)<=16777216):kk p=O (Y (p=mg)):=by unfold kk;have:=qgY p mg (n3 (qbW p) (n3 h (by unfold dm;omega)));unfold mg at this;rw[this];rfl
def zN(p:ah):ue p=O (Y (p=mg)):=by unfold ue;have:=qcC p mg qkV;unfold mg at this;rw[this];rfl
def qld(p:ah)(h:dc (ag p)<=16777216)(k:V Int)(b:K):RS qG Prod.mk k b [pW p] (cy p k b):=by
 unfold cy;have a:lD (Ip p).2 b=O (b||(pW p).2):=by unfold lD pW;cases b<;>rfl
 refine Yu (qwp p h) (Yu a ?_);exact RS.cast (ws:=[([],(pW p).2),tW (Ip p).1]) (qgU (XH ir (Vy _ k _) λc=>MG (mk:=Prod.mk) ir)) (by simp[IQ,pW])
def qgT(p:ah)(h:dc (ag p)<=16777216)(k:ae)(b:K):RS (λs=>s) Prod.mk k b [pW p] (cj p k b):=by unfold cj;refine Yu (qwN p h) (Yu (mc _ k b) ?_);refine RS.cast (ws:=[([],(pW p).2),tW (Ip p).1]) (qgU ?_) (by simp[IQ,pW]);have e:(!((Ip p).2==0))=(pW p).2:=rfl;rw[e];exact XH U2 (R5 _ k _) λa=>MG (mk:=Prod.mk) U2
def qrD(p:ah)(h:dc (ag p)<=16777216)(k:V Int)(b:K):RS qG Prod.mk k b [qwS p] (fR p k b):=by
 unfold fR qwS;refine Yu (zM p h) (qpI (λa=>?_) λa=>?_);.rw[hU (by simpa using a)];exact XH ir (Vy _ k _) λc=>MG (mk:=Prod.mk) ir
 .rw[hG (by simpa using a)];exact qgV ir (qld p h k b) λc d=>MG (mk:=Prod.mk) ir
def qpV:Ip ⟨2,[],1,[]⟩=(yB,0):=by
 have a:rM ⟨2,[],1,[]⟩=O 0:=by kernel_rfl
 unfold Ip qds;rw[a];rw[hU (show(O (0:Int)).getD 0=0 from rfl),qcR];rfl
def qrO(p:ah)(h:dc (ag p)<=16777216)(k:ae)(b:K):RS (λs=>s) Prod.mk k b [qwS p] (fX p k b):=by
 unfold fX sN;have e:(⟨p.Op,p.Name,p.N,p.Kids⟩:ah)=p:=by cases p;rfl
 rw[e,zN];simp only[hN];unfold qwS;by_cases a:p=mg;.rw[hU a,hU (tr a)];unfold qay;simp only[hN];have:=qgT ⟨2,[],1,[]⟩ (by decide) k b;unfold pW at this;rw[qpV]at this;exact qgV U2 this λd c=>MG (mk:=Prod.mk) U2
 .rw[hG a,hG (by simpa using a)];simp only[hN];rw[e];exact qgV U2 (qgT p h k b) λd c=>MG (mk:=Prod.mk) U2
def qmQ(a:am)(h:dc (ag a.Pred)<=16777216):kH a=O (qwQ a):=by unfold kH qwQ;rw[zM _ h];simp only[hN];generalize Y (a.Pred=mg)=z;generalize (a.Op==6)=x;generalize Y ((a.Args.length:Int)>0)=y;cases z<;>cases x<;>cases y<;>rfl
def qeT(a:am):ml a=O (qwQ a):=by unfold ml qwQ;rw[zN];simp only[hN];generalize Y (a.Pred=mg)=z;generalize (a.Op==6)=x;generalize Y ((a.Args.length:Int)>0)=y;cases z<;>cases x<;>cases y<;>rfl
section
variable{f:am->Wr}{R:am->V Int->K->Q (K×V Int)}
def qzX(t:am)(h:KD t):mC t=O (RP t):=by unfold mC RP;rw[zM _ (Gh h)];simp only[hN];generalize (t.Op==6)=A;generalize (t.Op !=4)=B;generalize Y (t.Pred=mg)=C;generalize Y ((t.Preds.length:Int)>0)=a;cases A<;>cases B<;>cases C<;>cases a<;>rfl
end
abbrev qv8(s:ae):ae:=s
section
variable{f:am->Wr}{R:am->ae->K->Q (K×ae)}
def qwj(n:Nat):((n:Int)==0)= !Y ((n:Int)>0):=by
 by_cases h:n=0;.subst h;rfl
 .have a:((n:Int)==0)=false:=by simpa using h
  have b:Y ((n:Int)>0)=true:=tr (by omega);rw[a,b];rfl
def qrP(t:am)(k:ae)(b:K):li t k b=O (b||(!Y (t.Pred=mg)||decide ((t.Preds.length:Int)>0))):=by unfold li;rw[zN,qwj,mc,mc];simp only[hN];generalize Y (t.Pred=mg)=x;generalize Y ((t.Preds.length:Int)>0)=y;cases x<;>cases y<;>cases b<;>rfl
def qlm(t:am)(c:t.Op≠6)(k:ae)(b:K):iV t k b=O (b||RP t):=by
 unfold iV RP;have a:(t.Op==6)=false:=by simpa using c
 rw[qwj,mc,mc,a];simp only[hN,bne];generalize Y (t.Pred=mg)=x;generalize Y ((t.Preds.length:Int)>0)=y;generalize (t.Op==4)=z;cases x<;>cases y<;>cases z<;>cases b<;>rfl
end
def qsb(t:am)(a:KD t):∃r,kX t=O r/\nF t=O r:=by let⟨r,e,_⟩:=G2 t (xY a);exact⟨r,e,by rw[XR,e]⟩
end Go.Proofs.YtibglelmlnfojaaGreatDoor
