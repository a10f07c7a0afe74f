/- PROVED: a part of the proof. Conditions: none. -/
import Derived.Test.YtankopenjcbeeaaGreatDoorPkO21
import Derived.Test.YtankopenjcbeeaaGreatDoorPkO20
set_option linter.unusedSimpArgs false set_option linter.defProp false
set_option linter.unusedVariables false
noncomputable section
namespace Go.Proofs.YtankopenjcbeeaaGreatDoor
open Go
open Option renaming some→O,none→N
open Go renaming TypeId→G,Value→D,Program→I,Oper→M,World→J,Code→W
open Bool renaming true→T,false→Z
open Decidable renaming decide→Y
open YtankopenjcbeeaaGreatDoor renaming PVal→U
def Uz{α:Type}(c:α->List U):∀(l:List α)(i:Nat)(h:i<l.length),bL ((l.take i).map c)+dB (c l[i])<=bL (l.map c)
 |x::l,0,_=>by simp only[List.take_zero,vbt,ox,bL,List.getElem_cons_zero];omega
 |x::l,i+1,h=>by have:=Uz c l i (by simpa using h);simp only[List.take_succ_cons,ox,bL,List.getElem_cons_succ];omega
def qfq{α:Type}(f g:α->Nat):∀l:List α,(l.map λx=>f x+g x).sum=(l.map f).sum+(l.map g).sum
 |[]=>rfl
 |x::l=>by simp only[ox,List.sum_cons,qfq f g l];omega
def qkp(a:List aa):∀(l:List ai)(i:Nat),((l.zipIdx i).map λx=>(a.getD x.2 []).length).sum<=bL ((a.drop i).map cS)
 |[],i=>s5 _
 | t :: l,i => by
  rw[List.zipIdx_cons,ox,List.sum_cons];have c:=qkp a l (i+1);by_cases b:i<a.length
  .rw[vaN b,ox,bL];have h:a.getD i []=a[i]:=by simp[List.getD,b]
   have m:dB (cS a[i])=a[i].length+1:=by simp[cS,dB,pm]
   simp only[];rw[h];omega
  .have e:a.getD i []=[]:=by simp[List.getD,vaU (vb2 b)]
   have d:a.drop (i+1)=[]:=vb7 (by omega);rw[d]at c;simp only[];rw[e];simp only[vbt,bL,List.length_nil]at c ⊢;omega
def nT(t:ai):Nat:=64 * dB (aj t) - 64
def Qa(t:ai):nT t+64<=64 * dB (aj t):=by have:=Wh t;unfold nT;omega
section
variable{R:ai->V Int->K->Q (K×V Int)}
def qn6(a:ai)(h:Re a)(c:∀k b,RL RR k b (nT a) (R a k b))(k:V Int)(b:K):RL Prod.mk k b (nT a+32) (nv R a k b):=by
 unfold nv;refine cq (qg8 a (LD h)) (ep (λ_=>?_) λ_=>?_);.exact bZ (dq λd=>aw (c d b) λm i=>dq λo=>aJ (n:=0) (mk:=Prod.mk)) (by omega)
 .exact bZ (aw (n2:=0) (c k b) λd e=>aJ (mk:=Prod.mk)) (by omega)
def qn7(l:V ai)(e:l.length<9223372036854775808)(h:∀a∈l,Re a)(d:∀a∈l,∀k b,RL RR k b (nT a) (R a k b))(k:V Int)(b:K):RL Prod.mk k b (64 * bL (l.map aj)) (rh R l (l.length:Int) 0 k b):=by unfold rh;refine bZ (jQ l e (λa=>16+(nT a+32+0)) (λ_ _ _=>rfl) λi c k b=>cq (aC _ _ c) (dq λm=>aw (qn6 _ (h _ (mx c)) (d _ (mx c)) m b) λp o=>aJ (n:=0))) (oF aj _ l λa _=>?_);have:=Qa a;omega
def qlx(t:ai)(e:t.Preds.length<9223372036854775808)(h:∀p∈t.Preds,dB (af p)<=16777216)(k:V Int)(b:K):RL Prod.mk k b (64 * bL (t.Preds.map af)) (j5 (t.Preds.length:Int) t k b):=by
 unfold j5 rQ;refine bZ (aw (n2:=0) (jQ t.Preds e (λp=>16+(16+(40 * dB (af p)+0)+0)) (λ_ _ _=>rfl) λi c k b=>OP λo=>aw (mk:=Prod.mk) ?_ λa d=>aJ (n:=0)) λa d=>aJ (mk:=Prod.mk)) (oF af _ _ λp _=>?_);.unfold s8;exact dq λa=>cq (aC _ _ c) (aw (n2:=0) (qdG _ (h _ (mx c)) a b) λq m=>aJ (mk:=Prod.mk))
 .have:=mw p;omega
def qqL(t:ai)(h6:2<=t.Args.length/\(t.Names=[]\/t.Names.length=t.Args.length - 1))(hl:t.Args.length<9223372036854775808)(B:∀a∈t.Args,∀k b,RL RR k b (nT a) (R a k b))(k:V Int)(b:K):RL Prod.mk k b (64 * bL (t.Args.map aj)+bL (t.Names.map cS)+32) (j8 R t k b):=by
 unfold j8;have hw:dc ((t.Args.length:Int) - 1)=((t.Args.length - 1:Nat):Int):=by rw[ch (by omega) (by omega)];omega
 rw[hw];have d:((t.Args.take (t.Args.length - 1)).zipIdx).length=t.Args.length - 1:=by rw[List.length_zipIdx,vbb];omega
 have h1:=Uz aj t.Args (t.Args.length - 1) (by omega);have X:=qkp t.Names (t.Args.take (t.Args.length - 1)) 0;rw[vbj]at X;have h3:=Qa (t.Args[t.Args.length - 1]'(by omega));have h4:(((t.Args.take (t.Args.length - 1)).zipIdx).map λx=>32+nT x.1).sum<=64 * bL ((t.Args.take (t.Args.length - 1)).map aj):=by
  have e:(((t.Args.take (t.Args.length - 1)).zipIdx).map λx=>32+nT x.1)=(t.Args.take (t.Args.length - 1)).map λa=>32+nT a:=by rw[show(((t.Args.take (t.Args.length - 1)).zipIdx).map λx=>32+nT x.1)=(((t.Args.take (t.Args.length - 1)).zipIdx).map Prod.fst).map λa=>32+nT a by rw[vb4];rfl,List.zipIdx_map_fst]
  rw[e];exact oF aj _ _ λa _=>by have:=Qa a;omega
 have h5:=qfq (λx:ai×Nat=>32+nT x.1) (λx=>(t.Names.getD x.2 []).length) ((t.Args.take (t.Args.length - 1)).zipIdx);have p:=aC t.Args (t.Args.length - 1) (by omega);have y:=B (t.Args[t.Args.length - 1]'(by omega)) (mx _);suffices m:∀c,RL Prod.mk c b ((((t.Args.take (t.Args.length - 1)).zipIdx).map λx=>32+nT x.1+(t.Names.getD x.2 []).length).sum) (j6 R ((t.Args.length - 1:Nat):Int) t c b) by exact bZ (dq λc=>aw (m c) λw o=>dq λA=>cq p (aw (y A o) λk4 b4=>aJ (n:=0) (mk:=Prod.mk))) (by omega)
 intro c;unfold j6 rR;refine bZ (aw (n2:=0) (jQ ((t.Args.take (t.Args.length - 1)).zipIdx) (by omega) (λx=>32+nT x.1+(t.Names.getD x.2 []).length) (F:=λi k b=>(lr i k b).bind λo4=>(fL R i t o4 b).bind λL=>O (.inl (dc (i+1),L.1,L.2))) (λi k b=>by rw[d];rfl) λi E k b=>?_) λw o=>aJ (mk:=Prod.mk)) (l8 _);have a0:i<t.Args.length - 1:=by rw[d]at E;exact E
 have e:((t.Args.take (t.Args.length - 1)).zipIdx)[i]=(t.Args[i],i):=by rw[List.getElem_zipIdx];simp
 rw[e];have S:=B t.Args[i] (mx _);have h:=aC t.Args i (by omega);suffices q:∀c,RL Prod.mk c b (16+(t.Names.getD i []).length+nT t.Args[i]) (fL R (i:Int) t c b) by exact bZ (OP λc=>aw (q c) λw o=>aJ (n:=0)) (by simp only[];omega)
 intro c;unfold fL;suffices r:RL Prod.mk c b (16+(t.Names.getD i []).length) (gh (i:Int) t c b) by exact bZ (aw r λw o=>cq h (aw (S w o) λA b3=>aJ (n:=0) (mk:=Prod.mk))) (by omega)
 unfold gh;refine ep (λH=>?_) λ_=>aJ (mk:=Prod.mk);have z:t.Names≠[]:=λe=>by rw[e]at H;simp at H
 have s:i<t.Names.length:=by have:=h6.2.resolve_left z;omega
 have P:t.Names.getD i []=t.Names[i]:=by simp[List.getD,s]
 rw[P];exact bZ (cq (aC _ _ s) (aw (wz _ c b) λw o=>dq λA=>aJ (n:=0) (mk:=Prod.mk))) (by omega)
def qn8(t:ai)(h:Re t)(w:qrJ t)(i:∀a∈t.Args,∀k b,RL RR k b (nT a) (R a k b))(k:V Int)(b:K):RL Prod.mk k b (t.Name.length+64 * bL (t.Args.map aj)+bL (t.Names.map cS)+64 * bL (t.Preds.map af)+64) (jd R t k b):=by
 have m:=ut t;have e:=St t;have z:lq t<=1073741824:=QN h;unfold jd;refine ep (λ_=>bZ (dq λc=>aJ (n:=0) (mk:=Prod.mk)) (by omega)) λ_=>ep (λ_=>bZ (dq λc=>aJ (n:=0) (mk:=Prod.mk)) (by omega)) λ_=>ep (λ_=>bZ (dq λc=>aJ (n:=0) (mk:=Prod.mk)) (by omega)) λ_=>?_;refine ep (λ_=>bZ (aw (wz _ k b) λc d=>aJ (n:=0) (mk:=Prod.mk)) (by omega)) λ_=>ep (λ_=>?_) λ_=>ep (λr=>?_) λ_=>aJ (mk:=Prod.mk);.refine bZ (aw (H3 _ k b) λc d=>aw (qn7 t.Args (by omega) (λa q=>qfp h q) i c d) λA o=>ep (λ_=>?_) λ_=>aJ (n:=64 * bL (t.Preds.map af)+32) (mk:=Prod.mk)) (by omega);exact bZ (dq λx=>aw (qlx t (by omega) (λp s=>qhj h s) x o) λB y=>dq λE=>aJ (n:=0) (mk:=Prod.mk)) (by omega)
 .exact bZ (aw (qqL t (w.2 (by simpa using r)) (by omega) i k b) λc d=>aJ (n:=0) (mk:=Prod.mk)) (by omega)
def qn9(t:ai)(e:Re t)(s:qrJ t)(q:∀a∈t.Args,∀k b,RL RR k b (nT a) (R a k b))(k:V Int)(b:K):RL RR k b (nT t) (nx R t k b):=by
 have r:=Wh t;have A:nT t=64 * dB (aj t) - 64:=rfl;unfold nx;refine cq (qux t e) (ep (λ_=>YG (mk:=RR)) λ_=>cq (xp _ (LD e)) ?_)
 have fin:∀(z:K)(k:V Int),RL RR k b (t.Name.length+64 * bL (t.Args.map aj)+bL (t.Names.map cS)+64 * bL (t.Preds.map af)+64+(32+40 * dB (af t.Pred))) ((jd R t k b).bind λc=>if(!z)then
   (ae ([y8]:V aa) c.1 c.2).bind λi=>(dj t.Pred i c.2).bind λd=>(ae ([qkn]:V aa) d.1 d.2).bind λm=>O (d.2,m)else O (c.2,c.1)):=λz k=>
  aw (qn8 t e s q k b) λB o=>ep (λ_=>bZ (dq λx=>aw (Yk _ (LD e) x o) λE y=>dq λF=>aJ (n:=0) (mk:=RR)) (by omega)) λ_=>aJ (mk:=RR)
 unfold re;by_cases h:t.Pred=Hq;.simp only[h,decide_true,vcE,vaF,if_false,eJ];have:=fin T k;simp only[vcE,vaF,if_false,h]at this;exact bZ this (by rw[h]at r;omega)
 .simp only[h,decide_false,Bool.not_false,if_true];have p:sM.length<=16:=by decide
  exact bZ (Sx (qmM (qam sM k b)) λw=>fin Z w) (by omega)
end
def qum(t:ai)(c:Re t)(d:qoh t)(k:V Int)(b:K):RL RR k b (nT t) (xn t k b):=by
 have i:∀m t k b,lq t<m->Re t->qoh t->RL RR k b (nT t) (qmA s9 m (t,k,b)):=by intro m;induction m with|zero=>intro t k b h;omega|succ m ih=>intro t k b o c d;exact qn9 t c (qoi (QN c) d) (λa e k b=>ih a k b (by have:=wT e;omega) (qfp c e) (qlI (QN c) d e)) k b
 exact i _ t k b (Nat.lt_of_le_of_lt (QN c) (by unfold qhA cz;omega)) c d
def Gn(t:ai)(a:Re t)(k:V Int)(b:K):RL RR k b (nT t) (dH t k b):=by
 let⟨r,c,d⟩:=qqe t a;unfold dH;refine cq d (ep (λ_=>YG (mk:=RR)) λh=>?_);have e:r=0:=by simpa using h
 subst e;exact bZ (aw (qum t a c k b) λm i=>aJ (n:=0) (mk:=RR)) (by omega)
def Ui(e:ah)(s:Int)(c:nE e<=cz):rn e s=J4 (λs x=>jV x s) (df e) s:=by
 refine qfu (F:=oH) (λs x=>jV x s) (λR e s c=>?_) e s c;show kf (λe k=>R (e,k)) e s=_;unfold kf;congr 1;funext r;let⟨b,d⟩:=r;cases b with
 |false=>rfl
 | true =>
  rw[hG (show ¬((!(T,d).1)=T) by simp)];refine YS (λs x=>R (x,s)) e c d (λa=>dR (λe k=>R (e,k)) e.Kids e.Kids.length a.1 a.2) (λa=>dT (λe k=>R (e,k)) e.Alts e.Alts.length a.1 a.2) (λi h s=>?_) (λs=>?_) (λi h s=>?_) (λs=>?_) (λ_=>rfl) (λ_=>rfl) (λ_=>rfl) (λ_=>rfl);.show dR (λe k=>R (e,k)) e.Kids e.Kids.length i s=_;unfold dR;rw[l7 (by simpa using h),aC _ _ h];rfl
  .show dR (λe k=>R (e,k)) e.Kids e.Kids.length e.Kids.length s=_;unfold dR;rw[hG (by simp)]
  .show dT (λe k=>R (e,k)) e.Alts e.Alts.length i s=_;unfold dT;rw[l7 (by simpa using h),aC _ _ h];rfl
  .show dT (λe k=>R (e,k)) e.Alts e.Alts.length e.Alts.length s=_;unfold dT;rw[hG (by simp)]
def Uh(e:ah)(s:Int)(c:nE e<=cz):me e s=J4 (λs x=>jU x s) (df e) s:=by
 refine qfu (F:=oG) (λs x=>jU x s) (λR e s c=>?_) e s c;show ke (λe k=>R (e,k)) e s=_;unfold ke;congr 1;funext r;let⟨b,d⟩:=r;cases b with
 |false=>rfl
 | true =>
  rw[hG (show ¬((!(T,d).1)=T) by simp)];refine YS (λs x=>R (x,s)) e c d (λa=>dO (λe k=>R (e,k)) e.Kids e.Kids.length a.1 a.2) (λa=>dQ (λe k=>R (e,k)) e.Alts e.Alts.length a.1 a.2) (λi h s=>?_) (λs=>?_) (λi h s=>?_) (λs=>?_) (λ_=>rfl) (λ_=>rfl) (λ_=>rfl) (λ_=>rfl);.show dO (λe k=>R (e,k)) e.Kids e.Kids.length i s=_;unfold dO;rw[l7 (by simpa using h),aC _ _ h];rfl
  .show dO (λe k=>R (e,k)) e.Kids e.Kids.length e.Kids.length s=_;unfold dO;rw[hG (by simp)]
  .show dQ (λe k=>R (e,k)) e.Alts e.Alts.length i s=_;unfold dQ;rw[l7 (by simpa using h),aC _ _ h];rfl
  .show dQ (λe k=>R (e,k)) e.Alts e.Alts.length e.Alts.length s=_;unfold dQ;rw[hG (by simp)]
def qhJ(e:ah)(b:nE e<=cz):Bt e=O ((df e).length:Int):=by
 have h:nE e<=1073741824:=b;have i:=qe5 e;have a:∀(l:V ah)(k:Nat),k+l.length<=1073741824->J4 (λs x=>jV x s) l (k:Int)=O (T,((k+l.length:Nat):Int)):=by
  intro l;induction l with
  |nil=>intro k _;rfl
  | cons x l ih =>
   intro k d;simp only[p6]at d;have c:jV x (k:Int)=O (T,((k+1:Nat):Int)):=by unfold jV;rw[ch (by omega) (by omega)];rfl
   rw[J4,c];show J4 _ l ((k+1:Nat):Int)=_;rw[ih (k+1) (by omega)];simp only[p6];congr 3;omega
 unfold Bt;rw[Ui e 0 b];have:=a (df e) 0 (by omega);rw[s7]at this;rw[show(0:Int)=((0:Nat):Int)from rfl,this];rfl
def Rk(e:ah)(d:nE e<=cz):wS e=O (bp e):=by
 have o:nE e<=1073741824:=d;have m:=DI e;have p:e.Kids.length+e.Alts.length<nE e:=by simpa[bp]using m
 unfold wS;rw[gJ (by simp;omega)];show(xL e ([]++e.Kids) 0).bind _=_;have h:=dw e.Alts.length (λb:V ah×Int=>iM e b.1 b.2) (λi=>(e.Kids++(e.Alts.take i).map (·.Body),(i:Int))) (bp e) (λi a=>?_) ?_
 .rw[va9];have c:xL e e.Kids 0=O (bp e):=by unfold xL;simpa using h
  rw[c];rfl
 .show iM e _ (i:Int)=_;unfold iM;rw[l7 (by simpa using a),aC _ _ a,eJ,gJ (by simp;omega),eJ,ch (by omega) (by omega),vas a,va5,<-va6];rfl
 .show iM e _ (e.Alts.length:Int)=_;unfold iM;rw[hG (by simp),vaR];rfl
def qoH{l:V ah}{n:Nat}(h:(l.map λx=>(df x).length).sum<=n)(i:Nat):((l.take i).map λx=>(df x).length).sum<=n:=by
 have a:l.take i++l.drop i=l:=vbY i l;have:(l.map λx=>(df x).length).sum=((l.take i).map λx=>(df x).length).sum+((l.drop i).map λx=>(df x).length).sum:=by rw[<-List.sum_append,<-va5,a]
 omega
def Sw(e:ah)(a:nE e<=cz):LT e=O ((df e).length:Int):=by
 have p:nE e<=1073741824:=a;refine ql (F:=Kn) nE (λx=>nE x<=cz) (λx=>((df x).length:Int)) (λR e a s=>?_) e a (kj a);have p:nE e<=1073741824:=a;show DC (λe=>R e) e=_;unfold DC;rw[Rk e a,eJ];have w:=qe5 e;have d:=DI e;have t:(df e).length=1+((bp e).map λx=>(df x).length).sum:=by rw[xh,p6,vcY];omega
 have r:((bp e).map λx=>(df x).length).sum<=1073741824:=by omega
 have h:=dw (bp e).length (λm:Int×Int=>jD (λe=>R e) (bp e) m.1 m.2) (λi=>(((1+(((bp e).take i).map λx=>(df x).length).sum:Nat):Int),(i:Int))) (((df e).length:Nat):Int) (λi b=>?_) ?_
 .have o:Hx (λe=>R e) (bp e) 1 0=O ((df e).length:Int):=by unfold Hx;simpa using h
  rw[o];rfl
 .show jD (λe=>R e) (bp e) _ (i:Int)=_;unfold jD;have q:(bp e)[i]∈bp e:=mx b;have c:=L1 q;have y:=qoH r (i+1);have z:(((bp e).take (i+1)).map λx=>(df x).length).sum=(((bp e).take i).map λx=>(df x).length).sum+(df (bp e)[i]).length:=by rw[vas b,va5,List.sum_append];simp
  rw[l7 (by simpa using b),aC _ _ b,eJ];show(R _).bind _=_;rw[s _ c (by unfold cz;omega),eJ];dsimp only;rw[ch (by omega) (by omega),ch (by omega) (by omega)];congr 3;omega
 .show jD (λe=>R e) (bp e) _ ((bp e).length:Int)=_;unfold jD;rw[hG (by simp),vaR];congr 2;omega
def Vg(l:V ah)(i:Nat)(h:i<l.length):L6 (l.take (i+1))=max (L6 (l.take i)) (dE l[i]):=by rw[vas h,HN];simp[L6]
def Z0(a b:Nat):(if(b:Int)>(a:Int)then(b:Int)else(a:Int))=((max a b:Nat):Int):=by
 by_cases h:(b:Int)>(a:Int);.rw[l7 h];congr 1;omega
 .rw[hG h];congr 1;omega
def YD(e:ah)(a:nE e<=cz):XI e=O (dE e:Int):=by
 have q:nE e<=1073741824:=a;refine ql (F:=ST) nE (λx=>nE x<=cz) (λx=>(dE x:Int)) (λR e a s=>?_) e a (kj a);have q:nE e<=1073741824:=a;show Km (λe=>R e) e=_;unfold Km;rw[Rk e a,eJ];have d:=DI e;have t:=qms e;have h:=dw (bp e).length (λm:Int×Int=>mh (λe=>R e) (bp e) m.1 m.2) (λi=>((L6 ((bp e).take i):Int),(i:Int))) (L6 (bp e):Int) (λi b=>?_) ?_
 .have p:Hw (λe=>R e) (bp e) 0 0=O (L6 (bp e):Int):=by unfold Hw;simpa[L6]using h
  have o:=Rt e;rw[p,eJ,ch (by omega) (by omega),o];rfl
 .show mh (λe=>R e) (bp e) _ (i:Int)=_;unfold mh;have r:(bp e)[i]∈bp e:=mx b;have c:=L1 r;rw[l7 (by simpa using b),aC _ _ b,eJ];show(R _).bind _=_;rw[s _ c (by unfold cz;omega),eJ];dsimp only;rw[ch (by omega) (by omega),Z0,Vg _ _ b];rfl
 .show mh (λe=>R e) (bp e) _ ((bp e).length:Int)=_;unfold mh;rw[hG (by simp),vaR]
def qhG(e:ah)(c:nE e<=cz):IU e=O (dE e:Int):=by
 have t:nE e<=1073741824:=c;refine ql (F:=CI) nE (λx=>nE x<=cz) (λx=>(dE x:Int)) (λR e c p=>?_) e c (kj c);have t:nE e<=1073741824:=c;show vN (λe=>R e) e=_;unfold vN;have z:=Gm e;have w:=tA e;have y:=qms e;have h:=dw e.Kids.length (λd:Int×Int=>gj (λe=>R e) e.Kids (e.Kids.length:Int) d.1 d.2) (λi=>((L6 (e.Kids.take i):Int),(i:Int))) (L6 e.Kids:Int) (λi a=>?_) ?_
 .have s:zX (λe=>R e) e.Kids (e.Kids.length:Int) 0 0=O (L6 e.Kids:Int):=by unfold zX;simpa[L6]using h
  rw[s,eJ];have g:=dw e.Alts.length (λd:Int×Int=>gk (λe=>R e) e.Alts (e.Alts.length:Int) d.1 d.2) (λi=>(((max (L6 e.Kids) (L6 ((e.Alts.map (·.Body)).take i)):Nat):Int),(i:Int))) ((L6 (bp e):Nat):Int) (λi a=>?_) ?_
  .have r:zY (λe=>R e) e.Alts (e.Alts.length:Int) (L6 e.Kids:Int) 0=O (L6 (bp e):Int):=by unfold zY;simpa[L6]using g
   have q:=Rt e;rw[r,eJ,ch (by omega) (by omega),q];rfl
  .show gk (λe=>R e) e.Alts (e.Alts.length:Int) _ (i:Int)=_;unfold gk;have o:e.Alts[i]∈e.Alts:=mx a;have b:=LW o;have m:i<(e.Alts.map (·.Body)).length:=by simpa using a
   rw[l7 (by simpa using a),aC _ _ a,eJ];show(R _).bind _=_;rw[p _ b (by unfold cz;omega),eJ];dsimp only;rw[ch (by omega) (by omega),Z0,Vg _ _ m,vcH,Nat.max_assoc];rfl
  .show gk (λe=>R e) e.Alts (e.Alts.length:Int) _ (e.Alts.length:Int)=_;unfold gk;rw[hG (by simp),bp,HN,vb8 (by simp)]
 .show gj (λe=>R e) e.Kids (e.Kids.length:Int) _ (i:Int)=_;unfold gj;have o:e.Kids[i]∈e.Kids:=mx a;have b:=xU o;rw[l7 (by simpa using a),aC _ _ a,eJ];show(R _).bind _=_;rw[p _ b (by unfold cz;omega),eJ];dsimp only;rw[ch (by omega) (by omega),Z0,Vg _ _ a];rfl
 .show gj (λe=>R e) e.Kids (e.Kids.length:Int) _ (e.Kids.length:Int)=_;unfold gj;rw[hG (by simp),vaR]
noncomputable instance qzO:DecidableEq ai:=λa b=>Classical.propDecidable _
noncomputable instance qzM:DecidableEq ah:=λa b=>Classical.propDecidable _
noncomputable instance qzL:DecidableEq bH:=λa b=>Classical.propDecidable _
noncomputable instance qzN:DecidableEq aY:=λa b=>Classical.propDecidable _
def U0{a b:K}:(if a then O b else O Z)=O (a&&b):=by cases a<;>rfl
def qlN{a b:K}:(if a then O T else O b)=O (a||b):=by cases a<;>rfl
def DZ{α:Type}[DecidableEq α]{a b:V α}(q:a.length<=cz)(c:Int->Q (Int⊕(Unit⊕Unit)))
  (h:∀(i:Nat)(r:i<a.length)(s:i<b.length),c (i:Int)=O (if Y (a[i]=b[i])then .inl (dc ((i:Int)+1))else .inr (.inl ()))) (d:c (a.length:Int)=O (.inr (.inr ()))) {k:Unit⊕Unit->Q K} (o:k (.inl ())=O Z) (p:k (.inr ())=O T):
  (if((a.length:Int)!=(b.length:Int))then O Z else(loop c 0).bind k)=O (Y (a=b)):=by
 by_cases m:a.length=b.length
 .rw[hG (by simp[m]),P4 m (by unfold cz at q;omega) c (.inl ()) (.inr ()) h d]
  by_cases e:a=b
  .simp only[e,decide_true,if_true,eJ];exact p
  .simp only[e,decide_false,vaF,if_false,eJ];exact o
 .rw[l7 (by simp;omega),decide_eq_false (λe=>m (by rw[e]))]
def Yt{a b:V aa}(e:a.length<=cz):vD a b=O (Y (a=b)):=by
 unfold vD zT;refine DZ e _ (λi c d=>?_) ?_ rfl rfl;.show iL a b (a.length:Int) (i:Int)=_;unfold iL;rw[l7 (by simpa using c),aC a i c];simp only[eJ];rw[aC b i d];simp only[eJ];by_cases h:a[i]=b[i]<;>simp[h]
 .show iL a b (a.length:Int) (a.length:Int)=_;unfold iL;rw[hG (by simp)]
def qhc{a b:V aa}(e:a.length<=cz):EZ a b=O (Y (a=b)):=by
 unfold EZ FO;refine DZ e _ (λi c d=>?_) ?_ rfl rfl;.show jE a b (i:Int)=_;unfold jE;rw[l7 (by simpa using c),aC a i c];simp only[eJ];rw[aC b i d];simp only[eJ];by_cases h:a[i]=b[i]<;>simp[h]
 .show jE a b (a.length:Int)=_;unfold jE;rw[hG (by simp)]
def qgO{a b:V ag}(e:a.length<=cz)(h:∀x∈a,nP x<=cz):qq a b=O (Y (a=b)):=by
 unfold qq rj;refine DZ e _ (λi c d=>?_) ?_ rfl rfl;.show fm b a (a.length:Int) (i:Int)=_;unfold fm;rw[l7 (by simpa using c),aC a i c];simp only[eJ];rw[aC b i d];simp only[eJ];rw[qaw _ _ (h _ (mx c))];simp only[eJ];by_cases m:a[i]=b[i]<;>simp[m]
 .show fm b a (a.length:Int) (a.length:Int)=_;unfold fm;rw[hG (by simp)]
def qhd{R:ai->ai->Q K}{a b:V ai}(e:a.length<=cz)(h:∀x∈a,∀y∈b,R x y=O (Y (x=y))):E0 R a b=O (Y (a=b)):=by
 unfold E0 FP;refine DZ e _ (λi c d=>?_) ?_ rfl rfl;.show jF R a b (i:Int)=_;unfold jF;rw[l7 (by simpa using c),aC a i c];simp only[eJ];rw[aC b i d];simp only[eJ];rw[h _ (mx c) _ (mx d)];simp only[eJ];by_cases m:a[i]=b[i]<;>simp[m]
 .show jF R a b (a.length:Int)=_;unfold jF;rw[hG (by simp)]
def He{a b:ai}:a=b↔a.Op=b.Op/\a.Name=b.Name/\a.Names=b.Names/\a.Pred=b.Pred/\a.Preds=b.Preds/\a.Args=b.Args:=by
 let⟨o,n,B,x,p,A⟩:=a;let⟨y,w,t,r,z,s⟩:=b;constructor;.rintro h;cases h;exact⟨rfl,rfl,rfl,rfl,rfl,rfl⟩
 .rintro⟨c,d,e,i,m,q⟩;cases c;cases d;cases e;cases i;cases m;cases q;rfl
abbrev Xp(t:ai):Prop:=lq t<=cz/\Y6 (λp=>nP p<=cz) t
def Uw{t a:ai}(h:Xp t)(b:a∈t.Args):Xp a:=⟨m0 (vbB (wT b)) h.1,qhP h.2 b⟩
def YC{R:V ai->V ai->Q K}(u v:ai)(c:Xp u)(h:R u.Args v.Args=O (Y (u.Args=v.Args))):jb R u v=O (Y (u=v)):=by let⟨d,e,_⟩:=(Pu _ u).1 c.2;have m:=ut u;have o:=Yp u;have p:=St u;have i:=c.1;unfold jb;rw[Yt (by omega),qaw _ _ d,qgO (by omega) e,h];simp only[eJ,U0,FS];rw[vbK];simp[He (a:=u) (b:=v)]
def Yu(a b:V ai)(h:qB a<=cz)(q:∀x∈a,Xp x):cU a b=O (Y (a=b)):=by
 refine ql (F:=jo) (λx=>qB x.1) (λx=>qB x.1<=cz/\∀t∈x.1,Xp t) (λx=>Y (x.1=x.2)) (λR x s w=>?_) (a,b) ⟨h,q⟩ (kj h);let⟨u,v⟩:=x;obtain⟨A,m⟩:qB u<=cz/\∀t∈u,Xp t:=s;have B:=RD u;show fR (λa c=>R (a,c)) u v=O (Y (u=v));unfold fR iU;refine DZ (by omega) _ (λi d o=>?_) ?_ rfl rfl;.show dh (λa c=>R (a,c)) v u (u.length:Int) (i:Int)=_;unfold dh;rw[l7 (by simpa using d),aC u i d];simp only[eJ];rw[aC v i o];simp only[eJ];have e:=mx d;have y:=HZ u[i];have z:=RE e;rw[YC _ _ (m _ e) (w (u[i].Args,v[i].Args) (by show qB u[i].Args<qB u;omega) ⟨by show qB u[i].Args<=cz;omega,λt r=>Uw (m _ e) r⟩)];simp only[eJ];by_cases p:u[i]=v[i]<;>simp[p]
 .show dh (λa c=>R (a,c)) v u (u.length:Int) (u.length:Int)=_;unfold dh;rw[hG (by simp)]
def YB(a b:ai)(c:Xp a):jb cU a b=O (Y (a=b)):=YC a b c (Yu _ _ (by have:=HZ a;have:=c.1;omega) λx d=>Uw c d)
def qhg(a b:ai)(w:Xp a)(E:Xp b):Pn a b=O (Y (a=b)):=by
 refine ql (F:=Kp) (λx=>lq x.1) (λx=>Xp x.1/\Xp x.2) (λx=>Y (x.1=x.2)) (λR x c P=>?_) (a,b) ⟨w,E⟩ (kj w.1);let⟨u,v⟩:=x;obtain⟨A,B⟩:Xp u/\Xp v:=c;let⟨X,q2,_⟩:=(Pu _ v).1 B.2;have l1:=ut u;have l2:=Yp u;have l3:=St u;have S:=A.1;show BN (λa h=>R (a,h)) u v=O (Y (u=v));unfold BN I3;rw[qhc (by omega),qcm _ _ X,qhd (R:=λa h=>R (a,h)) (a:=u.Args) (b:=v.Args) (by omega) (λx c y L=>P (x,y) (wT c) ⟨Uw A c,Uw B L⟩)];simp only[eJ,qlN];by_cases z:u.Preds.length=v.Preds.length
 .unfold I4;rw[P4 z (by unfold cz at S;omega) (λzz=>iy u v zz) (.inl ()) (.inr ()) (λi s t=>?_) ?_]
  .by_cases e:u.Preds=v.Preds
   .simp only[e,decide_true,if_true,eJ];by_cases d:(u.Op !=v.Op||(!(u.Name==v.Name)||(!Y (u.Names=v.Names)||(!Y (u.Pred=v.Pred)||((v.Preds.length:Int)!=(v.Preds.length:Int))))))=T;.rw[l7 d];congr 1;symm;rw[vbn,He];rintro⟨m,o,p,q,_⟩;simp[m,o,p,q]at d
    .rw[hG d];congr 1;simp only[vbh,vdc,va4,bne_iff_ne,ne_eq,Decidable.not_not,Bool.not_eq_false,vbf,oy]at d;let⟨m,o,p,q,_⟩:=d;rw[vbK];simp[He (a:=u) (b:=v),m,o,p,q,e]
   .simp only[e,decide_false,vaF,if_false,eJ,ite_self];congr 1;symm;rw[vbn,He];rintro⟨_,_,_,_,r,_⟩;exact e r
  .show iy u v (u.Preds.length:Int)=_;unfold iy;rw[hG (by simp)]
  .show iy u v (i:Int)=_;unfold iy;rw[l7 (by simpa using s),aC _ i s];simp only[eJ];rw[aC _ i t];simp only[eJ];rw[qcm _ _ (q2 _ (mx t))];simp only[eJ];by_cases H:u.Preds[i]=v.Preds[i]<;>simp[H]
 .have c:((u.Preds.length:Int)!=(v.Preds.length:Int))=true:=by simp;omega
  rw[l7 (by simp[c])];congr 1;symm;rw[vbn,He];rintro⟨_,_,_,_,r,_⟩;exact z (by rw[r])
def jN(e:ah):dB (al e)=1+(e.Name.length+1+(1+(bL (e.Kids.map al)+1+(bL (e.Params.map aU)+1+(bL (e.Alts.map bz)+1+(bL (e.Types.map aj)+1+0)))))):=by rw[d9];simp only[dB,pm,sl]
def qak(a:bH):dB (bz a)=a.Con.length+1+(bL (a.Names.map cS)+1+dB (al a.Body)):=by let⟨c,d,b⟩:=a;rw[bz];show dB (PVal.str c::sl cS d::al b)=_;simp only[dB,pm,sl];rfl
def Ms(p:aY):dB (aU p)=p.Name.length+1+dB (aj p.Type_):=by show dB (PVal.str p.Name::aj p.Type_)=_;simp only[dB,pm]
def qg2(p:aY):1<=dB (aU p):=by rw[Ms];omega
def Uy{α:Type}(c:α->V U){l:V α}{x:α}(h:x∈l):dB (c x)<=bL (l.map c):=GF (l9.2 ⟨x,h,rfl⟩)
def qd1{e x:ah}(h:x∈e.Kids):dB (al x)<dB (al e):=by have:=Uy al h;rw[jN e];omega
def qot{e:ah}{a:bH}(h:a∈e.Alts):dB (bz a)<dB (al e):=by have:=Uy bz h;rw[jN e];omega
def Wg{e:ah}{a:bH}(h:a∈e.Alts):dB (al a.Body)<dB (al e):=by have:=qot h;have:=qak a;omega
def qcd{e:ah}{p:aY}(h:p∈e.Params):dB (aU p)<dB (al e):=by have:=Uy aU h;rw[jN e];omega
def qfe{e:ah}{t:ai}(h:t∈e.Types):dB (aj t)<dB (al e):=by have:=Uy aj h;rw[jN e];omega
def qfd{e x:ah}(h:x∈bp e):dB (al x)<dB (al e):=by
 rcases vz.1 h with h|h;.exact qd1 h
 .obtain⟨a,b,rfl⟩:=l9.1 h;exact Wg b
def qlR{e x:ah}(h:x∈df e):dB (al x)<=dB (al e):=by
 revert x;refine qiE (Q:=λe=>∀{x},x∈df e->dB (al x)<=dB (al e)) (λe c x h=>?_) e;rw[xh]at h;rcases x8.1 h with rfl|h;.exact l8 _
 .let⟨y,a,b⟩:=vda.1 h;have:=c y a b;have:=qfd a;omega
mutual
def P9:∀(e:ah),nE e<=dB (al e)
 |⟨o,n,k,ks,ps,as1,ts⟩=>by
  have a:=qi8 ks;have b:=qi7 as1;have c:=Sp aU qg2 ps;have d:=Sp aj qjN ts;rw[nE,jN];show _<=1+(n.length+1+(1+(bL (ks.map al)+1+(bL (ps.map aU)+1+(bL (as1.map bz)+1+(bL (ts.map aj)+1+0))))))
  omega
def qqO:∀(a:bH),nA a<=dB (bz a)
 |⟨c,ns,b⟩=>by
  have d:=P9 b;have e:=qmE ns;rw[nA,qak];show _<=c.length+1+(bL (ns.map cS)+1+dB (al b))
  omega
def qi8:∀(l:List ah),Ny l<=bL (l.map al)
 |[]=>by simp[Ny]
 |e::l=>by have:=P9 e;have:=qi8 l;rw[Ny];simp only[ox,bL];omega
def qi7:∀(l:List bH),K7 l<=bL (l.map bz)
 |[]=>by simp[K7]
 |a::l=>by have:=qqO a;have:=qi7 l;rw[K7];simp only[ox,bL];omega
end
def qjk{t:ai}(h:dB (aj t)<=cz):Xp t:=⟨m0 (ZS t) h,qes cz t h⟩
def qef{a b:aY}:a=b↔a.Name=b.Name/\a.Type_=b.Type_:=by
 let⟨n,t⟩:=a;let⟨e,i⟩:=b;constructor;.rintro h;cases h;exact⟨rfl,rfl⟩
 .rintro⟨c,d⟩;cases c;cases d;rfl
def qkc{a b:bH}:a=b↔a.Con=b.Con/\a.Names=b.Names/\a.Body=b.Body:=by
 let⟨n,t,e⟩:=a;let⟨o,p,m⟩:=b;constructor;.rintro h;cases h;exact⟨rfl,rfl,rfl⟩
 .rintro⟨c,d,i⟩;cases c;cases d;cases i;rfl
def qhl{a b:ah}:a=b↔a.Op=b.Op/\a.Name=b.Name/\a.N=b.N/\a.Kids=b.Kids/\a.Types=b.Types/\a.Params=b.Params/\a.Alts=b.Alts:=by
 let⟨o,n,k,ks,B,d,ts⟩:=a;let⟨A,z,y,t,w,c,x⟩:=b;constructor;.rintro h;cases h;exact⟨rfl,rfl,rfl,rfl,rfl,rfl,rfl⟩
 .rintro⟨e,i,m,p,q,r,s⟩;cases e;cases i;cases m;cases p;cases q;cases r;cases s;rfl
abbrev Qp(e:ah):Prop:=dB (al e)<=cz
def tT{e:ah}(h:Qp e):nE e<=cz:=m0 (P9 e) h
def qji{e x:ah}(h:Qp e)(a:x∈bp e):Qp x:=m0 (vbB (qfd a)) h
def qlJ{e x:ah}(h:Qp e)(a:x∈e.Kids):Qp x:=m0 (vbB (qd1 a)) h
def qgC{e:ah}{a:bH}(h:Qp e)(b:a∈e.Alts):Qp a.Body:=m0 (vbB (Wg b)) h
def qbZ{e x:ah}(h:Qp e)(a:x∈df e):Qp x:=m0 (qlR a) h
def qb0{e:ah}{t:ai}(h:Qp e)(a:t∈e.Types):Xp t:=qjk (m0 (vbB (qfe a)) h)
def Sk{e:ah}{p:aY}(h:Qp e)(a:p∈e.Params):Xp p.Type_:=qjk (by have:=qcd a;have:=Ms p;have:dB (al e)<=cz:=h;omega)
def qjh{e:ah}{a:bH}(h:Qp e)(b:a∈e.Alts):a.Names.length<=cz:=m0 (vbB (LX b)) (tT h)
def qok(a b:aY)(c:Xp a.Type_):yf a b=O (Y (a=b)):=by unfold yf;rw[YB _ _ c];simp only[eJ,U0,FS];rw[vbK];simp[qef (a:=a) (b:=b)]
def qol{R:ah->ah->Q K}(a b:bH)(c:a.Names.length<=cz)(h:R a.Body b.Body=O (Y (a.Body=b.Body))):yg R a b=O (Y (a=b)):=by unfold yg;rw[Yt c,h];simp only[eJ,U0,FS];rw[vbK];simp[qkc (a:=a) (b:=b)]
def qjt{R:ah->ah->Q K}{a b:V ah}(e:a.length<=cz)(h:∀x∈a,∀y∈b,R x y=O (Y (x=y))):kc R a b=O (Y (a=b)):=by
 unfold kc lw;refine DZ e _ (λi c d=>?_) ?_ rfl rfl;.show ef R b a (a.length:Int) (i:Int)=_;unfold ef;rw[l7 (by simpa using c),aC a i c];simp only[eJ];rw[aC b i d];simp only[eJ];rw[h _ (mx c) _ (mx d)];simp only[eJ];by_cases m:a[i]=b[i]<;>simp[m]
 .show ef R b a (a.length:Int) (a.length:Int)=_;unfold ef;rw[hG (by simp)]
def qdS{a b:V aY}(e:a.length<=cz)(h:∀x∈a,Xp x.Type_):iJ a b=O (Y (a=b)):=by
 unfold iJ jR;refine DZ e _ (λi c d=>?_) ?_ rfl rfl;.show dC b a (a.length:Int) (i:Int)=_;unfold dC;rw[l7 (by simpa using c),aC a i c];simp only[eJ];rw[aC b i d];simp only[eJ];rw[qok _ _ (h _ (mx c))];simp only[eJ];by_cases m:a[i]=b[i]<;>simp[m]
 .show dC b a (a.length:Int) (a.length:Int)=_;unfold dC;rw[hG (by simp)]
def qjr{R:ah->ah->Q K}{a b:V bH}(e:a.length<=cz)(o:∀x∈a,x.Names.length<=cz)(h:∀x∈a,∀y∈b,R x.Body y.Body=O (Y (x.Body=y.Body))):iK R a b=O (Y (a=b)):=by
 unfold iK jS;refine DZ e _ (λi c d=>?_) ?_ rfl rfl;.show dD R b a (a.length:Int) (i:Int)=_;unfold dD;rw[l7 (by simpa using c),aC a i c];simp only[eJ];rw[aC b i d];simp only[eJ];rw[qol _ _ (o _ (mx c)) (h _ (mx c) _ (mx d))];simp only[eJ];by_cases m:a[i]=b[i]<;>simp[m]
 .show dD R b a (a.length:Int) (a.length:Int)=_;unfold dD;rw[hG (by simp)]
def qkk(e:ah):qB e.Types<=dB (al e):=by have:=VM e.Types;have:=jN e;omega
def qkx(a b:ah)(h:Qp a):EG a b=O (Y (a=b)):=by
 refine ql (F:=FC) (λx=>nE x.1) (λx=>Qp x.1) (λx=>Y (x.1=x.2)) (λR x c i=>?_) (a,b) h (kj (tT h));let⟨u,v⟩:=x;have d:Qp u:=c;have m:=tT d;have o:=Gm u;have p:=tA u;have q:=pA u;have r:=I0 u;show yh (λa e=>R (a,e)) u v=O (Y (u=v));unfold yh
 rw[qjt (R:=λa e=>R (a,e)) (a:=u.Kids) (b:=v.Kids) (by omega) (λx c y _=>i (x,y) (xU c) (qlJ d c)),Yu u.Types v.Types (m0 (qkk u) d) (λx c=>qb0 d c),
  qdS (by omega) (λx c=>Sk d c),qjr (R:=λa e=>R (a,e)) (a:=u.Alts) (b:=v.Alts) (by omega) (λx c=>qjh d c) (λx c y _=>i (x.Body,y.Body) (LW c) (qgC d c))]
 simp only[eJ,U0,FS];rw[vbK];simp[qhl (a:=u) (b:=v)]
def Pa{A:Type}(n:Nat)(x:n<9223372036854775808){b:Int->Q (Int⊕(A⊕Unit))}(P:Nat->Prop)(B:A->Prop)
  (h:∀i:Nat,i<n->fY (b (i:Int)) (λr=>r.elim (λt=>t=dc ((i:Int)+1)/\P i) (λy=>y.elim B (λ_=>False)))) (c:b (n:Int)=O (.inr (.inr ()))):fY (loop b 0) (λr=>r.elim B (λ_=>∀i,i<n->P i)):=by
 have o:∀k i,k+i=n->(∀j,j<i->P j)->fY (loop b (i:Int)) (λr=>r.elim B (λ_=>∀i,i<n->P i)):=by
  intro k;induction k with
  |zero=>
   intro i s d;have:i=n:=by omega
   subst this;rw[gL c];exact ak d
  | succ k ih =>
   intro i s d;let⟨r,e,m⟩:=h i (by omega);rw[jh,e];cases r with
   | inl t =>
    obtain⟨rfl,w⟩:=m;simp only;rw[ch (by omega) (by omega),show((i:Int)+1)=((i+1:Nat):Int) by omega]
    exact ih (i+1) (by omega) λj p=>by
     by_cases q:j=i;.subst q;exact w
     .exact d j (by omega)
   |inr y=>cases y with|inl a=>exact⟨_,rfl,m⟩|inr u=>exact m.elim
 exact o n 0 (by omega) λj p=>absurd p (w0 _)
def qiq{l:V aa}{i:Nat}(h:i<l.length)(b:Gf l l[i]=(i:Int)):∀k (o:k<l.length),k<i->l[i]≠l[k]:=by
 intro k o e m;unfold Gf at b;cases a:l.findIdx? (λx=>x==l[i])with
 |none=>rw[vby]at a;have:=a _ (mx h);simp at this
 | some j =>
  let⟨p,_,c⟩:=vbm.1 a;rw[a]at b;have d:j=i:=by
   have:(j:Int)=(i:Int):=by simpa using b
   omega
  subst d;have:=c k e;rw[m]at this;simp at this
def qgB{l:V aa}(h:∀i (b:i<l.length),∀k (e:k<l.length),k<i->l[i]≠l[k]):l.Nodup:=by unfold List.Nodup;rw[vcu];intro i j b d a c;exact h j d i b a c.symm
def qbn{l:V aa}(h:l.Nodup){i:Nat}(a:i<l.length):Gf l l[i]=(i:Int):=by
 have c:l.findIdx? (λx=>x==l[i])=O i:=by rw[vbm];refine⟨a,by simp,λk b=>?_⟩;unfold List.Nodup at h;rw[vcu]at h;simpa using h k i (by omega) a b
 unfold Gf;rw[c]
def Bo(l:V aa)(d:l.length<9223372036854775808):kC l=O (Y l.Nodup):=by
 have:fY (kC l) (λr=>r=Y l.Nodup):=by
  unfold kC zc;refine aA (Pa l.length d (λi=>∀(b:i<l.length),Gf l l[i]=(i:Int)) (λ_=>¬l.Nodup) (λi b=>?_) ?_) (λo c=>?_);.unfold oJ;rw[l7 (vaY (by omega)),aC _ i b];simp only[eJ];refine eZ (Kd l _ d) (aG (λa=>ak (λe=>?_)) (λa=>ak ⟨rfl,λ_=>by simpa using a⟩));rw[qbn e b]at a;simp at a
  .unfold oJ;rw[hG (by simp)]
  .cases o with|inl _=>have c:¬l.Nodup:=c;exact ak (decide_eq_false c).symm|inr _=>have c:∀i,i<l.length->∀(b:i<l.length),Gf l l[i]=(i:Int):=c;exact ak (vaY (qgB (λi b=>qiq b (c i b b)))).symm
 exact ql9.1 this
def OW(l:V aa):V (aa×K):=l.foldl (λm x=>mq m x T) []
def YL(l:V aa)(x:aa):OW (l++[x])=mq (OW l) x true:=by unfold OW;rw[vcy];rfl
def qcq(x:aa):∀(n:Nat)(l:List aa),l.length=n->(oe (OW l) x).getD Z=Y (x∈l)
 |0,l,h=>by have:l=[]:=vcD.1 h;subst this;simp[OW,oe]
 | n + 1,l,h => by
  obtain⟨c,y,rfl⟩:∃c y,l=c++[y]:=by
   have b:l≠[]:=λd=>by rw[d]at h;cases h
   exact⟨l.dropLast,l.getLast b,(List.dropLast_concat_getLast b).symm⟩
  rw[YL,RQ];have e:=qcq x n c (by simpa using h);by_cases a:x=y;.subst a;simp
  .have:(x==y)=false:=by simpa using a
   rw[this];simp only[vaF,if_false];rw[e];simp[a]
def Z7(l:V aa)(E:l.length<9223372036854775808):uM l=O (Y l.Nodup):=by
 unfold uM uN;have t:∀k i:Nat,k+i=l.length->(l.take i).Nodup->fY (loop (λ(c:Int×(V (aa×K)))=>cf l (l.length:Int) c.1 c.2) ((i:Int),OW (l.take i))) (λo=>o.elim (λ_=>¬l.Nodup) (λ_=>l.Nodup)):=by
  intro k;induction k with
  | zero =>
   intro i r q;have r:i=l.length:=by omega
   subst r;rw[vaR]at q ⊢;have d:(λ(c:Int×(V (aa×K)))=>cf l (l.length:Int) c.1 c.2) ((l.length:Int),OW l)=O (.inr (.inr (OW l))):=by show cf l (l.length:Int) (l.length:Int) (OW l)=_;unfold cf;rw[hG (by simp)]
   rw[gL d];exact ak q
  | succ k ihk =>
   intro i r q;have h:i<l.length:=by omega
   have y:=qcq l[i] _ (l.take i) rfl;have s:=vas h;by_cases p:l[i]∈l.take i
   .have d:(λ(c:Int×(V (aa×K)))=>cf l (l.length:Int) c.1 c.2) ((i:Int),OW (l.take i))=O (.inr (.inl (OW (l.take i)))):=by
     show cf l (l.length:Int) (i:Int) (OW (l.take i))=_
     unfold cf
     rw[l7 (vaY (by omega)),aC _ i h]
     simp only[eJ]
     rw[y,vaY p,l7 rfl]
    rw[gL d]
    refine ak (λB=>?_)
    have w:=(List.take_sublist (i+1) l).nodup B
    rw[s,vbw]at w
    exact w.2.2 _ p _ (va1.2 rfl) rfl
   .have d:(λ(c:Int×(V (aa×K)))=>cf l (l.length:Int) c.1 c.2) ((i:Int),OW (l.take i))=O (.inl (((i+1:Nat):Int),OW (l.take (i+1)))):=by
     show cf l (l.length:Int) (i:Int) (OW (l.take i))=_
     unfold cf
     rw[l7 (vaY (by omega)),aC _ i h]
     simp only[eJ]
     rw[y,decide_eq_false p,hG (by simp),ch (by omega) (by omega),s,YL,show((i:Int)+1)=((i+1:Nat):Int) by omega]
    rw[tN d]
    refine ihk (i+1) (by omega) ?_
    rw[s,vbw]
    exact⟨q,by simp,λa A b d x=>p (by rw[va1.1 d]at x;exact x▸A)⟩
 let⟨o,e,m⟩:=t l.length 0 (by omega) (by simp);rw[List.take_zero]at e;have z:loop (λ(c:Int×(V (aa×K)))=>cf l (l.length:Int) c.1 c.2) (0,[])=O o:=e;rw[z];simp only[eJ];cases o with|inl _=>have m:¬l.Nodup:=m;simp[m]|inr _=>have m:l.Nodup:=m;simp[m]
def qgw{X:Type}(n:Nat)(s:n<9223372036854775808){b a:Int->Q (Int⊕X)}(h:∀i:Nat,i<n->b (i:Int)=a (i:Int)/\∀t,a (i:Int)=O (.inl t)->t=dc ((i:Int)+1))(p:b (n:Int)=a (n:Int))(r:∀t,a (n:Int)≠O (.inl t)):loop b 0=loop a 0:=by
 have e:∀k i:Nat,k+i=n->loop b (i:Int)=loop a (i:Int):=by
  intro k;induction k with
  | zero =>
   intro i d;have d:i=n:=by omega
   subst d;rw[jh b,jh a,p];cases c:a (i:Int)with|none=>rfl|some y=>cases y with|inl t=>exact absurd c (r t)|inr _=>rfl
  | succ k ihk =>intro i d;let⟨m,o⟩:=h i (by omega);rw[jh b,jh a,m];cases c:a (i:Int)with|none=>rfl| some y =>cases y with|inl t=>have q:=o t c;simp only;rw[q,ch (by omega) (by omega),show((i:Int)+1)=((i+1:Nat):Int) by omega];exact ihk (i+1) (by omega)|inr _=>rfl
 exact e n 0 (by omega)
def qeA{a b r:K}:(if a then O (b||r)else O r)=O ((a&&b)||r):=by cases a<;>rfl
structure quV(op:Int)(sh:av)(ok:Bool)(u:aM):Prop where
 p:sk op=some (sh,ok)
 r:FQ op=some u
 n:sh.n=u.n
 name:sh.name=u.name
 least:sh.least=u.least
 most:sh.most=u.most
 params:sh.params=u.params
 alts:sh.alts=u.alts
 types:sh.types=u.types
 ok:ok=u.ok
 t:∀k:Int,0<=k->k<=1073741824->(u.types=false->k=0)->(decide (k<sh.typesLeast)||decide (k>sh.typesMost))= !((!u.exactly||k==1)&&(op !=7||decide (k<=1)))
def qhh(a:Int):∃sh ok u,quV a sh ok u:=by
 by_cases h:1<=a/\a<=26
 .have:a=1\/a=2\/a=3\/a=4\/a=5\/a=6\/a=7\/a=8\/a=9\/a=10\/a=11\/a=12\/a=13\/a=14\/a=15\/a=16\/a=17\/a=18\/a=19\/a=20\/a=21\/a=22\/a=23\/a=24\/a=25\/a=26:=by omega
  rcases this with h|h|h|h|h|h|h|h|h|h|h|h|h|h|h|h|h|h|h|h|h|h|h|h|h|h<;>subst h<;>
   exact⟨_,_,_,rfl,rfl,rfl,rfl,rfl,rfl,rfl,rfl,rfl,rfl,λk m c b=>by
    rw[vbK];simp at b ⊢;omega⟩
 .have d:∀k:Int,1<=k->k<=26->(a==k)=false:=λk c b=>by rw[beq_eq_false_iff_ne];omega
  have e:sk a=O ((⟨Z,Z,0,0,Z,Z,0,0,Z⟩:av),Z):=by unfold sk xG xH xI;simp[d]
  have i:FQ a=O (⟨Z,Z,0,0,Z,Z,Z,Z,Z⟩:aM):=by unfold FQ Kr Ks Kt;simp[d]
  refine⟨_,_,_,e,i,rfl,rfl,rfl,rfl,rfl,rfl,rfl,rfl,λk m c b=>?_⟩;have:=b rfl;subst this;simp
def qfE(l:V bH)(m:l.length<9223372036854775808):fu l=O (l.any λa=>Y ((a.Names.length:Int)>6)):=by
 unfold fu ko iW;rw[VT l m (λi=>i) (λp=>eh l (l.length:Int) p) (λa=>Y ((a.Names.length:Int)>6)) (λi=>.inl (i:Int)) (.inr ()) (λi h=>?_) ?_]
 .cases b:l.findIdx? (λa=>Y ((a.Names.length:Int)>6))with
  |none=>
   simp only[Option.elim,eJ];rw[vby]at b;congr 1;have:l.any (λa=>Y ((a.Names.length:Int)>6))=false:=by rw[vbl];exact λx o=>by simpa using b x o
   rw[this];rfl
  |some j=>
   simp only[Option.elim,eJ];let⟨c,d,_⟩:=vbm.1 b;congr 1;have:l.any (λa=>Y ((a.Names.length:Int)>6))=true:=by rw[vcG];exact⟨_,mx c,d⟩
   rw[this,decide_eq_true_iff];omega
 .unfold eh;rw[hG (by simp)]
 .unfold eh Aa;rw[l7 (by simpa using h),aC _ _ h];simp only[eJ];by_cases e:((l[i].Names.length:Int)>6)<;>simp[e]
def qfZ(e:ah)(p:Qp e){sh:av}{ok:K}{u:aM}(c:quV e.Op sh ok u)(q:u.types=Z->(e.Types.length:Int)=0):∃b,yj e sh=O b/\Hy e u=O b:=by
 have s:nE e<=1073741824:=tT p;have t:=tA e;have w:=I0 e;have m:=c.t (e.Types.length:Int) (by omega) (by omega) q;have d:E2 e 0=O (if(e.Alts.any λa=>Y ((a.Names.length:Int)>6))then .inl ()else .inr ()):=by
  unfold E2;refine px e.Alts (by omega) (λr=>sw e r) (λa=>Y ((a.Names.length:Int)>6)) (.inl ()) (.inr ()) (λi h=>?_) ?_ 0 (s5 _);.unfold sw;rw[l7 (by simpa using h),aC _ _ h];simp only[eJ];by_cases o:((e.Alts[i].Names.length:Int)>6)<;>simp[o]
  .unfold sw;rw[hG (by simp)]
 unfold yj xw xx Hy E1 Nm Nn;rw[qfE _ (by omega),d,c.least,c.most,c.params,c.alts];simp only[qlN,eJ];generalize (e.Alts.any λa=>Y ((a.Names.length:Int)>6))=nb at *;rw[m];generalize u.exactly=ex at *;generalize ((e.Types.length:Int)==1)=t1 at *;generalize (e.Op !=7)=o7 at *;generalize Y ((e.Types.length:Int)<=1)=t2 at *;generalize Y ((e.Kids.length:Int)<u.least)=k1 at *;generalize Y ((e.Kids.length:Int)>u.most)=k2 at *;generalize Y ((e.Params.length:Int)<1)=p1 at *;generalize Y ((e.Params.length:Int)>6)=p2 at *;generalize Y ((e.Alts.length:Int)<1)=a1 at *;generalize Y ((e.Alts.length:Int)>8)=a2 at *;clear m d;generalize u.params=up;generalize u.alts=ua;cases k1<;>cases k2<;>cases up<;>cases ua<;>cases nb<;>cases ex<;>cases t1<;>cases o7<;>cases t2<;>simp<;>(try (cases p1<;>cases p2<;>simp))<;>(try (cases a1<;>cases a2<;>simp))
def qa0(l:V aY)(d:l.length<=1073741824):qt l=O (l.map (·.Name)):=by
 unfold qt;have h:=dw l.length (λb:V aa×Int=>gm l (l.length:Int) b.1 b.2) (λi=>((l.take i).map (·.Name),(i:Int))) (l.map (·.Name)) (λi a=>?_) ?_
 .have c:z7 l (l.length:Int) ([]:V aa) 0=O (l.map (·.Name)):=by unfold z7;simpa using h
  rw[c];rfl
 .show gm l (l.length:Int) _ (i:Int)=_;unfold gm;rw[l7 (by simpa using a),aC _ _ a,eJ,gJ (by simp;omega),eJ,ch (by omega) (by omega),vas a,va5];rfl
 .show gm l (l.length:Int) _ (l.length:Int)=_;unfold gm;rw[hG (by simp),vaR]
def TN(l:V bH)(d:l.length<=1073741824):mc l=O (l.map (·.Con)):=by
 unfold mc;have h:=dw l.length (λb:V aa×Int=>dN l (l.length:Int) b.1 b.2) (λi=>((l.take i).map (·.Con),(i:Int))) (l.map (·.Con)) (λi a=>?_) ?_
 .have c:nG l (l.length:Int) ([]:V aa) 0=O (l.map (·.Con)):=by unfold nG;simpa using h
  rw[c];rfl
 .show dN l (l.length:Int) _ (i:Int)=_;unfold dN;rw[l7 (by simpa using a),aC _ _ a,eJ,gJ (by simp;omega),eJ,ch (by omega) (by omega),vas a,va5];rfl
 .show dN l (l.length:Int) _ (l.length:Int)=_;unfold dN;rw[hG (by simp),vaR]
def WI(l:V aa)(a:l.length<9223372036854775808):qw l=O (!Y l.Nodup):=by unfold qw;rw[Z7 l a];rfl
def zo(l:V bH):V aa:=l.flatMap λa=>a.Con::a.Names
def Oo:∀(l:List bH),(zo l).length<=K7 l
 |[]=>by simp[zo,K7]
 |a::l=>by have b:=Oo l;have c:=VV a;have d:=RU a.Body;unfold zo at *;rw[vcA,K7,oo,p6];omega
def qbS(l:V bH)(i:Nat)(h:i<l.length):zo (l.take (i+1))=zo (l.take i)++([l[i].Con]++l[i].Names):=by unfold zo;rw[vas h,vcX];simp
def qbO(l:V bH)(i:Nat):K7 (l.take i)<=K7 l:=by
 have:∀(l:V bH)(i:Nat),K7 (l.take i)<=K7 l:=by intro l;induction l with|nil=>intro i;simp|cons x l ih=>intro i;cases i with|zero=>simp[K7]|succ i=>have:=ih i;simp only[List.take_succ_cons,K7];omega
 exact this l i
def Ta(l:V bH)(v:V aa)(d:K)(h:v.length+K7 l<=1073741824):Ad l (l.length:Int) v d 0=O (v++zo l,d||l.any λa=>!Y a.Names.Nodup):=by
 have s:=Mi l;have g:=dw l.length (λm:V aa×K×Int=>gn l (l.length:Int) m.1 m.2.1 m.2.2) (λi=>(v++zo (l.take i),d||(l.take i).any λa=>!Y a.Names.Nodup,(i:Int))) (v++zo l,d||l.any λa=>!Y a.Names.Nodup) (λi c=>?_) ?_;.unfold Ad;simpa[zo]using g
 .have q:=Oo (l.take (i+1));have r:=qbO l (i+1);have o:=qbS l i c;have p:=m4 List.length o;simp only[oo,List.length_singleton]at p;show gn l (l.length:Int) _ _ (i:Int)=_;unfold gn;rw[l7 (by simpa using c),aC _ _ c,eJ,gJ (by simp only[oo,List.length_singleton];omega),eJ,gJ (by simp only[oo,List.length_singleton];omega),eJ,o,vas c,vcM,WI _ (by omega),ch (by omega) (by omega)];by_cases b:(d||(l.take i).any λa=>!Y a.Names.Nodup)=T;.rw[l7 b];rw[<-vcF,b];simp[va6]
  .rw[hG b];have e:(d||(l.take i).any λa=>!Y a.Names.Nodup)=false:=by simpa using b
   rw[<-vcF,e];simp[va6]
 .show gn l (l.length:Int) _ _ (l.length:Int)=_;unfold gn;rw[hG (by simp),vaR]
def XO(l:V aa)(e:l.length<9223372036854775808):fQ l=O (l.any λs=>!bX s):=by
 unfold fQ ly jp;rw[VT l e (λi=>i) (λo=>er l (l.length:Int) o) (λs=>!bX s) (λi=>.inl (i:Int)) (.inr ()) (λi h=>?_) ?_]
 .cases a:l.findIdx? (λs=>!bX s)with
  |none=>
   simp only[Option.elim,eJ];rw[vby]at a;congr 1;have:l.any (λs=>!bX s)=false:=by rw[vbl];exact λx m=>by simpa using a x m
   rw[this];rfl
  |some j=>
   simp only[Option.elim,eJ];let⟨b,c,_⟩:=vbm.1 a;congr 1;have:l.any (λs=>!bX s)=true:=by rw[vcG];exact⟨_,mx b,c⟩
   rw[this,decide_eq_true_iff];omega
 .unfold er;rw[hG (by simp)]
 .unfold er CL;rw[l7 (by simpa using h),aC _ _ h];simp only[eJ];rw[n7];simp only[eJ,uD];by_cases d:bX l[i]=T<;>simp[d]
def qhY(e:ah)(b:K):K:=(b&&!bX e.Name)||(e.Params.any (λp=>!bX p.Name)||e.Alts.any λa=>!bX a.Con||a.Names.any λs=>!bX s)
def qil(e:ah):K:=!Y (e.Params.map (·.Name)).Nodup||(!Y (e.Alts.map (·.Con)).Nodup||e.Alts.any λa=>!Y a.Names.Nodup)
def qjb(e:ah)(d:Qp e)(sh:av):Bu e sh=O (if qhY e sh.name then 3 else if qil e then 4 else 0):=by
 have i:nE e<=1073741824:=tT d;have m:=Gs e;have o:=tA e;have q:=pA e;have h:=Oo e.Alts;have b:∀v:V aa,((v++zo e.Alts).any λs=>!bX s)=(v.any (λs=>!bX s)||e.Alts.any λa=>!bX a.Con||a.Names.any λs=>!bX s):=λv=>by rw[vcM];congr 1;unfold zo;rw[List.any_flatMap];rfl
 unfold Bu Ab Ac;rw[qa0 _ (by omega),eJ,TN _ (by omega),eJ,WI _ (by simp;omega)];simp only[eJ];rw[WI _ (by simp;omega)];simp only[eJ,qlN];unfold qhY qil;cases sh.name with
 |true=>
  rw[l7 rfl,gJ (by simp;omega)];simp only[eJ];rw[Ta _ _ _ (by simp;omega)];simp only[eJ];rw[XO _ (by simp;omega)];simp only[eJ,b,vbr];have c:((e.Params.map (·.Name)++[e.Name]).any λs=>!bX s)=(e.Params.any (λp=>!bX p.Name)||!bX e.Name):=by simp[vcM,List.any_map,Function.comp_def]
  rw[c];generalize (e.Params.any λp=>!bX p.Name)=b1;generalize (!bX e.Name)=b2;generalize (e.Alts.any λa=>!bX a.Con||a.Names.any λs=>!bX s)=b3;generalize (!Y (e.Params.map (·.Name)).Nodup)=d1;generalize (!Y (e.Alts.map (·.Con)).Nodup)=d2;generalize (e.Alts.any λa=>!Y a.Names.Nodup)=d3;cases b1<;>cases b2<;>cases b3<;>cases d1<;>cases d2<;>cases d3<;>rfl
 |false=>
  rw[hG (by simp)];simp only[eJ];rw[Ta _ _ _ (by simp;omega)];simp only[eJ];rw[XO _ (by simp;omega)];simp only[eJ,b,vcS,vcf];have c:((e.Params.map (·.Name)).any λs=>!bX s)=(e.Params.any (λp=>!bX p.Name)):=by simp[List.any_map,Function.comp_def]
  rw[c];generalize (e.Params.any λp=>!bX p.Name)=b1;generalize (e.Alts.any λa=>!bX a.Con||a.Names.any λs=>!bX s)=b3;generalize (!Y (e.Params.map (·.Name)).Nodup)=d1;generalize (!Y (e.Alts.map (·.Con)).Nodup)=d2;generalize (e.Alts.any λa=>!Y a.Names.Nodup)=d3;cases b1<;>cases b3<;>cases d1<;>cases d2<;>cases d3<;>rfl
def qeb(e:ah)(t:Qp e)(u:aM):Rh e u=O (!qhY e u.name):=by
 have w:nE e<=1073741824:=tT t;have y:=tA e;have z:=pA e;have m:HA e 0=O (if(e.Params.any λp=>!bX p.Name)then .inl ()else .inr ()):=by
  unfold HA;refine px e.Params (by omega) (λc=>um e c) (λp=>!bX p.Name) (.inl ()) (.inr ()) (λi h=>?_) ?_ 0 (s5 _);.unfold um;rw[l7 (by simpa using h),aC _ _ h];simp only[eJ];rw[tj];simp only[eJ,uD];by_cases b:bX e.Params[i].Name=T<;>simp[b]
  .unfold um;rw[hG (by simp)]
 have o:HB e 0=O (if(e.Alts.any λa=>!bX a.Con||a.Names.any λs=>!bX s)then .inl ()else .inr ()):=by
  unfold HB;refine px e.Alts (by omega) (λc=>uo e c) (λa=>!bX a.Con||a.Names.any λs=>!bX s) (.inl ()) (.inr ()) (λi h=>?_) ?_ 0 (s5 _)
  .have x:=LX (mx h);have q:HC e (i:Int) 0=O (if(e.Alts[i].Names.any λs=>!bX s)then .inl ()else .inr ()):=by
    unfold HC;refine px e.Alts[i].Names (by omega) (λc=>uq e (i:Int) c) (λs=>!bX s) (.inl ()) (.inr ()) (λk d=>?_) ?_ 0 (s5 _);.unfold uq;rw[aC _ _ h];simp only[eJ];rw[l7 (by simpa using d),aC _ _ d];simp only[eJ];rw[tj];simp only[eJ,uD];by_cases b:bX e.Alts[i].Names[k]=T<;>simp[b]
    .unfold uq;rw[aC _ _ h];simp only[eJ];rw[hG (by simp)]
   unfold uo;rw[l7 (by simpa using h),aC _ _ h];simp only[eJ];rw[tj,q];simp only[eJ,uD];by_cases b:bX e.Alts[i].Con=T;.by_cases r:(e.Alts[i].Names.any λs=>!bX s)=T<;>simp[b,r]
   .simp[b]
  .unfold uo;rw[hG (by simp)]
 unfold Rh Pp;rw[m,o,tj];simp only[eJ,uD];unfold qhY;generalize (e.Params.any λp=>!bX p.Name)=b1;generalize (e.Alts.any λa=>!bX a.Con||a.Names.any λs=>!bX s)=b3;generalize bX e.Name=b2;cases u.name<;>cases b1<;>cases b2<;>cases b3<;>rfl
def qar(e:ah)(t:Qp e):Hz e=O (!qil e):=by
 have w:nE e<=1073741824:=tT t;have z:=tA e;have A:=pA e;have r:zd e ([]:V aa) 0=O (e.Params.map (·.Name)):=by
  have h:=dw e.Params.length (λq:V aa×Int=>iz e q.1 q.2) (λi=>((e.Params.take i).map (·.Name),(i:Int))) (e.Params.map (·.Name)) (λi d=>?_) ?_;.unfold zd;simpa using h
  .show iz e _ (i:Int)=_;unfold iz;rw[l7 (by simpa using d),aC _ _ d,eJ,gJ (by simp;omega),eJ,ch (by omega) (by omega),vas d,va5];rfl
  .show iz e _ (e.Params.length:Int)=_;unfold iz;rw[hG (by simp),vaR]
 have s:kv e ([]:V aa) 0=O (if(e.Alts.any λa=>!Y a.Names.Nodup)then .inl ()else .inr (e.Alts.map (·.Con))):=by
  have p:∀(k i:Nat),i+k=e.Alts.length->kv e ((e.Alts.take i).map (·.Con)) (i:Int)=O (if((e.Alts.drop i).any λa=>!Y a.Names.Nodup)then .inl ()else .inr (e.Alts.map (·.Con))):=by
   intro k;induction k with
   | zero =>
    intro i d;have:i=e.Alts.length:=by omega
    subst this;unfold kv;rw[gL (x:=.inr (e.Alts.map (·.Con))) ?_];.simp
    .show kD e _ (e.Alts.length:Int)=_;unfold kD;rw[hG (by simp),vaR]
   | succ k ih =>
    intro i d;have b:i<e.Alts.length:=by omega
    have y:=LX (mx b);have m:kD e ((e.Alts.take i).map (·.Con)) (i:Int)=O (if e.Alts[i].Names.Nodup then .inl ((e.Alts.take (i+1)).map (·.Con),((i+1:Nat):Int))else .inr (.inl ())):=by unfold kD;rw[l7 (by simpa using b),aC _ _ b,eJ,gJ (by simp;omega)];simp only[eJ];rw[Bo _ (by omega)];simp only[eJ];rw[ch (by omega) (by omega),vas b,va5];by_cases c:e.Alts[i].Names.Nodup<;>simp[c]
    rw[vaN b,List.any_cons];by_cases c:e.Alts[i].Names.Nodup;.rw[l7 c]at m;have h:=ih (i+1) (by omega);unfold kv at h ⊢;rw[tN (s':=((e.Alts.take (i+1)).map (·.Con),((i+1:Nat):Int))) m,h];simp[c]
    .rw[hG c]at m;unfold kv;rw[gL (x:=.inl ()) m];simp[c]
  have:=p e.Alts.length 0 (by omega);rw[vbj]at this;exact this
 unfold Hz;rw[r,s];simp only[eJ];unfold qil;by_cases c:(e.Alts.any λa=>!Y a.Names.Nodup)=T;.simp[c]
 .have o:(e.Alts.any λa=>!Y a.Names.Nodup)=false:=by simpa using c
  rw[o];simp only[vaF,if_false];rw[Bo _ (by simp;omega),Bo _ (by simp;omega)];simp only[eJ,U0];generalize Y (e.Params.map (·.Name)).Nodup=d1;generalize Y (e.Alts.map (·.Con)).Nodup=d2;cases d1<;>cases d2<;>rfl
abbrev Tv:ai:=⟨0,[],[],[],⟨0,[],0,[]⟩,[]⟩
def qjl:Xp Tv:=⟨by simp[lq,qB,cz],(Pu _ _).2 ⟨qlB,(λq a=>nomatch a),hV⟩⟩
def qlF(t:ai)(h:Xp t):EL t=O (Y (t=Tv)):=by unfold EL;rw[YB _ _ h];rfl
def qer(t:ai)(h:Xp t):UR t=O (Y (t=Tv)):=by unfold UR;rw[qhg _ _ h qjl];rfl
def qhr(e:ah):vV e.Types (e.Types.length:Int) 0=AE e 0:=by unfold vV AE;congr 1;funext zz;unfold xz ur;simp only[SK]
def qhs(e:ah)(o:Qp e):vW e.Params (e.Params.length:Int) 0=AF e 0:=by
 have y:nE e<=1073741824:=tT o;have z:=pA e;unfold vW AF
 have d:∀i:Nat,i<e.Params.length->∃r,mK e.Params (e.Params.length:Int) (i:Int)=O r/\jG e (i:Int)=O r/\∀t,r=.inl t->t=dc ((i:Int)+1):=λi a=>by
  have h:=Sk o (mx a);let⟨c,w,_⟩:=Do _ h.1;unfold mK jG HD CM;rw[l7 (by simpa using a),l7 (by simpa using a),aC _ _ a];simp only[eJ,X0,X1,SK];rw[w,qlF _ h,qer _ h];simp only[eJ];by_cases p:e.Params[i].Type_=Tv;.by_cases b:(c !=0)=T<;>simp[p,b]
  .by_cases b:(c !=0)=T<;>simp[p,b]
 refine qgw e.Params.length (by omega) (λi a=>?_) ?_ (λt=>?_);.let⟨r,q,m,s⟩:=d i a;exact⟨q.trans m.symm,λt x=>s t (vbp (m.symm.trans x))⟩
 .unfold mK jG;rw[hG (by simp),hG (by simp)]
 .unfold jG;rw[hG (by simp)];simp
def qht(e:ah)(b:Qp e):fY (LU e) (λ_=>True):=by
 have q:nE e<=1073741824:=tT b;have r:=pA e;have s:=I0 e;unfold LU;refine aA (R:=λ_=>True) ?_ (λo _=>?_)
 .unfold AE;refine(Pa e.Types.length (by omega) (λ_=>True) (λ_=>True) (λi a=>?_) ?_).mono (λ_ _=>trivial);.unfold ur;rw[l7 (by simpa using a),aC _ _ a];simp only[eJ];refine aA (Do _ (qb0 b (mx a)).1) (λc _=>aG (λ_=>ak hV) (λ_=>ak ⟨rfl,hV⟩))
  .unfold ur;rw[hG (by simp)]
 .cases o with
  |inl o=>exact ak hV
  | inr o =>
   refine aA (R:=λ_=>True) ?_ (λo _=>by cases o<;>exact ak hV);unfold AF;refine(Pa e.Params.length (by omega) (λ_=>True) (λ_=>True) (λi a=>?_) ?_).mono (λ_ _=>trivial)
   .have h:=Sk b (mx a);let⟨c,p,_⟩:=Do _ h.1;unfold jG HD;rw[l7 (by simpa using a),aC _ _ a];simp only[eJ];rw[p,qer _ h];simp only[eJ];by_cases m:e.Params[i].Type_=Tv;.simp only[m,decide_true,if_true,eJ];exact ak ⟨rfl,hV⟩
    .simp only[m,decide_false,vaF,if_false];by_cases d:(c !=0)=T;.simp only[d,if_true,eJ];exact ak hV
     .simp only[d,if_false,eJ];exact ak ⟨rfl,hV⟩
   .unfold jG;rw[hG (by simp)]
def qlC(e:ah)(d:Qp e):∃c,yZ e=O c/\BO e=O c:=by
 have R:nE e<=1073741824:=tT d;let⟨sh,ok,u,a⟩:=qhh e.Op;let⟨c,B,_⟩:=qht e d;have r:∃b,vU e=O b/\DF e=O b:=by unfold vU DF V5 J8;simp only[U0,qlN,qeA,eJ];exact⟨_,rfl,rfl⟩
 let⟨E,m,o⟩:=r;unfold yZ BO;rw[a.p,a.r];simp only[eJ];have p:vS e sh.n sh.name sh.most sh.params sh.alts sh.types=O ((!u.n&&(e.N !=0))||((!u.name&&!(e.Name==([]:aa)))||((u.most==0&&Y ((e.Kids.length:Int)>0))||((!u.params&&Y ((e.Params.length:Int)>0))||((!u.alts&&Y ((e.Alts.length:Int)>0))||(!u.types&&Y ((e.Types.length:Int)>0))))))):=by unfold vS;rw[a.n,a.name,a.most,a.params,a.alts,a.types];simp only[U0,qlN,qeA]
 have s:DE e u.n u.name u.most u.ok=O (!u.ok||((!u.n&&(e.N !=0))||((!u.name&&!(e.Name==([]:aa)))||(u.most==0&&Y ((e.Kids.length:Int)>0))))):=by unfold DE;simp only[U0,qlN,qeA]
 have t:Kq e u.params u.alts u.types=O ((!u.params&&Y ((e.Params.length:Int)>0))||((!u.alts&&Y ((e.Alts.length:Int)>0))||(!u.types&&Y ((e.Types.length:Int)>0)))):=by unfold Kq;simp only[U0,qlN,qeA]
 rw[p,s,t];have q:∀b,vT ok b=O (!u.ok||b):=λb=>by unfold vT;rw[a.ok,qlN]
 simp only[eJ,q];by_cases z:u.types=Z->(e.Types.length:Int)=0
 .let⟨F,x,y⟩:=qfZ e d a z;rw[x,y,m,o,qjb e d,qeb e d,qar e d,qhr,qhs e d,a.name];have h:=B;unfold LU at h;rw[B];simp only[eJ];generalize (!u.n&&(e.N !=0))=a1;generalize (!u.name&&!(e.Name==([]:aa)))=a2;generalize (u.most==0&&Y ((e.Kids.length:Int)>0))=a3;generalize (!u.params&&Y ((e.Params.length:Int)>0))=a4;generalize (!u.alts&&Y ((e.Alts.length:Int)>0))=a5;generalize (!u.types&&Y ((e.Types.length:Int)>0))=a6;generalize u.ok=a0;generalize qhY e u.name=n1;generalize qil e=n2;by_cases i:(!a0||(a1||(a2||(a3||(a4||(a5||a6))))))=T;.rw[l7 i];refine⟨1,rfl,?_⟩;cases a0<;>cases a1<;>cases a2<;>cases a3<;>cases a4<;>cases a5<;>cases a6<;>first|rfl|simp at i
  .rw [hG i];have w:a0=T/\a1=Z/\a2=Z/\a3=Z/\a4=Z/\a5=Z/\a6=false:=by revert i;cases a0<;>cases a1<;>cases a2<;>cases a3<;>cases a4<;>cases a5<;>cases a6<;>simp
   obtain⟨rfl,rfl,rfl,rfl,rfl,rfl,rfl⟩:=w;cases F with|false=>exact⟨13,rfl,rfl⟩| true =>cases E with|true=>exact⟨2,rfl,rfl⟩| false =>cases n1 with|true=>exact⟨3,rfl,rfl⟩|false=>cases n2 with|true=>exact⟨4,rfl,rfl⟩|false=>exact⟨c,h,rfl⟩
 .have H:u.types=false:=Classical.byContradiction λA=>z λL=>absurd L A;have P:¬(e.Types.length:Int)=0:=λA=>z λ_=>A;have m:Y ((e.Types.length:Int)>0)=true:=by simp;omega
  rw[H,m];generalize (!u.n&&(e.N !=0))=a1;generalize (!u.name&&!(e.Name==([]:aa)))=a2;generalize (u.most==0&&Y ((e.Kids.length:Int)>0))=a3;generalize (!u.params&&Y ((e.Params.length:Int)>0))=a4;generalize (!u.alts&&Y ((e.Alts.length:Int)>0))=a5;generalize u.ok=a0;refine⟨1,l7 (by simp),?_⟩;cases a0<;>cases a1<;>cases a2<;>cases a3<;>cases a4<;>cases a5<;>rfl
def Rx(e:ah):Int:=(BO e).getD 0
def Sy{e:ah}(d:Qp e):BO e=O (Rx e)/\yZ e=O (Rx e):=by let⟨c,a,b⟩:=qlC e d;unfold Rx;rw[b];exact⟨rfl,a⟩
def mn:List ah->Int|[]=>0|x::l=>if Rx x=0 then mn l else Rx x
def Nu:∀(l m:List ah),mn (l++m)=if mn l=0 then mn m else mn l
 |[],m=>by simp[mn]
 | x :: l,m => by
  rw[vaT,mn,mn,Nu l m];by_cases h:Rx x=0;.simp[h]
  .simp[h]
def qhx(e:ah)(m:Qp e):∃b,me e 0=O (b,mn (df e)):=by
 rw[Uh e 0 (tT m)];have i:∀(l:V ah),(∀x∈l,Qp x)->∃b,J4 (λs x=>jU x s) l (0:Int)=O (b,mn l):=by
  intro l;induction l with
  |nil=>intro _;exact⟨T,rfl⟩
  | cons x l ih =>
   intro h;have d:=(Sy (h x (by simp))).2;have o:jU x 0=O (Rx x==0,Rx x):=by unfold jU;rw[d];rfl
   rw[J4,o,mn];by_cases a:Rx x=0;.simp only[eJ,a,beq_self_eq_true,if_true];exact ih λy p=>h y (by simp[p])
   .have c:(Rx x==0)=false:=by simpa using a
    simp only[eJ,c,a,if_false];exact⟨Z,rfl⟩
 exact i _ λx d=>qbZ m d
def qeH(e:ah)(c:Qp e):qaQ e=O (mn (df e)):=by
 refine ql (F:=US) nE Qp (λx=>mn (df x)) (λR e c r=>?_) e c (kj (tT c));have s:nE e<=1073741824:=tT c;have m:=DI e;show NM (λe=>R e) e=_;unfold NM;rw[(Sy c).1,Rk e (tT c)];simp only[eJ];have d:∀(k i:Nat)(v:Int),i+k=(bp e).length->yw (λe=>R e) (bp e) v (i:Int)=O (if v=0 then mn (((bp e).drop i).flatMap df)else v):=by
  intro k;induction k with
  | zero =>
   intro i v q;have:i=(bp e).length:=by omega
   subst this;unfold yw;rw[gL (x:=v) ?_]
   .rw[vbU];by_cases b:v=0;.rw[l7 b,b];rfl
    .rw[hG b]
   .show lp (λe=>R e) (bp e) v ((bp e).length:Int)=_;unfold lp DD;rw[hG (by simp)];rfl
  | succ k ihk =>
   intro i v q;have a:i<(bp e).length:=by omega
   have o:(bp e)[i]∈bp e:=mx a;by_cases b:v=0
   .have p:lp (λe=>R e) (bp e) v (i:Int)=O (.inl (mn (df (bp e)[i]),((i+1:Nat):Int))):=by
     unfold lp DD
     rw[l7 (by simpa using a),b]
     simp only[eJ,beq_self_eq_true,if_true]
     rw[aC _ _ a]
     simp only[eJ]
     rw[r _ (L1 o) (qji c o),ch (by omega) (by omega)]
     rfl
    have h:=ihk (i+1) (mn (df (bp e)[i])) (by omega)
    unfold yw at h ⊢
    rw[tN (s':=(mn (df (bp e)[i]),((i+1:Nat):Int))) p,h,l7 b,vaN a,vcA,Nu]
   .unfold yw;rw[gL (x:=v) ?_,hG b];show lp (λe=>R e) (bp e) v (i:Int)=_;unfold lp DD;rw[l7 (by simpa using a)];simp only[eJ];rw[hG (by simpa using b)]
 have h:=d (bp e).length 0 (Rx e) (by omega);rw[show((0:Nat):Int)=0 from rfl]at h;rw[h,vbj,xh,mn];rfl
theorem qhC(e:ah)(a:Qp e):∃c,qr e=O c/\LS e=O c:=by
 let⟨b,i⟩:=qhx e a;unfold qr LS;rw[qhJ e (tT a),Sw e (tT a),qhG e (tT a),YD e (tT a),i,qeH e a];simp only[eJ];by_cases d:Y (((df e).length:Int)>400)=T;.rw[l7 d];exact⟨_,rfl,rfl⟩
 .rw[hG d];by_cases h:Y ((dE e:Int)>40)=T;.rw[l7 h];exact⟨_,rfl,rfl⟩
  .rw[hG h];exact⟨_,rfl,rfl⟩
structure qmP(e:ah):Prop where
 rng:1<=e.Op/\e.Op<=26
 n1:e.Op=1->qnY e.N
 k1:e.Op=6\/e.Op=9\/e.Op=15\/e.Op=21\/e.Op=22\/e.Op=23\/e.Op=26->∃a,e.Kids=[a]
 k2:e.Op=7\/(10<=e.Op/\e.Op<=14)\/(16<=e.Op/\e.Op<=20)\/e.Op=24->∃a b,e.Kids=[a,b]
 k3:e.Op=8->∃a b c,e.Kids=[a,b,c]
 k5:e.Op=5->1<=e.Kids.length
 k25:e.Op=25->2<=e.Kids.length
 t26:e.Op=26->∃t,e.Types=[t]
def qn3{α:Type}{l:V α}(h:l.length=1):∃a,l=[a]:=by match l,h with|[a],_=>exact⟨a,rfl⟩
def quj{α:Type}{l:V α}(h:l.length=2):∃a b,l=[a,b]:=by match l,h with|[a,b],_=>exact⟨a,b,rfl⟩
def quk{α:Type}{l:V α}(h:l.length=3):∃a b c,l=[a,b,c]:=by match l,h with|[a,b,c],_=>exact⟨a,b,c,rfl⟩
structure qvW(op:Int)(u:aM):Prop where
 rng:u.ok=true->1<=op/\op<=26
 k1:op=6\/op=9\/op=15\/op=21\/op=22\/op=23\/op=26->u.least=1/\u.most=1
 k2:op=7\/(10<=op/\op<=14)\/(16<=op/\op<=20)\/op=24->u.least=2/\u.most=2
 k3:op=8->u.least=3/\u.most=3
 k5:op=5->u.least=1
 k25:op=25->u.least=2
 t26:op=26->u.exactly=true
def qhv(a:Int):∃u,FQ a=O u/\qvW a u:=by
 by_cases h:1<=a/\a<=26
 .have:a=1\/a=2\/a=3\/a=4\/a=5\/a=6\/a=7\/a=8\/a=9\/a=10\/a=11\/a=12\/a=13\/a=14\/a=15\/a=16\/a=17\/a=18\/a=19\/a=20\/a=21\/a=22\/a=23\/a=24\/a=25\/a=26:=by omega
  rcases this with h|h|h|h|h|h|h|h|h|h|h|h|h|h|h|h|h|h|h|h|h|h|h|h|h|h<;>subst h<;>
   exact⟨_,rfl,⟨λ_=>by omega,λh=>by first|exact⟨rfl,rfl⟩|omega,λh=>by first|exact⟨rfl,rfl⟩|omega,λh=>by first|exact⟨rfl,rfl⟩|omega,λh=>by first|rfl|omega,λh=>by first|rfl|omega,λh=>by first|rfl|omega⟩⟩
 .have b:∀k:Int,1<=k->k<=26->(a==k)=false:=λk c d=>by rw[beq_eq_false_iff_ne];omega
  refine⟨⟨Z,Z,0,0,Z,Z,Z,Z,Z⟩,?_,⟨λh=>(by cases h),λh=>(by omega),λh=>(by omega),λh=>(by omega),λh=>(by omega),λh=>(by omega),λh=>(by omega)⟩⟩;unfold FQ Kr Ks Kt;simp[b]
def qjd(e:ah)(h:BO e=O 0):qmP e:=by
 let⟨u,S,o⟩:=qhv e.Op;unfold BO at h;rw[S]at h;simp only[eJ]at h;let⟨o1,t,h⟩:=L0 h;rcases Hr h with⟨y,h⟩|⟨y,h⟩;.cases h
 let⟨o2,e2,h⟩:=L0 h;rcases Hr h with⟨F,h⟩|⟨F,h⟩;.cases h
 let⟨o3,c,h⟩:=L0 h;rcases Hr h with⟨x,h⟩|⟨x,h⟩;.cases h
 let⟨o4,m,h⟩:=L0 h;rcases Hr h with⟨B,h⟩|⟨B,h⟩;.cases h
 have z:u.ok=true:=by
  unfold DE at t;rcases Hr t with⟨d,t⟩|⟨d,t⟩;.rw[<-vbp t]at y;cases y
  .simpa using d
 have w:(u.least<=(e.Kids.length:Int)/\(e.Kids.length:Int)<=u.most)/\(u.exactly=T->(e.Types.length:Int)=1):=by
  have x:o3=true:=by simpa using x
  subst x;unfold Hy at c;let⟨p1,r,c⟩:=L0 c;rcases Hr c with⟨s,c⟩|⟨s,c⟩;.cases c
  let⟨p2,q2,c⟩:=L0 c;rcases Hr c with⟨H,c⟩|⟨H,c⟩;.cases c
  let⟨p3,q3,c⟩:=L0 c;rcases Hr c with⟨L,c⟩|⟨L,c⟩;.cases c
  let⟨p4,q4,c⟩:=L0 c;refine⟨?_,λX=>?_⟩
  .subst s;unfold E1 at r;rcases Hr r with⟨d,r⟩|⟨d,r⟩;.cases r
   .simp at d r;omega
  .cases p4 with
   |inl _=>cases c
   | inr _ =>
    simp only[]at c;rcases Hr c with⟨d,c⟩|⟨d,c⟩;.rw[X]at d;cases d
    .rcases Hr c with⟨E,c⟩|⟨E,c⟩;.simpa using E
     .cases c
 let⟨⟨hl,hm⟩,R⟩:=w;refine⟨o.rng z,λP=>?_,λi=>qn3 ?_,λi=>quj ?_,λi=>quk ?_,λi=>?_,λi=>?_,λi=>qn3 ?_⟩
 .subst B;unfold DF at m;rw[l7 (by simp[P])]at m;let⟨q,p,m⟩:=L0 m;rcases Hr m with⟨d,m⟩|⟨d,m⟩;.cases m
  .have A:q=true:=by simpa using d
   subst A;unfold J8 at p;rcases Hr p with⟨s,p⟩|⟨s,p⟩;.simp at s p;exact⟨by omega,p⟩
   .cases p
 .let⟨a,b⟩:=o.k1 i;omega
 .let⟨a,b⟩:=o.k2 i;omega
 .let⟨a,b⟩:=o.k3 i;omega
 .have:=o.k5 i;omega
 .have:=o.k25 i;omega
 .have:=R (o.t26 i);omega
def Ap(e:ah):Prop:=∀x∈df e,qmP x
def B5{e:ah}(h:Ap e):qmP e:=h e (qj8 e)
def Vw{e x:ah}(h:Ap e)(a:x∈bp e):Ap x:=λy b=>h y (by rw[xh];exact vaQ _ (vda.2 ⟨x,a,b⟩))
def tH{e x:ah}(h:Ap e)(a:x∈e.Kids):Ap x:=Vw h (va7 _ a)
def qga{e:ah}{a:bH}(h:Ap e)(b:a∈e.Alts):Ap a.Body:=Vw h (vaZ _ (l9.2 ⟨a,b,rfl⟩))
abbrev qct(e:ah):Prop:=dB (al e)<=16777216
theorem qee{e:ah}(h:qct e):Qp e:=m0 h (by unfold cz;omega)
def S5:∀(l:List ah),mn l=0->∀x∈l,Rx x=0
 |[],_=>λx a=>nomatch a
 | y :: l,h => fun x a => by
  rw[mn]at h;by_cases b:Rx y=0
  .rw[l7 b]at h;rcases x8.1 a with rfl|a;.exact b
   .exact S5 l h x a
  .rw[hG b]at h;exact absurd h b
theorem qc9(e:ah)(i:qct e)(h:LS e=O 0):Ap e:=by
 have a:=qee i;unfold LS at h;rw[Sw e (tT a),YD e (tT a),qeH e a]at h;simp only[eJ]at h;rcases Hr h with⟨c,h⟩|⟨c,h⟩;.cases h
 rcases Hr h with⟨c,h⟩|⟨c,h⟩;.cases h
 intro x b;have d:=S5 _ (vbp h) x b;exact qjd x (by rw[(Sy (qbZ a b)).1,d])
def qwH(e:ah):Int:=if e.Op=7\/e.Op=8\/e.Op=9\/e.Op=6\/e.Op=25 then 0 else if e.Op=20 then 1 else if e.Op=19 then 2 else if e.Op=21 then(if(e.Kids.headD ⟨0,[],0,[],[],[],[]⟩).Op=16 then 4 else 3)else if e.Op=16\/e.Op=17\/e.Op=18 then 4 else if e.Op=10\/e.Op=11 then 5 else if e.Op=12\/e.Op=13\/e.Op=14 then 6 else if e.Op=15 then 7 else 8
def qrI(o:Int):aa:=if o=20 then Hp else if o=19 then Hn else if o=16 then qkm else if o=17 then Tp else if o=18 then Ho else if o=10 then YV else if o=11 then ER else if o=12 then YU else if o=13 then qrq else qrr
def qjK(e:ah)(h:qmP e):yO e=O (qwH e):=by
 let⟨i,m⟩:=h.rng;have c:=h.k1;let⟨o,q,n,ks,r,p,ts⟩:=e;replace i:1<=o:=i;replace m:o<=26:=m;replace c:o=6\/o=9\/o=15\/o=21\/o=22\/o=23\/o=26->∃a,ks=[a]:=c;have:o=1\/o=2\/o=3\/o=4\/o=5\/o=6\/o=7\/o=8\/o=9\/o=10\/o=11\/o=12\/o=13\/o=14\/o=15\/o=16\/o=17\/o=18\/o=19\/o=20\/o=22\/o=23\/o=24\/o=25\/o=26\/o=21:=by omega
 rcases this with rfl|rfl|rfl|rfl|rfl|rfl|rfl|rfl|rfl|rfl|rfl|rfl|rfl|rfl|rfl|rfl|rfl|rfl|rfl|rfl|rfl|rfl|rfl|rfl|rfl|rfl;case' inr.inr.inr.inr.inr.inr.inr.inr.inr.inr.inr.inr.inr.inr.inr.inr.inr.inr.inr.inr.inr.inr.inr.inr.inr=>
  obtain⟨a,rfl⟩:=c (by omega)
  show(cJ [a] 0).bind (λd=>if(d.Op==16)then O 4 else O 3)=O (if a.Op=16 then 4 else 3)
  rw[fG]
  simp only[eJ]
  by_cases b:a.Op=16<;>simp[b]
 all_goals rfl
def qli{α:Type}(x y:α)(l:V α):cJ (x::y::l) 1=O y:=by have:=aC (x::y::l) 1 (by simp);exact this
def qt9{α:Type}(x y z:α)(l:V α):cJ (x::y::z::l) 2=O z:=by have:=aC (x::y::z::l) 2 (by simp);exact this
def QM{e x:ah}(h:qct e)(a:x∈e.Kids):qct x:=m0 (vbB (qd1 a)) h
def ql2{e:ah}{a:bH}(h:qct e)(b:a∈e.Alts):qct a.Body:=m0 (vbB (Wg b)) h
def qcu{e:ah}{t:ai}(h:qct e)(a:t∈e.Types):Re t:=m0 (vbB (qfe a)) h
def ql3{e:ah}{p:aY}(h:qct e)(a:p∈e.Params):Re p.Type_:=by have b:=qcd a;have c:=Ms p;unfold Re;unfold qct at h;omega
def qko(t:ai)(h:Re t):Y (t=Tv)=(Y (t.Op=0)&&(Y (t.Name=[])&&(Y (t.Args=[])&&(Y (t.Names=[])&&(Y (t.Pred=Hq)&&Y (t.Preds=[])))))):=by let⟨o,n,a,b,p,c⟩:=t;simp[Tv,Hq];rfl
def qjT(t:ai)(h:Re t):yd t=O (Y (t=Tv)):=by
 unfold yd;rw[qko t h];by_cases b:t.Op=0
 .rw [l7 (by simp [b])];by_cases c:t.Name=[]
  .rw [l7 (by simp [c])];by_cases d:t.Args=[]
   .rw [l7 (by simp [d])];by_cases i:t.Names=[]
    .rw [l7 (by simp [i]),xp _ (LD h)];simp only[eJ];by_cases m:t.Pred=Hq
     .rw[l7 (by simp[m])];have a:((t.Preds.length:Int)==0)=Y (t.Preds=[]):=by
       by_cases a:t.Preds=[]
       .rw[vaY a,a];rfl
       .rw[decide_eq_false a,beq_eq_false_iff_ne];intro e;exact a (IO (by omega))
      simp[b,c,d,i,m,a]
     .rw[hG (by simp[m])];simp[m]
    .rw[hG (by simpa using i)];simp[i]
   .rw[hG (by simpa using d)];simp[d]
  .rw[hG (by simpa using c)];simp[c]
 .rw[hG (by simpa using b)];simp[b]
end Go.Proofs.YtankopenjcbeeaaGreatDoor
