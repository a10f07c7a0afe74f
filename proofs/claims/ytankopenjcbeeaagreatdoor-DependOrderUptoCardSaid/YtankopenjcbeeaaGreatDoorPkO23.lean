/- PROVED: a part of the proof. Conditions: none. -/
import Derived.Test.YtankopenjcbeeaaGreatDoorPkO22
import Derived.Test.YtankopenjcbeeaaGreatDoorPkO20
import Derived.Lib.SlicesCompact
import Derived.Test.YtankopenjcbeeaaGreatDoorPkO12
import Derived.Test.YtankopenjcbeeaaGreatDoorPkO21
import Derived.Test.YtankopenjcbeeaaGreatDoorPkO19
set_option linter.unusedSimpArgs false set_option linter.defProp false
set_option linter.unusedVariables false
noncomputable section
namespace Go.Proofs.YtankopenjcbeeaaGreatDoor
open Go
open Option renaming some→O,none→N
open Go renaming TypeId→G,Value→D,Program→I,Oper→M,World→J,Code→W
open Bool renaming true→T,false→Z
open Decidable renaming decide→Y
open YtankopenjcbeeaaGreatDoor renaming PVal→U
def nX(e:ah):Nat:=64 * dB (al e) - 64
def wA(e:ah):nX e+64<=64 * dB (al e):=by have:=jN e;unfold nX;omega
def qq0{γ:Type}{mk':V Int->K->γ}{k:V Int}{b a:K}{n:Nat}{s t u:aa}{f:V Int->Q γ}(d:∀c,RL mk' c b n (f c))(e:s.length+(t.length+u.length)<=32):RL mk' k b (32+n) ((ae ([s,t,u]:V aa) k a).bind f):=bZ (Sx (qqY s t u k a) d) (by simp only[oo];omega)
section
variable{R:ah->V Int->K->Q (V Int×K)}
def qlu(a:Int)(x:ah)(e:qmP x)(c:∀k b,RL Prod.mk k b (nX x) (R x k b))(k:V Int)(b:K):RL Prod.mk k b (nX x+32) (gN R x a k b):=by
 unfold gN;refine cq (qjK x e) (ep (λ_=>?_) λ_=>?_);.exact bZ (dq λd=>aw (c d b) λm i=>dq λo=>aJ (n:=0) (mk:=Prod.mk)) (by omega)
 .exact bZ (aw (c k b) λd h=>aJ (n:=0) (mk:=Prod.mk)) (by omega)
def qiK(l:V ah)(m:l.length<9223372036854775808)(h:∀x∈l,∀k b,RL Prod.mk k b (nX x) (R x k b))(k:V Int)(b:K):RL Prod.mk k b (64 * bL (l.map al)+32) (eN R l k b):=by have q:=oF al (λx=>16+(nX x+0)) l (λx _=>by have:=wA x;omega);unfold eN;refine bZ (dq λd=>aw (mk:=Prod.mk) (n1:=(l.map λx=>16+(nX x+0)).sum) ?_ λe a=>dq λo=>aJ (n:=0) (mk:=Prod.mk)) (by omega);unfold ou rY;refine aw (n2:=0) (jQ l m (λx=>16+(nX x+0)) (λ_ _ _=>rfl) λi c k b=>OP λd=>aw (mk:=Prod.mk) ?_ λe a=>aJ (n:=0)) λe a=>aJ (mk:=Prod.mk);unfold qY;exact cq (aC _ _ c) (aw (n2:=0) (h _ (mx c) d b) λo p=>aJ (mk:=Prod.mk))
def qly(l:V ai)(m:l.length<9223372036854775808)(o:∀t∈l,Re t)(k:V Int)(b:K):RL Prod.mk k b (64 * bL (l.map aj)+32) (jP l k b):=by have d:=oF aj (λx=>16+(nT x+0)) l (λx _=>by have:=Qa x;omega);unfold jP;refine ep (λ_=>aJ (mk:=Prod.mk)) λ_=>bZ (dq λe=>aw (mk:=Prod.mk) (n1:=(l.map λx=>16+(nT x+0)).sum) ?_ λh a=>dq λp=>aJ (n:=0) (mk:=Prod.mk)) (by omega);unfold oq rV;refine aw (n2:=0) (jQ l m (λx=>16+(nT x+0)) (λ_ _ _=>rfl) λi c k b=>OP λe=>aw (mk:=Prod.mk) ?_ λh a=>aJ (n:=0)) λh a=>aJ (mk:=Prod.mk);unfold pZ;exact cq (aC _ _ c) (aw (n2:=0) (Gn _ (o _ (mx c)) e b) λp q=>aJ (mk:=Prod.mk))
def qlw(e:ah)(o:e.Params.length<9223372036854775808)(q:∀p∈e.Params,Re p.Type_)(k:V Int)(b:K):RL Prod.mk k b (64 * bL (e.Params.map aU)) (jk (e.Params.length:Int) e k b):=by unfold jk qD;refine bZ (aw (n2:=0) (jQ e.Params o (λp=>16+(p.Name.length+(16+nT p.Type_)+0)) (λ_ _ _=>rfl) λi d k b=>OP λr=>aw (mk:=Prod.mk) ?_ λm c=>aJ (n:=0)) λm c=>aJ (mk:=Prod.mk)) (oF aU _ _ λp _=>by have:=Ms p;have:=Qa p.Type_;omega);have h:=q _ (mx d);have a:=aC e.Params i d;unfold pC;exact cq a (aw (wz _ r b) λm c=>cq a (cq (qjT _ h) (ep (λ_=>dq λs=>cq a (bZ (aw (n2:=0) (Gn _ h s c) λw t=>aJ (mk:=Prod.mk)) (l8 _))) λ_=>aJ (mk:=Prod.mk))))
def qqE(l:V bH)(m:l.length<9223372036854775808)(o:∀a∈l,a.Names.length<9223372036854775808)(h:∀a∈l,∀k b,RL Prod.mk k b (nX a.Body) (R a.Body k b))(k:V Int)(b:K):RL Prod.mk k b (64 * bL (l.map bz)) (oh R l (l.length:Int) 0 k b):=by unfold oh;refine bZ (jQ l m (λa=>16+(a.Con.length+(64 * bL (a.Names.map cS)+32+(16+(nX a.Body+0))))) (λ_ _ _=>rfl) λi c k b=>cq (aC _ _ c) (OP λp=>aw (H3 _ p b) λq d=>aw (qdD _ (o _ (mx c)) q d) λt e=>dq λr=>aw (h _ (mx c) r e) λw s=>aJ (n:=0))) (oF bz _ l λa _=>by have:=qak a;have:=wA a.Body;omega)
def qeV(sg:aa)(o:sg.length<=16)(a c:ah)(x y:Int)(i:qmP a)(m:qmP c)(d:∀k b,RL Prod.mk k b (nX a) (R a k b))(e:∀k b,RL Prod.mk k b (nX c) (R c k b))(k:V Int)(b:K):RL Prod.mk k b (nX a+nX c+96) (gq R a sg c x y k b):=by unfold gq;exact bZ (aw (qlu x a i d k b) λr h=>qq0 (λp=>aw (qlu y c m e p h) λs q=>aJ (n:=0) (mk:=Prod.mk)) (by have:lM.length=1:=rfl;omega)) (by omega)
def qjM{e x:ah}(h:e.Kids=[x]):bL (e.Kids.map al)=dB (al x):=by rw[h];simp[bL]
def qos{e x y:ah}(h:e.Kids=[x,y]):bL (e.Kids.map al)=dB (al x)+dB (al y):=by rw[h];simp[bL]
def quy{e x y z:ah}(h:e.Kids=[x,y,z]):bL (e.Kids.map al)=dB (al x)+(dB (al y)+dB (al z)):=by rw[h];simp[bL]
def qn2(e:ah)(P:Ap e)(B:qct e)(hR:∀x,nE x<nE e->Ap x->qct x->∀k b,RL Prod.mk k b (nX x) (R x k b))(k:V Int)(b:K):RL Prod.mk k b (nX e) (nq R e k b):=by
 have d:=B5 P;have hB:nE e<=16777216:=m0 (P9 e) B;have o:∀x∈e.Kids,∀k b,RL Prod.mk k b (nX x) (R x k b):=λx c=>hR x (xU c) (tH P c) (QM B c);have a4:=Gm e;have a3:=tA e;have a6:=pA e;have hT:∀t∈e.Types,Re t:=λt ht=>qcu B ht;have hp:=jN e;have hn:nX e=64 * dB (al e) - 64:=rfl;unfold nq;refine ep (λh=>?_) λ_=>ep (λh=>?_) λ_=>ep (λh=>?_) λ_=>ep (λh=>?_) λ_=>ep (λh=>?_) λ_=>aJ (mk:=Prod.mk)
 .let⟨x,c⟩:=d.k1 (.inl (by simpa using h));have H:=qjM c;have L:=wA x;have q:cJ e.Kids 0=O x:=by rw[c];exact fG _ _
  exact bZ (dq λr=>aw (qlw e (by omega) (λp hp=>ql3 B hp) r b) λE m=>dq λi=>cq q (aw (o x (by rw[c];simp) i m) λw s=>aJ (n:=0) (mk:=Prod.mk))) (by omega)
 .let⟨x,y,c⟩:=d.k2 (.inl (by simpa using h));have H:=qos c;have L:=wA x;have h3:=wA y;have q:cJ e.Kids 0=O x:=by rw[c];exact fG _ _
  have S:cJ e.Kids 1=O y:=by rw[c];exact qli _ _ _
  have hJ:∀k b,RL Prod.mk k b (64 * bL (e.Types.map aj)+16) (j0 e k b):=λk b=>by unfold j0;cases a2:e.Types with|nil=>rw[hG (by simp)];exact aJ (mk:=Prod.mk)|cons t l=>have hm:=hT t (by rw[a2];simp);have:=Qa t;rw[l7 (by simp)];exact bZ (dq λi=>cq (fG _ _) (aw (Gn _ hm i b) λw s=>aJ (n:=0) (mk:=Prod.mk))) (by simp only[ox,bL];omega)
  exact bZ (dq λr=>aw (wz _ r b) λE m=>aw (hJ E m) λi b3=>dq λw=>cq q (aw (o x (by rw[c];simp) w b3) λF b5=>dq λk6=>cq S (aw (o y (by rw[c];simp) k6 b5) λk7 b7=>aJ (n:=0) (mk:=Prod.mk)))) (by omega)
 .let⟨x,y,z,c⟩:=d.k3 (by simpa using h);have H:=quy c;have L:=wA x;have h3:=wA y;have h4:=wA z;have q:cJ e.Kids 0=O x:=by rw[c];exact fG _ _
  have S:cJ e.Kids 1=O y:=by rw[c];exact qli _ _ _
  have hl:cJ e.Kids 2=O z:=by rw[c];exact qt9 _ _ _ _
  exact bZ (dq λr=>cq q (aw (o x (by rw[c];simp) r b) λE m=>dq λi=>cq S (aw (o y (by rw[c];simp) i m) λw s=>dq λF=>cq hl (aw (o z (by rw[c];simp) F s) λk6 b6=>aJ (n:=0) (mk:=Prod.mk))))) (by omega)
 .let⟨x,c⟩:=d.k1 (.inr (.inl (by simpa using h)));have H:=qjM c;have L:=wA x;have q:cJ e.Kids 0=O x:=by rw[c];exact fG _ _
  have a0:∀a∈e.Alts,a.Names.length<9223372036854775808:=λa A=>by have:=LX A;omega
  exact bZ (dq λr=>cq q (aw (o x (by rw[c];simp) r b) λE m=>dq λi=>aw (qqE _ (by omega) a0 (λa A=>hR _ (LW A) (qga P A) (ql2 B A)) i m) λw s=>dq λF=>aJ (n:=0) (mk:=Prod.mk))) (by omega)
 .have a5:=d.k25 (by simpa using h);have hw:dc ((e.Kids.length:Int) - 1)=((e.Kids.length - 1:Nat):Int):=by rw[ch (by omega) (by omega)];omega
  rw[hw];have H:=Uz al e.Kids (e.Kids.length - 1) (by omega);have L:=wA (e.Kids[e.Kids.length - 1]'(by omega));have q:=aC e.Kids (e.Kids.length - 1) (by omega);have a1:=qka e.Kids (e.Kids.length - 1) (by omega);have X:=o (e.Kids[e.Kids.length - 1]'(by omega)) (mx _);exact bZ (dq λr=>aw (wz _ r b) λE m=>dq λi=>cq a1 (aw (qiK _ (by rw[vbb];omega) (λx c=>o x (vcP c)) i m) λw s=>dq λF=>cq q (aw (X F s) λk6 b6=>aJ (n:=0) (mk:=Prod.mk)))) (by omega)
def qlr(e:ah)(X:Ap e)(hs:qct e)(hR:∀x,nE x<nE e->Ap x->qct x->∀k b,RL Prod.mk k b (nX x) (R x k b))(k:V Int)(b:K):RL Prod.mk k b (nX e) (lT R e k b):=by
 have o:=B5 X;have hB:nE e<=16777216:=m0 (P9 e) hs;have E:∀x∈e.Kids,∀k b,RL Prod.mk k b (nX x) (R x k b):=λx d=>hR x (xU d) (tH X d) (QM hs d);have p:∀x∈e.Kids,qmP x:=λx d=>B5 (tH X d);have an:=Gm e;have b5:=I0 e;have hT:∀t∈e.Types,Re t:=λt ht=>qcu hs ht;have hp:=jN e;have hn:nX e=64 * dB (al e) - 64:=rfl;have P:=qiK e.Kids (by omega) E;have S:=qly e.Types (by omega) hT;unfold lT;refine ep (λh=>?_) λ_=>ep (λh=>?_) λ_=>ep (λh=>?_) λ_=>ep (λh=>?_) λ_=>ep (λh=>?_) λh5=>?_
 .have hz:=o.n1 (by simpa using h);have hl:(Lib.itoa e.N).length<=23:=by
   have:=qbA e.N hz;unfold qdN at this;split at this;.simp only[qjv,oo]at this;omega
   .exact this
  refine ep (λ_=>cq (Md hz) (bZ (qq0 (λi=>aJ (n:=0) (mk:=Prod.mk)) (by have:lj.length=1:=rfl;have:jA.length=1:=rfl;omega)) (by omega))) λ_=>cq (Md hz) (bZ (Sx (qam _ k b) λi=>aJ (n:=0) (mk:=Prod.mk)) (by omega))
 .have hf:∃s,gS (e.N==1)=O s/\s.length<=16:=by
   cases e.N==1
   .exact⟨_,rfl,by decide⟩
   .exact⟨_,rfl,by decide⟩
  let⟨s,hf,hl⟩:=hf
  exact cq hf (bZ (dq (n:=0) (λi=>aJ (mk:=Prod.mk)) hl) (by omega))
 .exact bZ (aw (wz _ k b) λi r=>aJ (n:=0) (mk:=Prod.mk)) (by omega)
 .exact bZ (aw (H3 _ k b) λi r=>aw (S i r) λF w=>ep (λ_=>aw (P F w) λH b3=>aJ (n:=0) (mk:=Prod.mk)) λ_=>aJ (mk:=Prod.mk)) (by omega)
 .exact bZ (aw (wz _ k b) λi r=>aw (S i r) λF w=>aw (P F w) λH b3=>aJ (n:=0) (mk:=Prod.mk)) (by omega)
 have a5:kW e.Op=O (e.Op==6||e.Op==7||e.Op==8||e.Op==9||e.Op==25):=by unfold kW;cases e.Op==6<;>cases e.Op==7<;>cases e.Op==8<;>cases e.Op==9<;>rfl
 refine cq a5 (ep (λ_=>bZ (aw (qn2 e X hs hR k b) λi r=>aJ (n:=0) (mk:=Prod.mk)) (by omega)) λhc=>?_);have ar:e.Op≠6/\e.Op≠7/\e.Op≠8/\e.Op≠9/\e.Op≠25:=by simpa[and_assoc]using hc
 refine ep (λh=>?_) λ_=>ep (λh=>?_) λ_=>ep (λh=>?_) λ_=>ep (λh=>?_) λ_=>ep (λh=>?_) λ_=>ep (λh=>?_) λL=>?_
 .have ad:e.Op=21:=by simpa using h
  let⟨x,d⟩:=o.k1 (by omega);have m:x∈e.Kids:=by rw[d];simp
  have h1:=qjM d;have a1:=wA x;have hi:cJ e.Kids 0=O x:=by rw[d];exact fG _ _
  refine cq hi (ep (λa4=>?_) λ_=>bZ (dq λi=>aw (qlu 3 x (p x m) (E x m) i b) λF w=>aJ (n:=0) (mk:=Prod.mk)) (by omega));have ab:x.Op=16:=by simpa using a4
  let⟨y,z,hy⟩:=(p x m).k2 (by omega);have q:=tH X m;have a3:=QM hs m;have ao:=xU m;have A:y∈x.Kids:=by rw[hy];simp
  have B:z∈x.Kids:=by rw[hy];simp
  have r1:=hR y (by have:=xU A;omega) (tH q A) (QM a3 A);have r2:=hR z (by have:=xU B;omega) (tH q B) (QM a3 B);have p1:=qos hy;have p2:=jN x;have p3:=wA y;have p4:=wA z;have i1:cJ x.Kids 0=O y:=by rw[hy];exact fG _ _
  have i2:cJ x.Kids 1=O z:=by rw[hy];exact qli _ _ _
  exact cq i1 (cq i2 (bZ (aw (qeV CY (by decide) y z 5 5 (B5 (tH q A)) (B5 (tH q B)) r1 r2 k b) λi r=>aJ (n:=0) (mk:=Prod.mk)) (by omega)))
 .let⟨x,d⟩:=o.k1 (by simp at h;omega);have m:x∈e.Kids:=by rw[d];simp
  have h1:=qjM d;have a1:=wA x;have hi:cJ e.Kids 0=O x:=by rw[d];exact fG _ _
  exact bZ (dq λi=>cq hi (aw (qlu 7 x (p x m) (E x m) i b) λF w=>aJ (n:=0) (mk:=Prod.mk))) (by omega)
 .exact bZ (dq λi=>aw (P i b) λH b3=>aJ (n:=0) (mk:=Prod.mk)) (by omega)
 .exact bZ (dq λi=>aw (P i b) λH b3=>aJ (n:=0) (mk:=Prod.mk)) (by omega)
 .exact bZ (dq λi=>aw (P i b) λH b3=>aJ (n:=0) (mk:=Prod.mk)) (by omega)
 .have L:e.Op=26:=by simpa using h
  let⟨x,d⟩:=o.k1 (by omega);let⟨t,ht⟩:=o.t26 L;have hm:=hT t (by rw[ht];simp);have h1:=qjM d;have a1:=wA x;have b0:=Qa t;have hi:cJ e.Kids 0=O x:=by rw[d];exact fG _ _
  have a9:cJ e.Types 0=O t:=by rw[ht];exact fG _ _
  have b7:bL (e.Types.map aj)=dB (aj t):=by rw[ht];simp[bL]
  exact bZ (dq λi=>cq hi (aw (E x (by rw[d];simp) i b) λF w=>dq λH=>cq a9 (aw (Gn _ hm H w) λk4 b4=>dq λk5=>aJ (n:=0) (mk:=Prod.mk)))) (by omega)
 have a7:(16<=e.Op/\e.Op<=18)\/(10<=e.Op/\e.Op<=14)\/(19<=e.Op/\e.Op<=20):=by have:=o.rng;simp at *;omega
 let⟨x,y,d⟩:=o.k2 (by omega);have A:x∈e.Kids:=by rw[d];simp
 have B:y∈e.Kids:=by rw[d];simp
 have p1:=qos d;have p3:=wA x;have p4:=wA y;have i1:cJ e.Kids 0=O x:=by rw[d];exact fG _ _
 have i2:cJ e.Kids 1=O y:=by rw[d];exact qli _ _ _
 have a2:cJ kR e.Op=O (qrI e.Op):=by
  have:e.Op=10\/e.Op=11\/e.Op=12\/e.Op=13\/e.Op=14\/e.Op=16\/e.Op=17\/e.Op=18\/e.Op=19\/e.Op=20:=by omega
  rcases this with h|h|h|h|h|h|h|h|h|h<;>rw[h]<;>rfl
 have a8:(qrI e.Op).length<=16:=by
  unfold qrI;repeat' split
  all_goals decide
 have a6:kX e.Op=O (e.Op==16||e.Op==17||e.Op==18):=by unfold kX;cases e.Op==16<;>cases e.Op==17<;>rfl
 have hb:=λa c=>qeV (R:=R) (qrI e.Op) a8 x y a c (p x A) (p y B) (E x A) (E y B) k b;have a0:=qjK e o;exact cq a6 (ep (λ_=>cq i1 (cq a2 (cq i2 (bZ (aw (hb 5 5) λi r=>aJ (n:=0) (mk:=Prod.mk)) (by omega))))) λ_=>cq i1 (cq a2 (cq i2 (cq a0 (cq a0 (bZ (aw (hb _ _) λi r=>aJ (n:=0) (mk:=Prod.mk)) (by omega)))))))
end
def qqI(e:ah)(c:Ap e)(a:qct e)(k:V Int)(b:K):RL Prod.mk k b (nX e) (vw e k b):=by
 have o:∀m e k b,nE e<m->Ap e->qct e->RL Prod.mk k b (nX e) (qmA ra m (e,k,b)):=by intro m;induction m with|zero=>intro e k b h;omega|succ m ih=>intro e k b p c a;exact qlr e c a (λx q d i k b=>ih x k b (by omega) d i) k b
 exact o _ e k b (by have:=m0 (P9 e) a;unfold qhA;omega) c a
def qoa(e:ah)(i:qct e)(d:∃r,qr e=O r/\(r=0->Ap e))(k:V Int)(b:K):RL RR k b (nX e) (nz e k b):=by let⟨r,a,c⟩:=d;unfold nz;exact cq a (ep (λ_=>YG (mk:=RR)) λh=>bZ (aw (qqI e (c (by simpa using h)) i k b) λo m=>aJ (n:=0) (mk:=RR)) (by omega))
theorem qlz(b:wv):dB (cN b)=b.Name.length+1+(b.Sort_.length+1):=by rfl
theorem qmF(b:dZ):dB (bS b)=b.Class.length+1+(b.Var.length+1):=by rfl
theorem qqM(b:ku):dB (eP b)=b.Name.length+1+(b.Sort_.length+1):=by rfl
theorem qdH(b:cY):dB (bT b)=(b.Name.length+1)+(bL (b.Vars.map cN)+1)+dB (af b.Hyp)+dB (af b.Goal):=by unfold bT;grind [jM,dB,pm,sl]
def qqN(b:iu):dB (cr b)=(bL (b.Vars.map cS)+1)+(bL (b.Needs.map bS)+1)+(bL (b.Abs.map eP)+1)+(bL (b.Bounds.map bT)+1)+dB (aj b.Type_)+(bL (b.Metric.map af)+1):=by unfold cr;simp only[jM,dB,pm,sl];omega
def qbM(b:ba):(b.Name.length+1)+(bL (b.Params.map cS)+1)+dB (al b.Body)+dB (cr b.Sig)<=dB (aL b):=by unfold aL;grind [jM,dB,pm,sl]
theorem qob(b:QX):dB (iN b)=(b.Name.length+1)+(bL (b.Names.map cS)+1)+(bL (b.Fields.map aj)+1):=by unfold iN;grind [jM,dB,pm,sl]
def qi2(b:ei):dB (bP b)=(b.Name.length+1)+(bL (b.Vars.map cS)+1)+(bL (b.Preds.map cN)+1)+(bL (b.Cons.map iN)+1):=by unfold bP;grind [jM,dB,pm,sl]
theorem qi1(b:EM):dB (fj b)=(b.Con.length+1)+(bL (b.Names.map cS)+1)+dB (af b.Body):=by unfold fj;grind [jM,dB,pm,sl]
def VU(b:bj):dB (aO b)=(b.Name.length+1)+(b.Data.length+1)+(b.Result.length+1)+(bL (b.Cases.map fj)+1)+dB (af b.Inv):=by unfold aO;simp only[jM,dB,pm,sl];omega
def qi4(b:ez):dB (cj b)=(b.Name.length+1)+(bL (b.Vars.map cN)+1)+dB (af b.Body):=by unfold cj;grind [jM,dB,pm,sl]
theorem kQ{α:Type}(c:α->V U){l:V α}{x:α}(h:x∈l):dB (c x)<=bL (l.map c):=by obtain⟨i,a,rfl⟩:=List.mem_iff_getElem.1 h;have:=Uz c l i a;omega
def od{α:Type}(c:α->List U)(h:∀x,1<=dB (c x)):∀l:List α,l.length<=bL (l.map c)
 |[]=>s5 _
 |x::l=>by have a:=h x;have b:=od c h l;grind [p6,bL]
def ZT(l:V aa):l.length<=bL (l.map cS):=od cS (λs=>by simp[cS,dB,pm]) l
def qi0(l:V wv)(m:l.length<9223372036854775808)(fr:K)(k:V Int)(b:K):RL Prod.mk k b (64 * bL (l.map cN)) (iI l fr k b):=by
 unfold iI om rN;refine bZ (aw (n2:=0) (aw (mk:=Prod.mk) (n2:=0) (jQ l m (λx=>16+(16+x.Name.length+(16+(x.Sort_.length+0))+0)) (λ_ _ _=>rfl) λi h k b=>OP λo=>aw (mk:=Prod.mk) ?_ λd c=>aJ (n:=0)) λd c=>aJ (mk:=Prod.mk)) λd c=>aJ (mk:=Prod.mk)) (oF cN _ l λx _=>by grind [qlz]);have a:=aC l i h;unfold ri;refine aw (mk:=Prod.mk) (n1:=16+l[i].Name.length) ?_ λd c=>dq λp=>cq a (aw (qiX _ p c) λs q=>aJ (n:=0) (mk:=Prod.mk));unfold ny;have e:∃r,jn (i:Int) fr l=O r:=by
  unfold jn;rw[a];split;.simp
  simp
 let⟨r,e⟩:=e;exact cq e (ep (λ_=>dq λd=>aJ (mk:=Prod.mk)) λ_=>cq a (bZ (aw (wz _ o b) λd c=>aJ (n:=0) (mk:=Prod.mk)) (by omega)))
def qn5(l:V dZ)(h:l.length<9223372036854775808)(k:V Int)(b:K):RL Prod.mk k b (64 * bL (l.map bS)) (nu l k b):=by unfold nu ol rI;refine bZ (aw (n2:=0) (aw (mk:=Prod.mk) (n2:=0) (jQ l h (λx=>16+(x.Class.length+(16+(x.Var.length+0))+0)) (λ_ _ _=>rfl) λi e k b=>OP λm=>aw (mk:=Prod.mk) ?_ λd c=>aJ (n:=0)) λd c=>aJ (mk:=Prod.mk)) λd c=>aJ (mk:=Prod.mk)) (oF bS _ l λx _=>by grind [qmF]);have a:=aC l i e;unfold pX;exact cq a (aw (H3 _ m b) λd c=>dq λo=>cq a (aw (wz _ o c) λq p=>aJ (n:=0) (mk:=Prod.mk)))
def qui(s:iu)(h:s.Abs.length<9223372036854775808)(k:V Int)(b:K):RL Prod.mk k b (64 * bL (s.Abs.map eP)) (j4 (s.Abs.length:Int) s k b):=by unfold j4 rK;refine bZ (aw (mk:=Prod.mk) (n2:=0) (jQ s.Abs h (λx=>16+(x.Name.length+(16+(x.Sort_.length+0))+0)) (λ_ _ _=>rfl) λi e k b=>OP λm=>aw (mk:=Prod.mk) ?_ λd c=>aJ (n:=0)) λd c=>aJ (mk:=Prod.mk)) (oF eP _ _ λx _=>by grind [qqM]);have a:=aC s.Abs i e;unfold sZ;exact cq a (aw (wz _ m b) λd c=>dq λo=>cq a (aw (qiX _ o c) λq p=>aJ (n:=0) (mk:=Prod.mk)))
def qlv(s:iu)(o:s.Metric.length<9223372036854775808)(q:∀p∈s.Metric,dB (af p)<=16777216)(k:V Int)(b:K):RL Prod.mk k b (64 * bL (s.Metric.map af)) (j7 (s.Metric.length:Int) s k b):=by
 unfold j7 rT;refine bZ (aw (mk:=Prod.mk) (n2:=0) (jQ s.Metric o (λx=>16+(32+40 * dB (af x)+0+0)) (λ_ _ _=>rfl) λi h k b=>OP λt=>aw (mk:=Prod.mk) ?_ λc e=>aJ (n:=0)) λc e=>aJ (mk:=Prod.mk)) (oF af _ _ λx _=>by grind [mw]);have a:=aC s.Metric i h;have m:=q _ (mx h);unfold s6;refine cq a (aw (mk:=Prod.mk) ?_ λw z=>aJ (n:=0) (mk:=Prod.mk));unfold vA;have d:∃r,lh s.Metric[i]=O r:=by
  unfold lh;split;.simp
  simp
 let⟨r,d⟩:=d;exact cq d (ep (λ_=>bZ (aw (Yk _ m t b) λc e=>aJ (n:=0) (mk:=Prod.mk)) (by omega)) λ_=>bZ (dq λc=>aw (Yk _ m c b) λA y=>dq λw=>aJ (n:=0) (mk:=Prod.mk)) (by omega))
def qgx(p:ag):∃r,Ew p=O r:=by
 unfold Ew;split
 .split
  .rename_i h;let⟨x,a⟩:=qn3 (l:=p.Kids) (by grind);rw[a,fG];simp only[eJ];split;.simp
   simp
  simp
 simp
def qlq(l:V cY)(o:l.length<9223372036854775808)(p:∀x∈l,dB (bT x)<=16777216)(k:V Int)(b:K):RL Prod.mk k b (64 * bL (l.map bT)) (rb l (l.length:Int) 0 k b):=by
 unfold rb;refine bZ (jQ l o (λx=>16+(x.Name.length+(16+(64 * bL (x.Vars.map cN)+(16+(40 * dB (af x.Hyp)+(16+(40 * dB (af x.Goal)+(16+0))))))))) (λ_ _ _=>rfl) λi e k b=>?_) (oF bT _ l λx _=>by grind [qdH,mw]);have z:=p _ (mx e);have A:=qdH l[i];have q:=od cN (λx=>by grind [qlz]) l[i].Vars;have c:lY b l[i].Vars=O (b||((l[i].Vars.length:Int)==0)):=by unfold lY;grind
 have d:fY (lZ l[i].Goal.Op l[i].Goal.Name l[i].Goal.N l[i].Goal.Kids) (λr=>r.1.length<=16/\r.2.length<=16):=by
  unfold lZ;let⟨r,a⟩:=qgx ⟨l[i].Goal.Op,l[i].Goal.Name,l[i].Goal.N,l[i].Goal.Kids⟩;rw[a];cases r;.exact⟨_,rfl,by decide,by decide⟩
  .exact⟨_,rfl,by decide,by decide⟩
 exact cq (aC _ _ e) (cq c (UA (dq λs=>aw (wz _ s _) λB h=>dq λt=>aw (qi0 _ (by omega) Z t h) λE m=>dq λw=>aw (qdG _ (by omega) w m) λF b6=>qoz d λr a=>dq (λy=>aw (qdG _ (by omega) y b6) λH b8=>dq (λL=>aJ (n:=0)) a.2) a.1)))
def qul(s:iu)(L:dB (cr s)<=16777216)(k:V Int)(b:K):RL Prod.mk k b (64 * dB (cr s)) (qo s k b):=by
 have B:=qqN s;have y:Re s.Type_:=by omega
 have A:=Qa s.Type_;have X:=ZT s.Vars;have l2:=od bS (λx=>by grind [qmF]) s.Needs;have l3:=od eP (λx=>by grind [qqM]) s.Abs;have l4:=od bT (λx=>by grind [qdH]) s.Bounds;have l5:=od af (λx=>by simp[mw]) s.Metric;have h:∀k b,RL Prod.mk k b (64 * bL (s.Vars.map cS)+32) (lV s k b):=λk b=>by unfold lV Aw;exact ep (λ_=>bZ (dq λa=>aw (jQ s.Vars (by omega) (λx=>16+(x.length+0)) (λ_ _ _=>rfl) λi z k b=>cq (aC _ _ z) (dq λa=>aw (wz _ a b) λd c=>aJ (n:=0))) λd c=>dq λe=>aJ (n:=0) (mk:=Prod.mk)) (by have:=oF cS (λx=>16+(x.length+0)) s.Vars (λx _=>by grind [cS,dB,pm]);omega)) λ_=>aJ (mk:=Prod.mk)
 have m:∀k b,RL Prod.mk k b (64 * bL (s.Needs.map bS)+32) (lW s k b):=λk b=>by unfold lW;exact ep (λ_=>bZ (dq λa=>aw (qn5 _ (by omega) a b) λd c=>dq λe=>aJ (n:=0) (mk:=Prod.mk)) (by omega)) λ_=>aJ (mk:=Prod.mk)
 have o:∀k b,RL Prod.mk k b (64 * bL (s.Abs.map eP)+32) (lX s k b):=λk b=>by unfold lX;exact ep (λ_=>bZ (dq λa=>aw (qui _ (by omega) a b) λd c=>dq λe=>aJ (n:=0) (mk:=Prod.mk)) (by omega)) λ_=>aJ (mk:=Prod.mk)
 unfold qo;refine bZ (aw (h k b) λa q=>aw (m a q) λd c=>aw (o d c) λe r=>aw (qlq s.Bounds (by omega) (λx P=>by grind [kQ,bT]) e r) λE t=>aw (Gn _ y E t) λR w=>ep (λ_=>dq λF=>aw (qlv s (by omega) (λp B=>by grind [kQ,af]) F w) λS H=>aJ (n:=0) (mk:=Prod.mk)) λ_=>aJ (mk:=Prod.mk)) (by omega)
def qqH(d:ba)(A:dB (aL d)<=16777216)(k:V Int)(b:K):RL Prod.mk k b (64 * dB (aL d)) (mz d k b):=by
 have B:=qbM d;have m:qct d.Body:=by omega
 have t:∃r,qr d.Body=O r/\(r=0->Ap d.Body):=by grind [qhC,qee,qc9]
 have w:=wA d.Body;have H:=ZT d.Params;have e:∀k b,RL Prod.mk k b 16 (lQ d k b):=λk b=>by unfold lQ;exact ep (λ_=>dq λc=>aJ (n:=0) (mk:=Prod.mk)) λ_=>ep (λ_=>dq λc=>aJ (n:=0) (mk:=Prod.mk)) λ_=>ep (λ_=>dq λc=>aJ (n:=0) (mk:=Prod.mk)) λ_=>YG (mk:=Prod.mk)
 have a:∃r,lR d (d.Mode==1)=O r:=by unfold lR;have z:=qkx d.Body ⟨0,[],0,[],[],[],[]⟩ (qee m);grind
 let⟨L,a⟩:=a;have h:∀k b,RL Prod.mk k b (64 * dB (cr d.Sig)+16) (lS d k b):=λk b=>by unfold lS;exact ep (λ_=>bZ (dq λc=>aw (qul _ (by omega) c b) λo i=>aJ (n:=0) (mk:=Prod.mk)) (by omega)) λ_=>aJ (mk:=Prod.mk)
 unfold mz;exact bZ (aw (e k b) λc p=>cq a (ep (λ_=>YG (mk:=Prod.mk)) λ_=>aw (wz _ c p) λo i=>aw (qdD _ (by omega) o i) λx q=>aw (h x q) λE s=>ep (λ_=>dq λy=>aw (qoa _ m t y s) λF b6=>aJ (n:=0) (mk:=Prod.mk)) λ_=>aJ (mk:=Prod.mk))) (by omega)
def qlV{α:Type}(l:V α)(hn:l.length<9223372036854775808)(g:α->Nat){k:V Int}{b:K}{a:Int×V Int×K->Q ((Int×V Int×K)⊕(V Int⊕(V Int×K)))}{F:Int->V Int->K->Q ((Int×V Int×K)⊕(V Int⊕(V Int×K)))}{a0:V Int⊕(V Int×K)->Q (V Int×K)}
  (e:∀k,a0 (.inl k)=O (k,T)) (o:∀k b,a0 (.inr (k,b))=O (k,b))
  (d:∀i k b,a (i,k,b)=if Y (i<(l.length:Int))then F i k b else O (.inr (.inr (k,b))))
  (p:∀(i:Nat)(s:i<l.length) k b,RL (λk b=>.inl (dc ((i:Int)+1),k,b)) k b (g l[i]) (F i k b)\/RL (λk b=>.inr (.inl k)) k b (g l[i]) (F i k b)):RL Prod.mk k b ((l.map g).sum) ((loop a (0,k,b)).bind a0):=by
 have q:∀m i k b,m+i=l.length->RL Prod.mk k b (((l.drop i).map g).sum) ((loop a ((i:Int),k,b)).bind a0):=by
  intro m;induction m with
  |zero=>
   intro i k b s;have:i=l.length:=by omega
   subst this;rw[gL (by rw[d,hG (Yl _)]),eJ,o];simp[aJ]
  | succ m ih =>
   intro i k b s H;have c:i<l.length:=by omega
   rw[vaN c,ox,List.sum_cons]at H ⊢;rcases p i c k b with h|h;.let⟨t,r,S,X,w⟩:=h (by omega);rw[tN (by rw[d,l7 (Xk c)];omega),ch (by omega) (by omega),show((i:Int)+1)=((i+1:Nat):Int) by omega];let⟨L,x,P,q1,R⟩:=ih (i+1) t r (by omega) (by omega);refine⟨L,x,P,by omega,λE=>?_⟩;let⟨y,t2,z⟩:=R E;let⟨A,t1,B⟩:=w y;exact⟨A,t1++t2,by rw[z,B,oL.app,va6]⟩
   .let⟨t,r,S,X,w⟩:=h (by omega);rw[gL (by rw[d,l7 (Xk c)];omega),eJ,e];grind
 have:=q l.length 0 k b (by omega)
 simp_all
def qoQ(a:V aa):∀(l:V ai),((a.zip l).map λx=>32+x.1.length+nT x.2).sum<=64 * bL (a.map cS)+64 * bL (l.map aj):=by induction a with|nil=>simp| cons s a ih =>intro l;cases l with|nil=>simp|cons t l=>have b:=ih l;have c:=Qa t;simp only[List.zip_cons_cons,ox,List.sum_cons,bL,cS,dB,pm]at b ⊢;omega
def qls(c:QX)(L:c.Names.length=c.Fields.length)(r:c.Fields.length<9223372036854775808)(w:∀t∈c.Fields,Re t)(k:V Int)(b:K):RL Prod.mk k b (64 * bL (c.Names.map cS)+64 * bL (c.Fields.map aj)) (gg (c.Fields.length:Int) k b c.Name c.Names c.Fields):=by
 have h:(c.Names.zip c.Fields).length=c.Fields.length:=by simp_all
 unfold gg qE;refine bZ (aw (mk:=Prod.mk) (n2:=0) (jQ (c.Names.zip c.Fields) (by omega) (λx=>32+x.1.length+nT x.2) (F:=λi k b=>(kl i k b).bind λB=>(jc i B b c.Name c.Names c.Fields).bind λq=>O (.inl (dc (i+1),q.1,q.2))) (λi k b=>by rw[h];rfl) λi H k b=>?_) λp m=>aJ (mk:=Prod.mk)) (by simp[qoQ]);have o:i<c.Fields.length:=by omega
 have e:(c.Names.zip c.Fields)[i]=(c.Names[i]'(by omega),c.Fields[i]):=List.getElem_zip;rw[e];have y:=aC c.Names i (by omega);have z:=aC c.Fields i o;have s:=w _ (mx o);suffices d:∀a,RL Prod.mk a b (16+(c.Names[i]'(by omega)).length+nT c.Fields[i]) (jc (i:Int) a b c.Name c.Names c.Fields) by exact bZ (OP λa=>aw (d a) λp m=>aJ (n:=0)) (by grind)
 intro a;unfold jc;exact bZ (cq y (aw (wz _ a b) λp m=>dq λA=>cq z (aw (Gn _ s A m) λP E=>aJ (n:=0) (mk:=Prod.mk)))) (by omega)
def qqG(d:ei)(hd:dB (bP d)<=16777216)(k:V Int)(b:K):RL Prod.mk k b (64 * dB (bP d)) (oY d k b):=by
 have hp:=qi2 d;have l1:=ZT d.Vars;have l2:=od cN (λx=>by grind [qlz]) d.Preds;have l3:=od iN (λx=>by grind [qob]) d.Cons;have y:∀k b,RL Prod.mk k b (64 * bL (d.Vars.map cS)) (pU d.Vars (d.Vars.length:Int) 0 k b):=λk b=>by unfold pU;exact bZ (jQ d.Vars (by omega) (λx=>16+(x.length+0)) (λ_ _ _=>rfl) λi p k b=>cq (aC _ _ p) (dq λh=>aw (wz _ h b) λq o=>aJ (n:=0))) (oF cS _ _ λx _=>by grind [cS,dB,pm])
 have s:∀k b,RL Prod.mk k b (64 * bL (d.Preds.map cN)+32) (kT d k b):=λk b=>by unfold kT;exact ep (λ_=>bZ (dq λh=>aw (qi0 _ (by omega) Z h b) λq o=>dq λr=>aJ (n:=0) (mk:=Prod.mk)) (by omega)) λ_=>aJ (mk:=Prod.mk)
 have w:∀b,kU d b=O (b||((d.Cons.length:Int)==0)):=λb=>by unfold kU;grind
 unfold oY;refine bZ (dq λh=>aw (H3 _ h b) λq o=>aw (y q o) λr L=>aw (s r L) λX H=>dq λk5=>cq (w H) (UA (qlV d.Cons (by omega) (λc=>16+(c.Name.length+(64 * bL (c.Names.map cS)+64 * bL (c.Fields.map aj)+32))) (λk=>rfl) (λk b=>rfl) (F:=λi k b=>(cJ d.Cons i).bind λa=>(pT i k b).bind λA=>(cC a.Name A b).bind λe=>if((a.Names.length:Int)!=(a.Fields.length:Int))then O (.inr (.inl e.2))else if((a.Fields.length:Int)==0)then O (.inl (dc (i+1),e.2,e.1))else(ae ([wk]:V aa) e.2 e.1).bind λB=>(gg (a.Fields.length:Int) B e.1 a.Name a.Names a.Fields).bind λm=>(ae ([jA]:V aa) m.1 m.2).bind λE=>O (.inl (dc (i+1),E,m.2))) (λi k b=>rfl) λi p k b=>?_))) (by have:=oF iN (λc=>16+(c.Name.length+(64 * bL (c.Names.map cS)+64 * bL (c.Fields.map aj)+32))) d.Cons (λc _=>by grind [qob]);omega);have hc:=kQ iN (mx p);have P:=qob d.Cons[i];have hf:=od aj (λx=>by grind [Wh]) d.Cons[i].Fields;by_cases z:((d.Cons[i].Names.length:Int)!=(d.Cons[i].Fields.length:Int))=T;.refine .inr (cq (aC _ _ p) (OP λh=>aw (H3 _ h b) λq o=>?_));simp_all[l7,aJ]
 .refine .inl (cq (aC _ _ p) (OP λh=>aw (H3 _ h b) λq o=>?_));rw[hG z];have R:d.Cons[i].Names.length=d.Cons[i].Fields.length:=by grind
  exact ep (λ_=>aJ) λ_=>bZ (dq λr=>aw (qls _ R (by omega) (λt S=>by have:=kQ aj S;omega) r o) λX H=>dq λk5=>aJ (n:=0)) (by omega)
def qiV(x:bj)(L:dB (aO x)<=16777216)(k:V Int)(b:K):RL Prod.mk k b (64 * dB (aO x)) (kY x k b):=by
 have H:=VU x;have h:=mw x.Inv;have X:=od fj (λx=>by grind [qi1]) x.Cases;have d:∀b,iG x b=O (b||((x.Cases.length:Int)==0)):=λb=>by unfold iG;grind
 have e:∀k b,RL Prod.mk k b (64 * bL (x.Cases.map fj)) (mA x.Cases (x.Cases.length:Int) 0 k b):=λk b=>by unfold mA;refine bZ (jQ x.Cases (by omega) (λc=>16+(c.Con.length+(64 * bL (c.Names.map cS)+32+(16+(40 * dB (af c.Body)+0))))) (λ_ _ _=>rfl) λi h k b=>?_) (oF fj _ _ λc _=>by grind [qi1,mw]);have E:=kQ fj (mx h);have y:=qi1 x.Cases[i];have F:=ZT x.Cases[i].Names;exact cq (aC _ _ h) (OP λm=>aw (H3 _ m b) λp a=>aw (qdD _ (by omega) p a) λq t=>dq λr=>aw (Yk _ (by omega) r t) λs B=>aJ (n:=0))
 unfold kY;exact bZ (dq λm=>aw (wz _ m b) λp a=>dq λq=>aw (H3 _ q a) λr w=>dq λs=>aw (qiX _ s w) λP b6=>dq λA=>cq (d b6) (UA (aw (e A _) λR b8=>dq λS=>cq (xp x.Inv (by omega)) (ep (λ_=>dq λo=>aw (Yk _ (by omega) o b8) λz qrA=>aJ (n:=0) (mk:=Prod.mk)) λ_=>aJ (mk:=Prod.mk))))) (by omega)
def qqK(q:ez)(p:dB (cj q)<=16777216)(k:V Int)(b:K):RL Prod.mk k b (64 * dB (cj q)) (jm q k b):=by
 have o:=qi4 q;have m:=mw q.Body;have w:=od cN (λx=>by grind [qlz]) q.Vars;have a:∀b,gy q b=O (b||((q.Vars.length:Int)==0)):=λb=>by unfold gy;grind
 unfold jm;exact bZ (dq λe=>aw (wz _ e b) λr c=>dq λh=>cq (a c) (UA (aw (qi0 _ (by omega) T h _) λs d=>dq λi=>aw (Yk _ (by omega) i d) λt b6=>aJ (n:=0) (mk:=Prod.mk)))) (by omega)
abbrev qpb(l:V aa):Prop:=l.Pairwise qcV
def Vz:∀{a b:List aa},qpb a->qpb b->(∀x,x∈a↔x∈b)->a=b
 |[],[],_,_,_=>rfl
 |[],y::b,_,_,h=>by have:=(h y).2 (by simp);simp at this
 |x::a,[],_,_,h=>by have:=(h x).1 (by simp);simp at this
 | x :: a,y :: b,ha,hb,h => by
  unfold qpb at ha hb;rw[vbM]at ha hb;have i:x=y:=by
   have c:=(h x).1 (by simp);have d:=(h y).2 (by simp);rw[x8]at c d;rcases c with c|c;.exact c
   .rcases d with d|d;.exact d.symm
    .have:=FV (hb.1 x c) (ha.1 y d);unfold qcV at this;rw[wV]at this;cases this
  subst i;congr 1;refine Vz ha.2 hb.2 λz=>?_;constructor
  .intro e;have:=(h z).1 (by simp[e]);rw[x8]at this;rcases this with rfl|this;.have:=ha.1 _ e;unfold qcV at this;rw[wV]at this;cases this
   .exact this
  .intro e;have:=(h z).2 (by simp[e]);rw[x8]at this;rcases this with rfl|this;.have:=hb.1 _ e;unfold qcV at this;rw[wV]at this;cases this
   .exact this
def lN(m:V (aa×K))(l:V aa):V (aa×K):=l.foldl (λm x=>mq m x T) m
def tz(m:V (aa×K))(a b:V aa):lN m (a++b)=lN (lN m a) b:=by unfold lN;rw[vcy]
def OX(l:V aa)(m:V (aa×K))(d:l.length<9223372036854775808):mN l m=O (lN m l):=by
 unfold mN;have h:=dw l.length (λb:Int×(V (aa×K))=>fi l (l.length:Int) b.1 b.2) (λi=>((i:Int),lN m (l.take i))) (lN m l) (λi a=>?_) ?_
 .have c:wb l (l.length:Int) 0 m=O (lN m l):=by unfold wb;simpa[lN]using h
  rw[c];rfl
 .show fi l (l.length:Int) (i:Int) _=_;unfold fi;rw[l7 (by simpa using a),aC _ _ a,eJ,ch (by omega) (by omega),vas a,tz];rfl
 .show fi l (l.length:Int) (l.length:Int) _=_;unfold fi;rw[hG (by simp),vaR]
def Yq:sj ([]:V aa)=O []:=by unfold sj;rw[OX _ _ (by simp)];rfl
def rz(m:V (aa×K)):V aa:=m.map (·.1)
def qbE(k:aa):∀(m:List (aa×K)),rz (mq m k T)=if k∈rz m then rz m else rz m++[k]
 |[]=>by simp[mq,rz]
 | e :: r => by
  have d:=qbE k r;unfold rz at *;rw[mq];by_cases h:(k==e.1)=T
  .have a:k=e.1:=by simpa using h
   rw[l7 h,ox,ox,l7 (by rw[a];simp),a]
  .have a:¬k=e.1:=by simpa using h
   rw[hG h,ox,ox,d];by_cases b:k∈r.map (·.1);.rw[l7 b,l7 (vaQ _ b)]
   .rw[hG b,hG (by rw[x8];rintro(c|c);exact a c;exact b c)];rfl
def By:∀(l:List aa)(m:List (aa×K)),(rz m).Nodup->(rz (lN m l)).Nodup/\(∀x,x∈rz (lN m l)↔x∈rz m\/x∈l)/\(lN m l).length<=m.length+l.length
 |[],m,h=>⟨h,λx=>by simp[lN],by simp[lN]⟩
 | k :: l,m,h => by
  have e:=qbE k m;have s:(rz (mq m k T)).Nodup:=by
   rw[e];split;.exact h
   .rename_i d;rw[vbw];exact⟨h,by simp,λa r b i c=>by simp at i;subst i;subst c;exact d r⟩
  have o:(mq m k T).length<=m.length+1:=by have:=m4 List.length e;unfold rz at this;rw[va0]at this;rw[this];split<;>simp
  let⟨p,q,t⟩:=By l (mq m k T) s;refine⟨p,λx=>?_,?_⟩
  .show x∈rz (lN (mq m k T) l)↔_;rw[q,e];split
   .rename_i d;constructor
    .rintro(h|h);.exact .inl h
     .exact .inr (vaQ _ h)
    .rintro(h|h);.exact .inl h
     .rcases x8.1 h with rfl|h;.exact .inl d
      .exact .inr h
   .rw[vz,va1,x8,or_assoc]
  .show(lN (mq m k T) l).length<=_;simp only[p6];omega
def T5(l:V aa):V aa:=uK (rz (lN [] l))
def qgk{l:V aa}(h:l.Nodup):qpb (uK l):=by have i:(uK l).Nodup:=(gd l).nodup_iff.2 h;refine((jf l).and i).imp ?_;rintro a b ⟨c,d⟩;show Op.bytesLess a b=T;cases e:Op.bytesLess a b with|true=>rfl|false=>exact absurd (Ky e c) d
def xq(l:V aa):qpb (T5 l)/\∀x,x∈T5 l↔x∈l:=by let⟨a,b,_⟩:=By l [] (by simp[rz]);refine⟨qgk a,λx=>?_⟩;unfold T5;rw[(gd _).mem_iff,b];simp[rz]
def qcp(l:V aa):(T5 l).length<=l.length:=by let⟨_,_,h⟩:=By l [] (by simp[rz]);unfold T5;rw[(gd _).length_eq];unfold rz;rw[va0];simpa using h
def YN(l:V aa)(a:l.length<=1073741824):lu (lN [] l)=O (T5 l):=by let⟨_,_,h⟩:=By l [] (by simp[rz]);unfold lu;rw[l7 (by simp only[oy];unfold bO;simp at h;omega)];rfl
def Nv(e:ah):K:=e.Op==3||e.Op==5
def qcB(e:ah):ky e=O (Nv e):=by unfold ky Nv;rw[qlN]
def qm(o:Int)(n:aa)(b:V aY)(a:K):V aa:=if(o==7&&a)then[n]else if(o==6)then b.map (·.Name)else[]
def X8(e:ah)(i:Nat)(d:e.Params.length<=1073741824):sd e (i:Int)=O (qm e.Op e.Name e.Params (Y (0<i))):=by
 unfold sd xy qm;rw[U0];simp only[eJ];have c:Y ((i:Int)>0)=Y (0<i):=by by_cases h:0<i<;>simp[h]
 rw[c];by_cases a:(e.Op==7&&Y (0<i))=T;.rw[l7 a,l7 a]
 .rw[hG a,hG a];by_cases b:(e.Op==6)=T;.rw[l7 b,l7 b,qa0 _ d];rfl
  .rw[hG b,hG b]
def qby(o:Int)(n:aa)(ps:V aY)(b:K):(qm o n ps b).length<=1+ps.length:=by
 unfold qm;split;.simp
 .split<;>simp
mutual
def Fb(h:List aa):ah->List ah|⟨o,n,k,ks,ps,as1,ts⟩=>(if(Nv ⟨o,n,k,ks,ps,as1,ts⟩&&!h.any λx=>x==n)then[⟨o,n,k,ks,ps,as1,ts⟩]else[])++(Da (h++qm o n ps Z) (h++qm o n ps T) ks++Fa h as1)
def qje(h:List aa):bH->List ah|⟨_,ns,b⟩=>Fb (h++ns) b
def Da(b a:List aa):List ah->List ah|[]=>[]|e::l=>Fb b e++Da a a l
def Fa(h:List aa):List bH->List ah|[]=>[]|a::l=>qje h a++Fa h l
end
abbrev Tk(h:V aa)(e:ah):V ah:=if(Nv e&&!h.any λx=>x==e.Name)then[e]else[]
def qe6(h:V aa)(e:ah):Fb h e=Tk h e++(Da (h++qm e.Op e.Name e.Params Z) (h++qm e.Op e.Name e.Params T) e.Kids++Fa h e.Alts):=by let⟨o,n,k,ks,b,a,ts⟩:=e;rw[Fb];rfl
def qlG(h:V aa)(a:bH):qje h a=Fb (h++a.Names) a.Body:=by let⟨c,d,b⟩:=a;rw[qje];rfl
def Sj(b a:List aa):∀(l:List ah)(i:Nat)(c:i<l.length),Da b a (l.take (i+1))=Da b a (l.take i)++Fb (if 0<i then a else b) l[i]
 |x::l,0,c=>by simp[Da]
 |x::l,i+1,c=>by
  have d:i<l.length:=by simpa using c
  have e:=Sj a a l i d;rw[List.take_succ_cons,List.take_succ_cons,Da,Da,e,ite_self];simp
def Si(h:List aa):∀(l:List bH)(i:Nat)(a:i<l.length),Fa h (l.take (i+1))=Fa h (l.take i)++Fb (h++l[i].Names) l[i].Body
 |x::l,0,a=>by simp[Fa,qlG]
 |x::l,i+1,a=>by have b:=Si h l i (by simpa using a);rw[List.take_succ_cons,List.take_succ_cons,Fa,Fa,b];simp
mutual
def Qn(h:List aa):∀(e:ah),(Fb h e).length<=nE e
 |⟨o,n,k,ks,ps,as1,ts⟩=>by
  have a:=Qo (h++qm o n ps Z) (h++qm o n ps T) ks;have b:=V6 h as1;rw[Fb,nE,oo,oo];have c:(if(Nv ⟨o,n,k,ks,ps,as1,ts⟩&&!h.any λx=>x==n)then[(⟨o,n,k,ks,ps,as1,ts⟩:ah)]else[]).length<=1:=by split<;>simp
  omega
def qjf(h:List aa):∀(a:bH),(qje h a).length<=nA a
 |⟨c,ns,b⟩=>by have d:=Qn (h++ns) b;rw[qje,nA];omega
def Qo(b a:List aa):∀(l:List ah),(Da b a l).length<=Ny l
 |[]=>by simp[Da]
 |e::l=>by have c:=Qn b e;have d:=Qo a a l;rw[Da,Ny,oo];omega
def V6(h:List aa):∀(l:List bH),(Fa h l).length<=K7 l
 |[]=>by simp[Fa]
 |a::l=>by have b:=qjf h a;have c:=V6 h l;rw[Fa,K7,oo];omega
end
def qi9(l:V ah)(i:Nat)(d:i<l.length):Ny (l.take (i+1))=Ny (l.take i)+nE l[i]:=by
 have c:∀(a b:V ah),Ny (a++b)=Ny a+Ny b:=by intro a b;induction a with|nil=>simp[Ny]|cons x a ih=>rw[vaT,Ny,Ny,ih];omega
 rw[vas d,c];simp[Ny]
def qbP(l:V ah)(i:Nat):Ny (l.take i)<=Ny l:=by
 have:∀(l:V ah)(i:Nat),Ny (l.take i)<=Ny l:=by intro l;induction l with|nil=>intro i;simp|cons x l ih=>intro i;cases i with|zero=>simp[Ny]|succ i=>have:=ih i;simp only[List.take_succ_cons,Ny];omega
 exact this l i
def qgy(l:V bH)(i:Nat)(d:i<l.length):K7 (l.take (i+1))=K7 (l.take i)+nA l[i]:=by
 have c:∀(a b:V bH),K7 (a++b)=K7 a+K7 b:=by intro a b;induction a with|nil=>simp[K7]|cons x a ih=>rw[vaT,K7,K7,ih];omega
 rw[vas d,c];simp[K7]
def qbY(h:V aa)(e:ah)(a:h.length<9223372036854775808):(ky e).bind (λb=>if b then(sV h e.Name).bind λc=>O (Y (c<0))else O Z)=O (Nv e&&!h.any λx=>x==e.Name):=by rw[qcB,Xl _ _ a];simp only[eJ,U0,qf6]
def qgN(e:ah)(h:V aa)(m:V (aa×K))(r:h.length+nE e<=1073741824):kq e h m=O (lN m ((Fb h e).map (·.Name))):=by
 refine ql (F:=jr) (λx=>nE x.1) (λx=>x.2.1.length+nE x.1<=1073741824) (λx=>lN x.2.2 ((Fb x.2.1 x.1).map (·.Name))) (λR x H s=>?_) (e,h,m) r (kj (by unfold cz;show nE e<=_;omega));let⟨e,h,m⟩:=x;have r:h.length+nE e<=1073741824:=H;have P:=Gs e;have q:=RU e;have X:=P8 e.Kids;have S:=Mi e.Alts;show fT (λe a d=>R (e,a,d)) e h m=O (lN m ((Fb h e).map (·.Name)));unfold fT iZ i7;rw[qbY h e (by omega)];simp only[eJ];have E:(if(Nv e&&!h.any λx=>x==e.Name)then(ye e m).bind λL=>O L else O m)=O (lN m ((Tk h e).map (·.Name))):=by
  unfold Tk;by_cases p:(Nv e&&!h.any λx=>x==e.Name)=T;.rw[l7 p,l7 p];unfold ye;rw[OX _ _ (by simp)];rfl
  .rw[hG p,hG p];rfl
 rw[E];simp only[eJ]
 have t:∀c,i8 (λe a d=>R (e,a,d)) h e e.Kids (e.Kids.length:Int) 0 c=O (lN c ((Da (h++qm e.Op e.Name e.Params Z) (h++qm e.Op e.Name e.Params T) e.Kids).map (·.Name))):=λc=>by
  have g:=dw e.Kids.length (λo:Int×(V (aa×K))=>cE (λe a d=>R (e,a,d)) h e e.Kids (e.Kids.length:Int) o.1 o.2) (λi=>((i:Int),lN c ((Da (h++qm e.Op e.Name e.Params Z) (h++qm e.Op e.Name e.Params T) (e.Kids.take i)).map (·.Name)))) (lN c ((Da (h++qm e.Op e.Name e.Params Z) (h++qm e.Op e.Name e.Params T) e.Kids).map (·.Name))) (λi b=>?_) ?_;.unfold i8;simpa[lN,Da]using g
  .have z:=qby e.Op e.Name e.Params (Y (0<i));have A:=Ut (mx b);show cE _ h e e.Kids (e.Kids.length:Int) (i:Int) _=_;unfold cE;rw[l7 (by simpa using b),aC _ _ b,eJ,L3 _ (by omega),eJ,X8 e i (by omega),eJ,gJ (by omega),eJ];show(R _).bind _=_;rw[s (e.Kids[i],h++qm e.Op e.Name e.Params (Y (0<i)),_) (xU (mx b)) (by show(h++qm e.Op e.Name e.Params (Y (0<i))).length+nE e.Kids[i]<=1073741824;rw[oo];omega),eJ,Sj _ _ _ _ b,va5,tz,ch (by omega) (by omega)];by_cases y:0<i<;>simp[y]
  .show cE _ h e e.Kids (e.Kids.length:Int) (e.Kids.length:Int) _=_;unfold cE;rw[hG (by simp),vaR]
 have w:∀c,ja (λe a d=>R (e,a,d)) h e.Alts (e.Alts.length:Int) 0 c=O (lN c ((Fa h e.Alts).map (·.Name))):=λc=>by
  have g:=dw e.Alts.length (λo:Int×(V (aa×K))=>cF (λe a d=>R (e,a,d)) h e.Alts (e.Alts.length:Int) o.1 o.2) (λi=>((i:Int),lN c ((Fa h (e.Alts.take i)).map (·.Name)))) (lN c ((Fa h e.Alts).map (·.Name))) (λi b=>?_) ?_;.unfold ja;simpa[lN,Fa]using g
  .have A:=P7 (mx b);have B:=VV e.Alts[i];show cF _ h e.Alts (e.Alts.length:Int) (i:Int) _=_;unfold cF;rw[l7 (by simpa using b),aC _ _ b,eJ,L3 _ (by omega),eJ,gJ (by omega),eJ];show(R _).bind _=_;rw[s (e.Alts[i].Body,h++e.Alts[i].Names,_) (LW (mx b)) (by show(h++e.Alts[i].Names).length+nE e.Alts[i].Body<=1073741824;rw[oo];omega),eJ,Si _ _ _ b,va5,tz,ch (by omega) (by omega)];rfl
  .show cF _ h e.Alts (e.Alts.length:Int) (e.Alts.length:Int) _=_;unfold cF;rw[hG (by simp),vaR]
 rw[t];simp only[eJ];rw[w];simp only[eJ];rw[qe6,va5,va5,tz,tz]
def freeS(e:ah):V aa:=(Fb [] e).map (·.Name)
def X5(e:ah):(freeS e).length<=nE e:=by unfold freeS;rw[va0];exact Qn [] e
def qjs(e:ah)(b:nE e<=cz):EF e=O (T5 (freeS e)):=by have a:nE e<=1073741824:=b;have c:=X5 e;unfold EF;rw[Yq];simp only[eJ];rw[qgN e [] [] (by simpa using a)];simp only[eJ];rw[show(Fb [] e).map (·.Name)=freeS e from rfl,YN _ (by omega)];rfl
def yL(b:K)(l:V ah):V aa:=(l.filter λx=>!b||x.Op==5).map (·.Name)
def Ee(b:K)(l m:V ah):yL b (l++m)=yL b l++yL b m:=by unfold yL;rw[vb6,va5]
def Lc(b:K)(l:V ah):(yL b l).length<=l.length:=by unfold yL;rw[va0];exact va8 _ _
def qdR(e:ah)(h m:V aa)(A:h.length+nE e<=1073741824)(t:m.length+nE e<=1073741824):jW e h m=O (m++yL T (Fb h e)):=by
 refine ql (F:=iY) (λx=>nE x.1) (λx=>x.2.1.length+nE x.1<=1073741824/\x.2.2.length+nE x.1<=1073741824) (λx=>x.2.2++yL T (Fb x.2.1 x.1)) (λR x E H=>?_) (e,h,m) ⟨A,t⟩ (kj (by unfold cz;show nE e<=_;omega));let⟨e,h,m⟩:=x;have A:h.length+nE e<=1073741824:=E.1;have t:m.length+nE e<=1073741824:=E.2;have hn:=Gs e;have z:=RU e;have lk:=P8 e.Kids;have la:=Mi e.Alts;show fy (λe a d=>R (e,a,d)) e h m=O (m++yL T (Fb h e));unfold fy im io;rw[qbY h e (by omega)];simp only[eJ];have hs:(if(Nv e&&!h.any λx=>x==e.Name)then(vM e m).bind λr8=>O r8 else O m)=O (m++yL T (Tk h e)):=by
  unfold Tk;by_cases s:(Nv e&&!h.any λx=>x==e.Name)=T
  .rw[l7 s,l7 s];unfold vM;by_cases r:(e.Op==5)=T;.rw[l7 r,gJ (by simp;omega)];simp[yL,r]
   .rw[hG r];simp[yL,r]
  .rw[hG s,hG s];simp[yL]
 rw[hs];simp only[eJ]
 have L:∀b:V aa,b.length+Ny e.Kids<=1073741824->ip (λe a d=>R (e,a,d)) h e e.Kids (e.Kids.length:Int) 0 b=O (b++yL T (Da (h++qm e.Op e.Name e.Params Z) (h++qm e.Op e.Name e.Params T) e.Kids)):=λb w=>by
  have g:=dw e.Kids.length (λq:Int×V aa=>cm (λe a d=>R (e,a,d)) h e e.Kids (e.Kids.length:Int) q.1 q.2) (λi=>((i:Int),b++yL T (Da (h++qm e.Op e.Name e.Params Z) (h++qm e.Op e.Name e.Params T) (e.Kids.take i)))) (b++yL T (Da (h++qm e.Op e.Name e.Params Z) (h++qm e.Op e.Name e.Params T) e.Kids)) (λi c=>?_) ?_;.unfold ip;simpa[yL,Da]using g
  .have X:=qby e.Op e.Name e.Params (Y (0<i));have t:=Ut (mx c);have ht:=qi9 e.Kids i c;have y:=qbP e.Kids (i+1);have p:=Qo (h++qm e.Op e.Name e.Params Z) (h++qm e.Op e.Name e.Params T) (e.Kids.take i);have o:=Lc T (Da (h++qm e.Op e.Name e.Params Z) (h++qm e.Op e.Name e.Params T) (e.Kids.take i));show cm _ h e e.Kids (e.Kids.length:Int) (i:Int) _=_;unfold cm;rw[l7 (by simpa using c),aC _ _ c,eJ,L3 _ (by omega),eJ,X8 e i (by omega),eJ,gJ (by omega),eJ];show(R _).bind _=_;rw[H (e.Kids[i],h++qm e.Op e.Name e.Params (Y (0<i)),_) (xU (mx c)) ⟨by show(h++qm e.Op e.Name e.Params (Y (0<i))).length+nE e.Kids[i]<=1073741824;rw[oo];omega,by show(b++yL T (Da _ _ (e.Kids.take i))).length+nE e.Kids[i]<=1073741824;rw[oo];omega⟩,eJ,Sj _ _ _ _ c,Ee,ch (by omega) (by omega)];by_cases S:0<i<;>simp[S]
  .show cm _ h e e.Kids (e.Kids.length:Int) (e.Kids.length:Int) _=_;unfold cm;rw[hG (by simp),vaR]
 have P:∀b:V aa,b.length+K7 e.Alts<=1073741824->iq (λe a d=>R (e,a,d)) h e.Alts (e.Alts.length:Int) 0 b=O (b++yL T (Fa h e.Alts)):=λb w=>by
  have g:=dw e.Alts.length (λq:Int×V aa=>co (λe a d=>R (e,a,d)) h e.Alts (e.Alts.length:Int) q.1 q.2) (λi=>((i:Int),b++yL T (Fa h (e.Alts.take i)))) (b++yL T (Fa h e.Alts)) (λi c=>?_) ?_;.unfold iq;simpa[yL,Fa]using g
  .have t:=P7 (mx c);have a0:=VV e.Alts[i];have ht:=qgy e.Alts i c;have y:=qbO e.Alts (i+1);have p:=V6 h (e.Alts.take i);have o:=Lc T (Fa h (e.Alts.take i));show co _ h e.Alts (e.Alts.length:Int) (i:Int) _=_;unfold co;rw[l7 (by simpa using c),aC _ _ c,eJ,L3 _ (by omega),eJ,gJ (by omega),eJ];show(R _).bind _=_;rw[H (e.Alts[i].Body,h++e.Alts[i].Names,_) (LW (mx c)) ⟨by show(h++e.Alts[i].Names).length+nE e.Alts[i].Body<=1073741824;rw[oo];omega,by show(b++yL T (Fa h (e.Alts.take i))).length+nE e.Alts[i].Body<=1073741824;rw[oo];omega⟩,eJ,Si _ _ _ c,Ee,ch (by omega) (by omega)];simp
  .show co _ h e.Alts (e.Alts.length:Int) (e.Alts.length:Int) _=_;unfold co;rw[hG (by simp),vaR]
 have a1:=Lc T (Tk h e);have B:(Tk h e).length<=1:=by unfold Tk;split<;>simp
 have p:=Qo (h++qm e.Op e.Name e.Params Z) (h++qm e.Op e.Name e.Params T) e.Kids;have o:=Lc T (Da (h++qm e.Op e.Name e.Params Z) (h++qm e.Op e.Name e.Params T) e.Kids);rw[L _ (by rw[oo];omega)];simp only[eJ];rw[P _ (by rw[oo,oo];omega)];simp only[eJ];rw[qe6,Ee,Ee,va6,va6]
def qgL(e:ah)(b:nE e<=cz):Br e=O (yL T (Fb [] e)):=by have a:nE e<=1073741824:=b;unfold Br;rw[qdR e [] [] (by simpa using a) (by simpa using a)];rfl
def X3{α β:Type}(p:α->K)(f:α->β):∀(l:List α),l.findSome? (λx=>if p x then O (f x)else N)=(l.find? p).map f
 |[]=>rfl
 |x::l=>by rw[List.findSome?_cons,List.find?_cons];cases h:p x with|true=>rfl|false=>simpa using X3 p f l
abbrev qm3:Type:=aa×V aa×Int×aa×Int×V ah×V aY×V bH×V ai×Int×K×V aa×V dZ×V ku×V cY×Int×aa×V ai×V aa×Int×aa×Int×V ag×V ag×V ag
def qih(d:ba):qm3:=(d.Name,d.Params,d.Body.Op,d.Body.Name,d.Body.N,d.Body.Kids,d.Body.Params,d.Body.Alts,d.Body.Types,d.Mode,d.Typed,d.Sig.Vars,d.Sig.Needs,d.Sig.Abs,d.Sig.Bounds,d.Sig.Type_.Op,d.Sig.Type_.Name,d.Sig.Type_.Args,d.Sig.Type_.Names,d.Sig.Type_.Pred.Op,d.Sig.Type_.Pred.Name,d.Sig.Type_.Pred.N,d.Sig.Type_.Pred.Kids,d.Sig.Type_.Preds,d.Sig.Metric)
def aX(m:am)(a:aa):ba×K:=(m.Defs.find? (λd=>d.Name==a)).elim (⟨[],[],⟨0,[],0,[],[],[],[]⟩,0,Z,⟨[],[],[],[],⟨0,[],[],[],⟨0,[],0,[]⟩,[]⟩,[]⟩⟩,Z) (λd=>(d,T))
def qn(m:am)(a:aa)(c:m.Defs.length<9223372036854775808):dM m a=O (aX m a):=by
 unfold dM FB aX
 have:=qdE m.Defs c (λi=>(i,[],[],0,[],0,[],[],[],[],0,Z,[],[],[],[],0,[],[],[],0,[],0,[],[],[])) (λ(b:Int×aa×V aa×Int×aa×Int×V ah×V aY×V bH×V ai×Int×K×V aa×V dZ×V ku×V cY×Int×aa×V ai×V aa×Int×aa×Int×V ag×V ag×V ag)=>iX a m.Defs (m.Defs.length:Int) b.1 b.2.1 b.2.2.1 b.2.2.2.1 b.2.2.2.2.1 b.2.2.2.2.2.1 b.2.2.2.2.2.2.1 b.2.2.2.2.2.2.2.1 b.2.2.2.2.2.2.2.2.1 b.2.2.2.2.2.2.2.2.2.1 b.2.2.2.2.2.2.2.2.2.2.1 b.2.2.2.2.2.2.2.2.2.2.2.1 b.2.2.2.2.2.2.2.2.2.2.2.2.1 b.2.2.2.2.2.2.2.2.2.2.2.2.2.1 b.2.2.2.2.2.2.2.2.2.2.2.2.2.2.1 b.2.2.2.2.2.2.2.2.2.2.2.2.2.2.2.1 b.2.2.2.2.2.2.2.2.2.2.2.2.2.2.2.2.1 b.2.2.2.2.2.2.2.2.2.2.2.2.2.2.2.2.2.1 b.2.2.2.2.2.2.2.2.2.2.2.2.2.2.2.2.2.2.1 b.2.2.2.2.2.2.2.2.2.2.2.2.2.2.2.2.2.2.2.1 b.2.2.2.2.2.2.2.2.2.2.2.2.2.2.2.2.2.2.2.2.1 b.2.2.2.2.2.2.2.2.2.2.2.2.2.2.2.2.2.2.2.2.2.1 b.2.2.2.2.2.2.2.2.2.2.2.2.2.2.2.2.2.2.2.2.2.2.1 b.2.2.2.2.2.2.2.2.2.2.2.2.2.2.2.2.2.2.2.2.2.2.2.1 b.2.2.2.2.2.2.2.2.2.2.2.2.2.2.2.2.2.2.2.2.2.2.2.2.1 b.2.2.2.2.2.2.2.2.2.2.2.2.2.2.2.2.2.2.2.2.2.2.2.2.2)
  (λd=>if(d.Name==a)then O (Sum.inl (qih d):qm3⊕qm3)else N) (.inr ([],[],0,[],0,[],[],[],[],0,Z,[],[],[],[],0,[],[],[],0,[],0,[],[],[])) (λi e=>?_) ?_
 .rw[this];simp only[eJ];rw[show m.Defs.findSome? (λd=>if(d.Name==a)then O (Sum.inl (qih d):qm3⊕qm3)else N)=_ from X3 (λd:ba=>d.Name==a) (λd=>(Sum.inl (qih d):qm3⊕qm3)) m.Defs];cases m.Defs.find? (λd=>d.Name==a)with|none=>rfl|some d=>simp only[or,Option.elim,id,qih,X0,X1,XZ]
 .show iX a m.Defs (m.Defs.length:Int) (i:Int) [] [] 0 [] 0 [] [] [] [] 0 Z [] [] [] [] 0 [] [] [] 0 [] 0 [] [] []=_;unfold iX;rw[l7 (by simp;omega),aC _ i e];simp only[eJ];by_cases h:(m.Defs[i].Name==a)=T<;>simp[h,qih]
 .show iX a m.Defs (m.Defs.length:Int) (m.Defs.length:Int) [] [] 0 [] 0 [] [] [] [] 0 Z [] [] [] [] 0 [] [] [] 0 [] 0 [] [] []=_;unfold iX;rw[hG (by simp)]
def qfT(d:ba):V aa:=(yL T (Fb [] d.Body)).filter λs=>!Z5 d s
def M3(m:am)(x:aa):V aa:=if(aX m x).2 then(qfT (aX m x).1).filter λy=>(aX m y).2 else[]
inductive qhK(m:am):aa->aa->Prop
 |one {x y:aa}:y∈M3 m x->qhK m x y
 |step {x y z:aa}:y∈M3 m x->qhK m y z->qhK m x z
def qhK.known{m:am}{x y:aa}(h:qhK m x y):(aX m y).2=true:=by
 induction h with
 | @one x y h =>
  unfold M3 at h;split at h;.exact(vaX.1 h).2
  .cases h
 |step _ _ ih=>exact ih
def qd8{m:am}{L:V aa}(b:∀y∈L,∀z∈M3 m y,z∈L){x y:aa}(a:∀z∈M3 m x,z∈L)(h:qhK m x y):y∈L:=by induction h with|one h=>exact a _ h|step h _ ih=>exact ih (b _ (a _ h))
def VE{m:am}{x:aa}(h:(aX m x).2=T):x∈m.Defs.map (·.Name):=by
 unfold aX at h;cases a:m.Defs.find? (λd=>d.Name==x)with
 |none=>rw[a]at h;cases h
 |some d=>have b:=vbx a;have c:=vcj a;exact l9.2 ⟨d,b,by simpa using c⟩
def L7{m:am}{x:aa}(h:(aX m x).2=T):(aX m x).1∈m.Defs:=by
 unfold aX at h ⊢;cases a:m.Defs.find? (λd=>d.Name==x)with
 |none=>rw[a]at h;cases h
 |some d=>exact vbx a
def qcJ(m:am):Prop:=m.Defs.length<=30/\∀d∈m.Defs,nE d.Body<=300000000/\d.Params.length<=300000000
def qfS{m:am}(b:qcJ m){d:ba}(a:d∈m.Defs):yi d=O (qfT d)/\(qfT d).length<=nE d.Body:=by
 let⟨c,e⟩:=b.2 d a;have h:=Lc T (Fb [] d.Body);have i:=Qn [] d.Body;refine⟨?_,?_⟩;.unfold yi;rw[qgL _ (by unfold cz;omega)];simp only[eJ];rw[l7 (by simp only[ne,oy];unfold bO;omega)];rfl
 .unfold qfT;have:=va8 (λs=>!Z5 d s) (yL T (Fb [] d.Body));omega
def K5:∀(l:List aa)(m:List (aa×K))(j:aa),iP (lN m l) j=(l.contains j||iP m j)
 |[],m,j=>by simp[lN]
 |k::l,m,j=>by show iP (lN (mq m k T) l) j=_;rw[K5 l,qi6,List.contains_cons];cases l.contains j<;>cases(j==k)<;>simp
def K6(l:V aa)(j:aa):iP (lN [] l) j=T↔j∈l:=by rw[K5];have:iP ([]:V (aa×K)) j=false:=rfl;rw[this];simp
def uf(m:am)(s:V (aa×K)):Prop:=∃L,s=lN [] L/\L.Nodup/\∀x∈L,(aX m x).2=T
def Mj{m:am}{L:V aa}(b:L.Nodup)(a:∀x∈L,(aX m x).2=T):L.length<=m.Defs.length:=by
 by_cases h:m.Defs.length<L.length;.let⟨x,d,c⟩:=qjF (m.Defs.map (·.Name)) L b (by simpa using h);exact absurd (VE (a x d)) c
 .omega
def uf.put{m:am}{s:V (aa×K)}{x:aa}(h:uf m s)(r:(aX m x).2=T)(o:iP s x=Z):uf m (lN s [x]):=by
 obtain⟨L,rfl,w,p⟩:=h;have e:x∉L:=λt=>by rw[(K6 L x).2 t]at o;cases o
 refine⟨L++[x],by rw[tz],?_,λy c=>?_⟩;.rw[vbw];exact⟨w,by simp,λa q b i d=>by simp at i;subst i;subst d;exact e q⟩
 .rcases vz.1 c with c|c;.exact p y c
  .rw[va1.1 c];exact r
def lG(m:am)(s:V (aa×K)):Nat:=((m.Defs.map (·.Name)).filter λx=>!iP s x).length
def Ry{α:Type}{p q:α->K}(h:∀y,q y=T->p y=T):∀(l:List α),(l.filter q).length<=(l.filter p).length
 |[]=>by simp
 |a::l=>by have c:=Ry h l;simp only[vbD];cases b:q a with|true=>rw[h a b];simpa using c|false=>cases p a<;>simp<;>omega
def qlp{m:am}{s t:V (aa×K)}(h:∀y,iP s y=T->iP t y=T):lG m t<=lG m s:=by unfold lG;refine Ry (λy a=>?_) _;cases b:iP s y with|false=>rfl|true=>rw[h y b]at a;cases a
def X2{α:Type}{p q:α->K}:∀{l:List α}{x:α},x∈l->(∀y,q y=T->p y=T)->p x=T->q x=Z->(l.filter q).length<(l.filter p).length
 | a :: l,x,hx,h,hp,hq => by
  have c:(l.filter q).length<=(l.filter p).length:=Ry h l;rcases x8.1 hx with rfl|hx;.rw[List.filter_cons_of_pos hp,List.filter_cons_of_neg (by rw[hq];simp)];simp only[p6];omega
  .have d:=X2 hx h hp hq;simp only[vbD];cases b:q a with|true=>rw[h a b];simp;omega|false=>cases p a<;>simp<;>omega
def VJ{m:am}{s:V (aa×K)}{x:aa}(b:(aX m x).2=T)(d:iP s x=Z):lG m (lN s [x])<lG m s:=by
 unfold lG;refine X2 (VE b) (λy a=>?_) (by rw[d];rfl) ?_;.rw[K5]at a;cases c:iP s y with|false=>rfl|true=>rw[c]at a;simp at a
 .rw[K5];simp
def qkA(m:am)(x:aa)(s t:V (aa×K)):Prop:=uf m t/\(∀y,iP s y=T->iP t y=T)/\(∀y,iP t y=T->iP s y=T\/qhK m x y)/\(∀y∈M3 m x,iP t y=T)/\∀y,iP t y=T->iP s y=Z->∀z∈M3 m y,iP t z=T
def qhw{m:am}(hm:qcJ m)(x:aa)(s:V (aa×K))(hs:uf m s):fY (nF x m s m) (qkA m x s):=by
 have A:m.Defs.length<9223372036854775808:=by have:=hm.1;omega
 refine Hf (F:=lA) (λx=>lG m x.2.2.1) (λx=>x.2.1=m/\x.2.2.2=m/\uf m x.2.2.1) (λx t=>qkA m x.1 x.2.2.1 t) (λR x hx ih=>?_) (x,m,s,m) ⟨rfl,rfl,hs⟩ ?_
 .let⟨x,m2,s,d⟩:=x;let⟨E,r,hs⟩:=hx;simp only at E r hs;subst E r;show fY (gY (λa2 a k2 c=>R (a2,a,k2,c)) x d s d) (qkA d x s);unfold gY;rw[qn _ _ A];simp only[eJ];refine aG (λhk=>ak ?_) (λhk=>?_)
  .have o:¬(aX d x).2=true:=by simpa using hk
   have h0:M3 d x=[]:=by unfold M3;rw[hG o]
   exact⟨hs,λ_ h=>h,λ_ h=>.inl h,λy b=>(by rw[h0]at b;cases b),λy E r=>by rw[E]at r;cases r⟩
  .have o:(aX d x).2=true:=by simpa using hk
   let⟨H,a3⟩:=qfS hm (L7 o);have hb:=(hm.2 _ (L7 o)).1;rw[H];simp only[eJ];have P:M3 d x=(qfT (aX d x).1).filter λy=>(aX d y).2:=by unfold M3;rw[l7 o]
   generalize hl:qfT (aX d x).1=l at a3 P;refine aA (R:=qkA d x s) ?_ (λt ht=>ak ht);unfold qJ;refine kz l (by omega) (λi (t:V (aa×K))=>(i,t)) (λi t=>uf d t/\(∀y,iP s y=T->iP t y=T)/\(∀y,iP t y=T->iP s y=T\/qhK d x y)/\(∀y∈l.take i,(aX d y).2=T->iP t y=T)/\∀y,iP t y=T->iP s y=Z->∀z∈M3 d y,iP t z=T) (λi h t hI=>?_) (λt hI=>?_) s ⟨hs,λ_ h=>h,λ_ h=>.inl h,λy b=>by simp at b,λy E r=>by rw[E]at r;cases r⟩
   .let⟨i1,i2,i3,i4,i5⟩:=hI;show fY (dV _ d l (l.length:Int) d (i:Int) t) _;unfold dV kp;rw[l7 (by simpa using h),aC _ _ h];simp only[eJ];rw[qn _ _ A];simp only[eJ];have L:(if(aX d l[i]).2 then O (!((oe t l[i]).getD Z))else O Z)=O ((aX d l[i]).2&&!iP t l[i]):=by cases(aX d l[i]).2<;>rfl
    rw[L];simp only[eJ]
    have q:∀t',(∀y,iP t y=T->iP t' y=T)->((aX d l[i]).2=T->iP t' l[i]=T)->∀y∈l.take (i+1),(aX d y).2=T->iP t' y=true:=λt' ht hx y b X=>by
     rw[vas h]at b;rcases vz.1 b with b|b;.exact ht y (i4 y b X)
     .rw[va1.1 b]at X ⊢;exact hx X
    refine aG (λH=>?_) (λH=>ak ⟨t,rfl,i1,i2,i3,q t (λ_ h=>h) (λp=>?_),i5⟩)
    .simp only[ne,va4]at H;let⟨p,B⟩:=H;rw[OX _ _ (by simp)];simp only[eJ];have a0:=i1.put p B;have a4:lG d (lN t [l[i]])<lG d s:=R3 (VJ p B) (qlp i2);refine aA (ih (l[i],d,lN t [l[i]],d) a4 ⟨rfl,rfl,a0⟩) (λu hu=>ak ⟨u,rfl,?_⟩);let⟨u1,u2,u3,u4,u5⟩:=hu;have e:∀y,iP (lN t [l[i]]) y=T↔y=l[i]\/iP t y=true:=λy=>by rw[K5];simp
     have a1:l[i]∈M3 d x:=by rw[P];exact vaX.2 ⟨mx h,p⟩
     have S:∀y,iP t y=T->iP u y=true:=λy b=>u2 y ((e y).2 (.inr b));refine⟨u1,λy b=>S y (i2 y b),λy b=>?_,q u S (λ_=>u2 _ ((e _).2 (.inl rfl))),λy b a5 z hz=>?_⟩
     .rcases u3 y b with b|b
      .rcases(e y).1 b with rfl|b;.exact .inr (.one a1)
       .exact i3 y b
      .exact .inr (.step a1 b)
     .cases w:iP (lN t [l[i]]) y with
      |false=>exact u5 y b w z hz
      | true =>
       rcases(e y).1 w with rfl|w;.exact u4 z hz
       .exact S z (i5 y w a5 z hz)
    .cases hh:iP t l[i]with|true=>rfl|false=>rw[p,hh]at H;exact absurd rfl H
   .let⟨i1,i2,i3,i4,i5⟩:=hI;show fY (dV _ d l (l.length:Int) d (l.length:Int) t) _;unfold dV;rw[hG (by simp)];rw[vaR]at i4;refine ak ⟨i1,i2,i3,λy b=>?_,i5⟩;rw[P]at b;exact i4 y (vaX.1 b).1 (vaX.1 b).2
 .have E:lG m s<=30:=by
   unfold lG
   have r:=va8 (λx=>!iP s x) (m.Defs.map (·.Name))
   have h3:=hm.1
   rw[va0]at r
   omega
  exact kj (by unfold cz;show lG m s<=_;omega)
def UT{m:am}(e:qcJ m)(x:aa):∃L,gX m x=O (T5 L)/\(∀y,y∈L↔qhK m x y)/\L.length<=30:=by
 obtain⟨t,w,⟨L,rfl,s,r⟩,B,i,o,p⟩:=qhw e x [] ⟨[],rfl,by simp,by simp⟩;have A:∀y,iP ([]:V (aa×K)) y=false:=λy=>rfl;have b:L.length<=30:=m0 (Mj s r) e.1;refine⟨L,?_,λy=>⟨λc=>?_,λc=>?_⟩,b⟩;.unfold gX;rw[Yq];simp only[eJ];rw[w];simp only[eJ];rw[YN _ (by omega)];rfl
 .rcases i y ((K6 L y).2 c)with h|h;.cases h
  .exact h
 .exact qd8 (λa q z d=>(K6 L z).1 (p a ((K6 L a).2 q) rfl z d)) (λz d=>(K6 L z).1 (o z d)) c
def Zl:∀(s:aa),ru (ir s)=O s
 |[]=>rfl
 |c::s=>by show ru ((c.toNat:Int)::ir s)=_;have a:=c.toNat_lt;unfold ru;rw[l7 (by omega),Zl s];simp
def qbe{k:V Int}{b:K}(h:b=Z->∃t,k=ir t):∃r,kV k b=O r/\r.1.length<=40000:=by
 unfold kV rm;cases b with
 |true=>exact⟨([],6),rfl,by simp⟩
 | false =>
  obtain⟨t,rfl⟩:=h rfl;simp only[vaF,if_false,eJ];by_cases a:Y (((ir t).length:Int)>40000)=T;.rw[l7 a];exact⟨([],7),rfl,by simp⟩
  .rw[hG a];have e:NS (ir t) Z=O t:=Zl t;rw[e];simp only[gt_iff_lt,oy,Int.not_lt,oL.len]at a;exact⟨(t,0),rfl,by simp only[];omega⟩
def qk5(d:ba)(i:dB (aL d)<=16777216):∃r,Mv d=O r/\r.1.length<=40000:=by
 let⟨q,a,e,s,c⟩:=qqH d i [] Z (by simp only[List.length_nil];omega);let⟨r,o,m⟩:=qbe (k:=q) (b:=a) λh=>by let⟨_,t,p⟩:=c h;exact⟨t,by rw[p];rfl⟩
 unfold Mv;rw[e];simp only[eJ];rw[o];exact⟨_,rfl,m⟩
def qcw{α:Type}(c:α->List U)(h:∀x,1<=dB (c x)):∀l:List α,(l.map λx=>64 * dB (c x)+(16+0)).sum<=80 * bL (l.map c)
 |[]=>s5 _
 |x::l=>by have a:=h x;have b:=qcw c h l;simp only[ox,List.sum_cons,bL];omega
def AQ(m:am):dB (au m)=(bL (m.Datas.map bP)+1)+(bL (m.Classes.map eL)+1)+(bL (m.Instances.map cu)+1)+(bL (m.Measures.map aO)+1)+(bL (m.Quals.map cj)+1)+(bL (m.Defs.map aL)+1):=by unfold au;simp only[dB,pm,sl];omega
def qdI(m:am)(F:m.Classes=[])(a:m.Instances=[])(hm:dB (au m)<=12000000):∃r,AX m=O r/\r.1.length<=40000:=by
 have hp:=AQ m;have l1:=od bP (λx=>by have:=qi2 x;omega) m.Datas;have l2:=od aO (λx=>by have:=VU x;omega) m.Measures;have l3:=od cj (λx=>by have:=qi4 x;omega) m.Quals;have l4:=od aL (λx=>by have:=qbM x;omega) m.Defs;have s1:=qcw bP (λx=>by have:=qi2 x;omega) m.Datas;have s2:=qcw aO (λx=>by have:=VU x;omega) m.Measures;have s3:=qcw cj (λx=>by have:=qi4 x;omega) m.Quals;have s4:=qcw aL (λx=>by have:=qbM x;omega) m.Defs
 have y:∀(k:V Int)(b:K)(f:V Int×K->Q (V Int×K)),(∀x,f x=O x)->RL Prod.mk k b 1000000000 ((zx m.Datas (m.Datas.length:Int) 0 k b).bind λz=>(zy m.Classes (m.Classes.length:Int) 0 z.1 z.2).bind λc=>(zA m.Instances (m.Instances.length:Int) 0 c.1 c.2).bind λd=>(zB m.Measures (m.Measures.length:Int) 0 d.1 d.2).bind λh=>(zC m.Quals (m.Quals.length:Int) 0 h.1 h.2).bind λp=>(zD m.Defs (m.Defs.length:Int) 0 p.1 p.2).bind f):=λk b f H=>by
  rw[F,a];unfold zx zy zA zB zC zD;refine bZ (aw (jQ m.Datas (by omega) (λx=>64 * dB (bP x)+(16+0)) (λ_ _ _=>rfl) λi a k b=>cq (aC _ _ a) (aw (qqG _ (by have:=kQ bP (mx a);omega) k b) λs q=>dq λw=>aJ (n:=0))) λs q=>
   aw (jQ ([]:V dy) (by decide) (λx=>0) (λ_ _ _=>rfl) λi a=>absurd a (w0 _)) λw X=>
   aw (jQ ([]:V bw) (by decide) (λx=>0) (λ_ _ _=>rfl) λi a=>absurd a (w0 _)) λk3 b3=>
   aw (jQ m.Measures (by omega) (λx=>64 * dB (aO x)+(16+0)) (λ_ _ _=>rfl) λi a k b=>cq (aC _ _ a) (aw (qiV _ (by have:=kQ aO (mx a);omega) k b) λs q=>dq λw=>aJ (n:=0))) λk4 b4=>
   aw (jQ m.Quals (by omega) (λx=>64 * dB (cj x)+(16+0)) (λ_ _ _=>rfl) λi a k b=>cq (aC _ _ a) (aw (qqK _ (by have:=kQ cj (mx a);omega) k b) λs q=>dq λw=>aJ (n:=0))) λk5 b5=>
   aw (jQ m.Defs (by omega) (λx=>64 * dB (aL x)+(16+0)) (λ_ _ _=>rfl) λi a k b=>cq (aC _ _ a) (aw (qqH _ (by have:=kQ aL (mx a);omega) k b) λs q=>dq λw=>aJ (n:=0))) λk6 b6=>by rw[H];exact aJ (n:=0) (mk:=Prod.mk)) (by simp only[vbt,List.sum_nil];omega)
 let⟨S,A,e,h1,B⟩:=y [] Z O (λ_=>rfl) (by simp only[List.length_nil];omega);let⟨r,P,L⟩:=qbe (k:=S) (b:=A) λE=>by let⟨_,t,R⟩:=B E;exact⟨t,by rw[R];rfl⟩
 refine⟨r,?_,L⟩;unfold AX;simp only[<-vbG]at e ⊢;rw[show ∀(o:Q (V Int×K)),o.bind O=o from λo=>by cases o<;>rfl]at e;rw[e,eJ];simp only[P,eJ]
def LK(d:ba)(a:dB (aL d)<=16777216):∃s,kG d=O s/\s.length<=40000:=by
 let⟨r,e,h⟩:=qk5 d a;unfold kG;rw[e];simp only[eJ];split;.exact⟨_,rfl,by decide⟩
 .exact⟨_,rfl,h⟩
def HO(m:am)(a:m.Classes=[])(b:m.Instances=[])(c:dB (au m)<=12000000):∃s,ft m=O s/\s.length<=40000:=by
 let⟨r,e,h⟩:=qdI m a b c;unfold ft;rw[e];simp only[eJ];split;.exact⟨_,rfl,by decide⟩
 .exact⟨_,rfl,h⟩
def qeX{t s:aa}(h:t.length+s.length+1<=1073741824):d8 s (ir t)=O (ir (t++(s++XG))):=by have a:XG.length=1:=rfl;unfold d8 fl Kz;simp only[eJ];rw[Y7 (ir t) s (by rw[oL.len];omega)];simp only[eJ];rw[Y7 _ XG (by rw[oo,oL.len,oL.len];omega)];simp only[eJ,oL.app,va6]
def xe(n:Nat)(A:n<=1000)(g:Nat->Q aa)(w:∀i,i<n->∃s,g i=O s/\s.length<=1100000)(a:Int×V Int->Q ((Int×V Int)⊕V Int))
  (p:∀(i:Nat) k,i<n->a ((i:Int),k)=(g i).bind λs=>(d8 s k).bind λr=>O (.inl (dc ((i:Int)+1),r))) (q:∀k,a ((n:Int),k)=O (.inr k)) (t:aa) (c:t.length+n * 1100001<=1073741824):∃b,loop a (0,ir t)=O (ir b)/\b.length<=t.length+n * 1100001:=by
 have d:∀m i (t:aa),m+i=n->t.length+m * 1100001<=1073741824->∃b,loop a ((i:Int),ir t)=O (ir b)/\b.length<=t.length+m * 1100001:=by
  intro m;induction m with
  |zero=>
   intro i t x c;have:i=n:=by omega
   subst this;exact⟨t,gL (q _),by omega⟩
  | succ m ih =>
   intro i t x c;let⟨s,e,z⟩:=w i (by omega);have B:XG.length=1:=rfl;have y:a ((i:Int),ir t)=O (.inl (((i+1:Nat):Int),ir (t++(s++XG)))):=by rw[p i _ (by omega),e,eJ,qeX (by omega),eJ,ch (by omega) (by omega)];rfl
   let⟨b,h,o⟩:=ih (i+1) (t++(s++XG)) (by omega) (by simp only[oo];omega);rw[tN y];simp only[oo]at o;exact⟨b,h,by omega⟩
 exact d n 0 t (by omega) c
def ql7(s:aa)(c:s.length<=1073741824):∃v,wX s=O v:=by
 have h:∃r,E3 s 2166136261 0=O r:=by
  unfold E3
  let⟨r,e,_⟩:=kz s (by omega) (λi v=>(v,i)) (body:=λb:Int×Int=>iO s b.1 b.2) (λ_ _=>True) (Q:=λ_=>True) (λi a v _=>by
   show fY (iO s v (i:Int)) _;unfold iO;rw[l7 (Xk a),nI s i a,eJ];exact ak ⟨_,rfl,hV⟩) (λv _=>by
   show fY (iO s v (s.length:Int)) _;unfold iO;rw[hG (Yl _)];exact ak hV) 2166136261 trivial
  exact⟨r,e⟩
 let⟨r,e⟩:=h;unfold wX;rw[e];exact⟨_,rfl⟩
end Go.Proofs.YtankopenjcbeeaaGreatDoor
