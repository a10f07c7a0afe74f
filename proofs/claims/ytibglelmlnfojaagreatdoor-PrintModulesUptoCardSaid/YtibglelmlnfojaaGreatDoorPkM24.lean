/- PROVED: a part of the proof. Conditions: none. -/
import Derived.Test.YtibglelmlnfojaaGreatDoorPkM23
import Derived.Test.YtibglelmlnfojaaGreatDoorPkM20
set_option linter.unusedSimpArgs false set_option linter.defProp false
set_option linter.unusedVariables false
noncomputable section
namespace Go.Proofs.YtibglelmlnfojaaGreatDoor
open Go
open Option renaming some→O,none→N
open Go renaming TypeId→G,Value→D,Program→I,Oper→M,World→J,Code→W
open Bool renaming true→T,false→Z
open Decidable renaming decide→Y
open Go.Proofs.YtibglelmlnfojaaGreatDoor renaming PVal→U
set_option linter.unusedVariables false
set_option linter.unusedSimpArgs false
abbrev dB(l:V tH)(a:Int×V Int×K):=d9 l (l.length:Int) a.1 a.2.1 a.2.2
abbrev dR(l:V tH)(a:Int×ae×K):=cJ l (l.length:Int) a.1 a.2.1 a.2.2
def fin:List Int⊕(List Int×K)->Q (List Int×K)|.inl o=>O (o,T)|.inr o=>O (o.1,o.2)
def qnQ(l:List tH)(z:l.length<9223372036854775808):∀m i (s:ae),m+i=l.length->s.length+(((l.drop i).map gC).sum)<=1073741824->∃o,loop (dR l) ((i:Int),s,T)=O (o,T)/\o.length<=s.length+((l.drop i).map gC).sum:=by
 intro m;induction m with
 |zero=>
  intro i s q n;have:i=l.length:=by omega
  subst this;exact⟨s,dW (by simp only[dR];unfold cJ;rw[hG (qsm _)]),vbC _ _⟩
 | succ m ih =>
  intro i s q n;have a:i<l.length:=by omega
  rw[vaD a,ox,List.sum_cons]at n ⊢;have p:∃b,dR l ((i:Int),s,T)=O (.inl (cz ((i:Int)+1),b,T))/\b.length<=s.length+gC l[i]:=by
   simp only[dR];unfold cJ;rw[hU (qnb a),aC _ _ a,hN];have y:gC l[i]=32+(l[i].Name.length+(16+(64 * bC (l[i].Names.map cS)+64 * bC (l[i].Fields.map al)+16))):=rfl;have r:∀(i:Nat),(if i=0 then([]:ae)else yu).length<=2:=λi=>by split<;>simp[yu]
   have x:=r i;have t:bZ.length=1:=rfl;have c:gr (i:Int) s T=O (s++(if i=0 then([]:ae)else yu)):=qlj yu i s T (by omega);have h:ac ([bZ]:List ae) (s++(if i=0 then([]:ae)else yu)) T=O (s++(if i=0 then([]:ae)else yu)++bZ):=R5 bZ _ T (by rw[m3];omega);rw[c,hN,h,hN];let⟨b,e,d⟩:=qkt l[i] (s++(if i=0 then([]:ae)else yu)++bZ) T (.inl rfl) (by simp only[m3];omega);rw[e];exact⟨b,rfl,by simp only[m3]at d;omega⟩
  let⟨b,c,e⟩:=p;rw[mV c,dj (by omega) (by omega),show((i:Int)+1)=((i+1:Nat):Int) by omega];let⟨w,d,h⟩:=ih (i+1) b (by omega) (by omega);exact⟨w,d,by omega⟩
section
variable(l:V tH)(d:l.length<9223372036854775808)(a:∀c∈l,dc (ef c)<=16777216)
include d a
def qnP(i:Nat)(hi:i<l.length)(k:V Int)(s:ae)(b:K)(ih:∀k s b,R2 Prod.mk Prod.mk k s b (((l.drop (i+1)).map gC).sum) ((loop (dB l) (((i+1:Nat):Int),k,b)).bind fin) (loop (dR l) (((i+1:Nat):Int),s,b))):R2 Prod.mk Prod.mk k s b (gC l[i] - 16+((l.drop (i+1)).map gC).sum)
  (((bw l[i].Name k b).bind λe=>if((l[i].Names.length:Int)!=(l[i].Fields.length:Int))then O (.inr (.inl e.2))else if((l[i].Fields.length:Int)==0)then O (.inl (cz ((i:Int)+1),e.2,e.1))else(aa ([fw]:V ae) e.2 e.1).bind λy=>(d8 (l[i].Fields.length:Int) y e.1 l[i].Name l[i].Names l[i].Fields).bind λm=>(aa ([dM]:V ae) m.1 m.2).bind λz=>O (.inl (cz ((i:Int)+1),z,m.2))).bind λr=>(qje (dB l) r).bind fin)
  (((iF l[i] s b).bind λo=>O (.inl (cz ((i:Int)+1),o.1,o.2))).bind (qje (dR l))):=by
 have hc:=a _ (m4 hi)
 have X:=qtJ l[i]
 have hf:=jI al (λx=>by have:=Yq x;omega) l[i].Fields
 have hg:gC l[i]=32+(l[i].Name.length+(16+(64 * bC (l[i].Names.map cS)+64 * bC (l[i].Fields.map al)+16))):=rfl
 have E:cz ((i:Int)+1)=((i+1:Nat):Int):=by rw[dj (by omega) (by omega)];omega
 by_cases B:l[i].Names.length=l[i].Fields.length
 .refine bT (aL (qz0 l[i] B (by omega) (λt ht=>by have:=lw al ht;unfold KD;omega) (cz ((i:Int)+1)) k s b) λH p q=>?_) (n:=(l[i].Name.length+(16+(64 * bC (l[i].Names.map cS)+64 * bC (l[i].Fields.map al)+16)))+((l.drop (i+1)).map gC).sum) (by omega)
  show R2 _ _ _ _ _ _ ((loop (dB l) (cz ((i:Int)+1),H,q)).bind fin) (loop (dR l) (cz ((i:Int)+1),p,q))
  rw[E]
  exact ih H p q
 .intro h1 h2 _
  have w:((l[i].Names.length:Int)!=(l[i].Fields.length:Int))=true:=by rw[bne_iff_ne];omega
  let⟨F,b1,P,_,_,A⟩:=qpg l[i].Name k b (by rw[pT];show k.length+l[i].Name.length<=_;omega)
  rw[pT]at A
  change F.length<=k.length+l[i].Name.length at A
  let⟨L,R,e3⟩:=qkt l[i] s b (.inr B) (by omega)
  let⟨p,S,e6⟩:=qnQ l d (l.length - (i+1)) (i+1) L (by omega) (by omega)
  rw[P,R]
  simp only[hN]
  rw[hU w]
  refine⟨F,p,T,rfl,?_,by omega,by omega,λh=>by cases h⟩
  show loop (dR l) (cz ((i:Int)+1),L,T)=_
  rw[E,S]
def qlS:∀m i k s b,m+i=l.length->0<i->R2 Prod.mk Prod.mk k s b (((l.drop i).map gC).sum) ((loop (dB l) ((i:Int),k,b)).bind fin) (loop (dR l) ((i:Int),s,b)):=by
 intro m;induction m with
 |zero=>
  intro i k s b o _;have:i=l.length:=by omega
  subst this;rw[dW (body:=dB l) (x:=.inr (k,b)) (by simp only[dB];unfold d9;rw[hG (qsm _)]),dW (body:=dR l) (x:=(s,b)) (by simp only[dR];unfold cJ;rw[hG (qsm _)])];exact bI (mk:=Prod.mk) (mk':=Prod.mk)
 |succ m ih=>
  intro i k s b o r;have e:i<l.length:=by omega
  have h:=vaD e;rw[Bx,Bx,h,ox,List.sum_cons];simp only[dB,dR];unfold d9 cJ lz gr;rw[hU (qnb e),hU (qnb e),aC _ _ e,hN,hN,hU (by simp only[gt_iff_lt,nm];omega),hU (by simp only[gt_iff_lt,nm];omega)];simp only[or,hN];have t:gC l[i]=32+(l[i].Name.length+(16+(64 * bC (l[i].Names.map cS)+64 * bC (l[i].Fields.map al)+16))):=rfl;refine bT (qlh λp q=>?_) (n:=16+(gC l[i] - 16+((l.drop (i+1)).map gC).sum)) (by omega);have:=qnP l d a i e p q b (λk s b=>ih (i+1) k s b (by omega) (by omega));simp only[or,hN]at this;exact this
end
def qwA(d:jE)(hd:dc (cq d)<=16777216)(k:V Int)(s:ae)(b:K):R2 Prod.mk Prod.mk k s b (64 * dc (cq d)) (ly d k b) (jy d s b):=by
 have hp:=qov d;have l1:=qgk d.Vars;have l2:=jI cp (λx=>by have:=qoy x;omega) d.Preds;have l3:=jI ef (λx=>by have:=qtJ x;omega) d.Cons;have P:∀k s b,R2 Prod.mk Prod.mk k s b (64 * bC (d.Vars.map cS)) (iK d.Vars (d.Vars.length:Int) 0 k b) (jF d.Vars (d.Vars.length:Int) 0 s b):=λk s b=>by unfold iK jF;exact bT (jo d.Vars (by omega) (λx=>16+(x.length+0)) (λ_ _ _=>rfl) (λ_ _ _=>rfl) λi m k s b=>fK (aC _ _ m) (aC _ _ m) (cZ λo z=>aL (sD _ o z b) λS s2 F=>bI)) (lX cS _ _ λx _=>by simp only[cS,dc,pm];omega)
 have H:∀k s b,R2 Prod.mk Prod.mk k s b (64 * bC (d.Preds.map cp)+32) (gf d k b) (gq d s b):=λk s b=>by unfold gf gq;exact uK Iff.rfl (λ_=>bT (cZ λo z=>aL (qsx _ (by omega) o z b) λS s2 F=>cZ λk3 s3=>bI (n:=0) (mk:=Prod.mk) (mk':=Prod.mk)) (by omega)) λ_=>bI (mk:=Prod.mk) (mk':=Prod.mk)
 have L:∀b,iJ d b=O (b||((d.Cons.length:Int)==0)):=λb=>by unfold iJ;cases b<;>rfl
 have e1:ly d k b=((aa ([Aa]:V ae) k b).bind λr1=>(bw d.Name r1 b).bind λt=>(iK d.Vars (d.Vars.length:Int) 0 t.2 t.1).bind λB=>gf d B.1 B.2).bind λp=>(aa ([ed]:V ae) p.1 p.2).bind λa0=>(iJ d p.2).bind λX=>(loop (dB d.Cons) (0,a0,X)).bind fin:=by unfold ly;simp only[or];rfl
 have e2:jy d s b=((λb'=>(ac ([Aa]:V ae) s b').bind λt=>(aH d.Name T t b').bind λr3=>(jF d.Vars (d.Vars.length:Int) 0 r3.1 r3.2).bind λo8=>gq d o8.1 o8.2) (b||((d.Cons.length:Int)==0))).bind λq=>(ac ([QN]:V ae) q.1 q.2).bind λa1=>loop (dR d.Cons) (0,a1,q.2):=by unfold jy;rw[mc,hN,qp7];simp only[or,eI];rfl
 have a3:=lX ef gC d.Cons λc _=>by have:=qtJ c;show 32+(c.Name.length+(16+(64 * bC (c.Names.map cS)+64 * bC (c.Fields.map al)+16)))<=_;omega
 rw[e1,e2];refine bT (VS (A:=λb=>(aa ([Aa]:V ae) k b).bind λr1=>(bw d.Name r1 b).bind λt=>(iK d.Vars (d.Vars.length:Int) 0 t.2 t.1).bind λB=>gf d B.1 B.2) (mk:=Prod.mk) (mk':=Prod.mk) (n2:=16+(d.Cons.map gC).sum) ((d.Cons.length:Int)==0) (λb=>cZ λo z=>aL (Jk _ o z b) λS s2 F=>aL (P S s2 F) λk3 s3 b3=>H k3 s3 b3) λk' s' e=>?_) (by omega);simp only[L,hN];by_cases h0:d.Cons.length=0
 .have R:((d.Cons.length:Int)==0)=true:=by rw[o5];omega
  rw[R,vbs];intro h1 h2 _;have z1:ed.length=3:=rfl;have z2:QN.length=2:=rfl;rw[Vy _ k' e (by omega),R5 _ s' T (by omega),hN,hN];rw[dW (body:=dB d.Cons) (x:=.inr (k'++qG ed,T)) (by simp only[dB];unfold d9;rw[hG (by simp only[nm];omega)]),dW (body:=dR d.Cons) (x:=(s'++QN,T)) (by simp only[dR];unfold cJ;rw[hG (by simp only[nm];omega)])];exact⟨_,_,T,rfl,rfl,by rw[m3,ir.len];omega,by rw[m3];omega,λh=>by cases h⟩
 .have R:((d.Cons.length:Int)==0)=false:=by rw[beq_eq_false_iff_ne];omega
  rw[R,vbp];have m:0<d.Cons.length:=by omega
  have hg:gC d.Cons[0]=32+(d.Cons[0].Name.length+(16+(64 * bC (d.Cons[0].Names.map cS)+64 * bC (d.Cons[0].Fields.map al)+16))):=rfl;have a4:=qiX gC d.Cons m;have hl:∀c∈d.Cons,dc (ef c)<=16777216:=λc hc=>by have:=lw ef hc;omega
  have hB:∀r:V Int,(loop (dB d.Cons) (0,r,e)).bind fin=((bw d.Cons[0].Name r e).bind λa=>if((d.Cons[0].Names.length:Int)!=(d.Cons[0].Fields.length:Int))then O (.inr (.inl a.2))else if((d.Cons[0].Fields.length:Int)==0)then O (.inl (cz (((0:Nat):Int)+1),a.2,a.1))else(aa ([fw]:V ae) a.2 a.1).bind λa2=>(d8 (d.Cons[0].Fields.length:Int) a2 a.1 d.Cons[0].Name d.Cons[0].Names d.Cons[0].Fields).bind λw=>(aa ([dM]:V ae) w.1 w.2).bind λy=>O (.inl (cz (((0:Nat):Int)+1),y,w.2))).bind λr=>(qje (dB d.Cons) r).bind fin:=λr=>by rw[Bx,or];show((d9 d.Cons (d.Cons.length:Int) ((0:Nat):Int) r e).bind _)=_;unfold d9 lz;rw[hU (qnb m),aC d.Cons 0 m,hN,hG (by decide),hN]
  have hR:∀r:ae,loop (dR d.Cons) (0,r,e)=(ac ([bZ]:V ae) r e).bind λy=>((iF d.Cons[0] y e).bind λE=>O (.inl (cz (((0:Nat):Int)+1),E.1,E.2))).bind (qje (dR d.Cons)):=λr=>by rw[Bx];show((cJ d.Cons (d.Cons.length:Int) ((0:Nat):Int) r e).bind _)=_;unfold cJ gr;rw[hU (qnb m),aC d.Cons 0 m,hN,hG (by decide),hN,or]
  simp only[hB,hR];exact bT (qlh λo z=>qnP d.Cons (by omega) hl 0 m o z e λk s b=>qlS d.Cons (by omega) hl (d.Cons.length - 1) 1 k s b (by omega) (by omega)) (by show 16+(gC d.Cons[0] - 16+((d.Cons.drop 1).map gC).sum)<=_;omega)
def qt6{β γ:Type}{mk:V Int->K->β}{mk':ae->K->γ}{k:V Int}{s:ae}{b:K}{n m:Nat}{o:Q β}{o':Q γ}(h:qqh mk mk' k s b n o o')(e:n<=m):qqh mk mk' k s b m o o':=λx y p=>by let⟨q,r,i,a,c,t,w,d⟩:=h (by omega) (by omega) p;exact⟨q,r,i,a,c,by omega,by omega,d⟩
def El{α:Type}(c:α->List U)(g:α->Nat)(e:Nat):∀(l:List α),(∀x∈l,g x<=e * dc (c x))->(l.map g).sum<=e * bC (l.map c)
 |[],_=>by simp
 |x::l,h=>by have b:=h x (by simp);have d:=El c g e l λy a=>h y (by simp[a]);simp only[ox,List.sum_cons,bC,Nat.mul_add];omega
def EF(b:cW):dc (aX b)=(b.Class.length+1)+dc (al b.Type_)+(bC (b.Needs.map cr)+1)+(bC (b.Defs.map aV)+1):=by unfold aX;simp only[ik,dc,pm,sl];omega
def qkP(m:dt):dc (bo m)=(bC (m.Datas.map cq)+1)+(bC (m.Classes.map ce)+1)+(bC (m.Instances.map aX)+1)+(bC (m.Measures.map aZ)+1)+(bC (m.Quals.map cX)+1)+(bC (m.Defs.map aV)+1):=by unfold bo;simp only[dc,pm,sl];omega
abbrev iB(l:V d5)(a:Int×V Int×K):=ff l (l.length:Int) a.1 a.2.1 a.2.2
abbrev iR(l:V d5)(a:Int×ae×K):=fE l (l.length:Int) a.1 a.2.1 a.2.2
abbrev gD(d:d5):Nat:=33+64 * dc (aV d)
def qwB(l:List d5)(H:l.length<9223372036854775808)(A:∀c∈l,dc (aV c)<=16777216):∀m i k s b,m+i=l.length->qqh Prod.mk Prod.mk k s b (((l.drop i).map gD).sum+16)
  ((loop (iB l) ((i:Int),k,b)).bind λe=>(aa ([lI]:List ae) e.1 e.2).bind λp=>O (p,e.2))
  ((loop (iR l) ((i:Int),s,b)).bind λd=>(ac ([Iu]:List ae) d.1 d.2).bind λo=>O (o,d.2)):=by
 intro m
 induction m with
 |zero=>
  intro i k s b z
  have:i=l.length:=by omega
  subst this
  rw[dW (body:=iB l) (x:=(k,b)) (by simp only[iB];unfold ff;rw[hG (qsm _)]),dW (body:=iR l) (x:=(s,b)) (by simp only[iR];unfold fE;rw[hG (qsm _)]),hN,hN,vbP]
  exact qrL (n:=0) λq P=>bI (mk:=Prod.mk) (mk':=Prod.mk)
 |succ m ih=>
  intro i k s b z
  have a:i<l.length:=by omega
  have B:cz ((i:Int)+1)=((i+1:Nat):Int):=by rw[dj (by omega) (by omega)];omega
  rw[Bx,Bx,vaD a,ox,List.sum_cons]
  simp only[iB,iR]
  have y:∀b,iy b l[i].Mode=O (b||(l[i].Mode !=0)):=λb=>by unfold iy;cases b<;>rfl
  have E:(!(l[i].Mode==0))=(l[i].Mode !=0):=rfl
  unfold ff fE
  rw[hU (qnb a),hU (qnb a),aC _ _ a,hN,hN,y,mc,E]
  simp only[or,hN]
  refine qpt (x:=l[i].Mode !=0) ?_
  have F:gD l[i]=33+64 * dc (aV l[i]):=rfl
  refine qt6 (qwJ λq=>aL (qt0 l[i] (A _ (m4 a)) q s (b||(l[i].Mode !=0))) λL R h=>?_) (n:=1+(64 * dc (aV l[i])+(16+(((l.drop (i+1)).map gD).sum+16)))) (by omega)
  refine qpu (t:=qp3) (u:=rH) (λr w=>?_) rfl (by decide)
  show qqh _ _ _ _ _ _ ((loop (iB l) (cz ((i:Int)+1),r,h)).bind _) ((loop (iR l) (cz ((i:Int)+1),w,h)).bind _)
  rw[B]
  exact ih (i+1) r w h (by omega)
def qwD(x:cW)(hx:dc (aX x)<=10000000)(k:V Int)(s:ae)(b:K):R2 Prod.mk Prod.mk k s b (80 * dc (aX x)) (kG x k b) (mi x s b):=by
 have hp:=EF x;have l2:=jI cr (λx=>by have:=qow x;omega) x.Needs;have l3:=jI aV (λx=>by have:=qgp x;omega) x.Defs;have z:KD x.Type_:=by unfold KD;omega
 have y:∀k s b,R2 Prod.mk Prod.mk k s b (64 * bC (x.Needs.map cr)+16) (fH x k b) (gv x s b):=λk s b=>by unfold fH gv;exact uK Iff.rfl (λ_=>bT (cZ λq t=>aL (n2:=0) (qpo _ (by omega) q t b) λA P n=>bI (mk:=Prod.mk) (mk':=Prod.mk)) (by omega)) λ_=>bI (mk:=Prod.mk) (mk':=Prod.mk)
 have S:=El aV gD 80 x.Defs λd _=>by have:=qgp d;have:=qV d.Body;show 33+64 * dc (aV d)<=_;omega
 have a:∀k s b,R2 Prod.mk Prod.mk k s b (64 * bC (x.Needs.map cr)+48+(x.Defs.map gD).sum) ((fH x k b).bind λe=>(aa ([qcX]:V ae) e.1 e.2).bind λF=>(uJ x.Defs (x.Defs.length:Int) 0 F e.2).bind λm=>(aa ([lI]:V ae) m.1 m.2).bind λL=>O (L,m.2))
   ((gv x s b).bind λE=>(ac ([jW]:V ae) E.1 E.2).bind λr9=>(wW x.Defs (x.Defs.length:Int) 0 r9 E.2).bind λi=>(ac ([Iu]:V ae) i.1 i.2).bind λH=>O (H,i.2)):=λk s b=>
  bT (aL (y k s b) λq t b1=>qpu λA P=>qwB x.Defs (by omega) (λd hd=>by have:=lw aV hd;omega) x.Defs.length 0 A P b1 (by omega)) (by rw[vbl];omega)
 let⟨r,w,e2⟩:=qsb x.Type_ z;have a0:=Qi x.Type_;unfold kG mi;refine bT (cZ λq t=>aL (Jk _ q t b) λA P n=>cZ λB c=>rC e2 (?_:R2 _ _ B c n (64 * dc (al x.Type_)+(64 * bC (x.Needs.map cr)+48+(x.Defs.map gD).sum)) _ _)) (by omega);by_cases p:r=0;.subst p;rw[hG (by decide)];exact bT (aL (qpp x.Type_ z (λk s b=>qwG x.Type_ z w k s b) B c n) λk4 o b4=>a k4 o b4) (by omega)
 .rw[hU (by rw[bne_iff_ne];exact p)];intro h1 h2 h3;have hS:∃o,ig dH x.Type_ c n=O (o,T)/\o.length<=c.length+32:=by
   have z1:dl.length=1:=rfl;have z2:dM.length=1:=rfl;unfold ig;rw[qeT,hN];by_cases R:qwQ x.Type_=T;.have p1:ac ([dl]:V ae) c n=O (c++dl):=R5 _ c n (by omega);have p2:ac ([dM]:V ae) (c++dl) T=O (c++dl++dM):=R5 _ _ T (by rw[m3];omega);rw[hU R,p1,hN,qj9 w p,hN,p2];exact⟨_,rfl,by simp only[m3];omega⟩
   .rw[hG R,qj9 w p];exact⟨c,rfl,by omega⟩
  let⟨o,q1,q4⟩:=hS;rw[q1,hN];let⟨k5,s5,b5,X,a2,a3,a4,a5⟩:=AC (mk:=Prod.mk) (b:=T) (a B o T) (by omega) (by omega) (λh=>by cases h);exact⟨k5,s5,b5,X,a2,by omega,by omega,λhb=>by have:=(a5 hb).1;cases this⟩
def qnF:∀(s:ae),j6 (qG s)=O s
 |[]=>rfl
 |c::s=>by show j6 ((c.toNat:Int)::qG s)=_;have a:=c.toNat_lt;unfold j6;rw[hU (by omega),qnF s];simp
def qed{k:List Int}{s:ae}{b:K}(h:b=Z->k=qG s):∃r,lA k b=O r/\lh s b=O r:=by
 unfold lA lh tD;cases b with
 |true=>exact⟨_,rfl,rfl⟩
 | false =>
  have c:=h rfl;subst c;simp only[m5,if_false,hN];rw[ir.len];by_cases a:Y ((s.length:Int)>40000)=T;.rw[hU a,hU a];exact⟨_,rfl,rfl⟩
  .rw[hG a,hG a];have e:QW (qG s) Z=O s:=qnF s;rw[e];exact⟨_,rfl,rfl⟩
def qnZ(d:d5)(n:dc (aV d)<=10000000):∃r,Kd d=O r/\ZR d=O r:=by let⟨k,s,b,a,c,_,_,h⟩:=qt0 d (by omega) [] [] Z (by simp only[List.length_nil];omega) (by simp only[List.length_nil];omega) (λ_=>rfl);let⟨r,e,i⟩:=qed (k:=k) (s:=s) (b:=b) λm=>(h m).2;unfold Kd ZR;rw[a,c];simp only[hN];rw[e,i];exact⟨_,rfl,rfl⟩
def qil(m:dt)(hm:dc (bo m)<=10000000):∃r,xx m=O r/\Li m=O r:=by
 have hp:=qkP m;have l1:=jI cq (λx=>by have:=qov x;omega) m.Datas;have l2:=jI ce (λx=>by have:=qjG x;omega) m.Classes;have l3:=jI aX (λx=>by have:=EF x;omega) m.Instances;have l4:=jI aZ (λx=>by have:=qbT x;omega) m.Measures;have l5:=jI cX (λx=>by have:=qox x;omega) m.Quals;have l6:=jI aV (λx=>by have:=qgp x;omega) m.Defs;have A:∀k s b,R2 Prod.mk Prod.mk k s b (100 * bC (m.Datas.map cq)) (oK m.Datas (m.Datas.length:Int) 0 k b) (tP m.Datas (m.Datas.length:Int) 0 s b):=λk s b=>by unfold oK tP;exact bT (jo m.Datas (by omega) (λx=>64 * dc (cq x)+(16+0)) (λ_ _ _=>rfl) (λ_ _ _=>rfl) λi a k s b=>fK (aC _ _ a) (aC _ _ a) (aL (qwA _ (by have:=lw cq (m4 a);omega) k s b) λt y q=>cZ λw z=>bI)) (El cq _ 100 _ λx _=>by have:=qov x;omega)
 have B:∀k s b,R2 Prod.mk Prod.mk k s b (100 * bC (m.Classes.map ce)) (oM m.Classes (m.Classes.length:Int) 0 k b) (tQ m.Classes (m.Classes.length:Int) 0 s b):=λk s b=>by unfold oM tQ;exact bT (jo m.Classes (by omega) (λx=>64 * dc (ce x)+(16+0)) (λ_ _ _=>rfl) (λ_ _ _=>rfl) λi a k s b=>fK (aC _ _ a) (aC _ _ a) (aL (qtY _ (by have:=lw ce (m4 a);omega) k s b) λt y q=>cZ λw z=>bI)) (El ce _ 100 _ λx _=>by have:=qjG x;omega)
 have E:∀k s b,R2 Prod.mk Prod.mk k s b (100 * bC (m.Instances.map aX)) (oN m.Instances (m.Instances.length:Int) 0 k b) (tR m.Instances (m.Instances.length:Int) 0 s b):=λk s b=>by unfold oN tR;exact bT (jo m.Instances (by omega) (λx=>80 * dc (aX x)+(16+0)) (λ_ _ _=>rfl) (λ_ _ _=>rfl) λi a k s b=>fK (aC _ _ a) (aC _ _ a) (aL (qwD _ (by have:=lw aX (m4 a);omega) k s b) λt y q=>cZ λw z=>bI)) (El aX _ 100 _ λx _=>by have:=EF x;omega)
 have F:∀k s b,R2 Prod.mk Prod.mk k s b (100 * bC (m.Measures.map aZ)) (oO m.Measures (m.Measures.length:Int) 0 k b) (tS m.Measures (m.Measures.length:Int) 0 s b):=λk s b=>by unfold oO tS;exact bT (jo m.Measures (by omega) (λx=>64 * dc (aZ x)+(16+0)) (λ_ _ _=>rfl) (λ_ _ _=>rfl) λi a k s b=>fK (aC _ _ a) (aC _ _ a) (aL (qpm _ (by have:=lw aZ (m4 a);omega) k s b) λt y q=>cZ λw z=>bI)) (El aZ _ 100 _ λx _=>by have:=qbT x;omega)
 have H:∀k s b,R2 Prod.mk Prod.mk k s b (100 * bC (m.Quals.map cX)) (oP m.Quals (m.Quals.length:Int) 0 k b) (tT m.Quals (m.Quals.length:Int) 0 s b):=λk s b=>by unfold oP tT;exact bT (jo m.Quals (by omega) (λx=>64 * dc (cX x)+(16+0)) (λ_ _ _=>rfl) (λ_ _ _=>rfl) λi a k s b=>fK (aC _ _ a) (aC _ _ a) (aL (qwE _ (by have:=lw cX (m4 a);omega) k s b) λt y q=>cZ λw z=>bI)) (El cX _ 100 _ λx _=>by have:=qox x;omega)
 have L:∀k s b,R2 Prod.mk Prod.mk k s b (100 * bC (m.Defs.map aV)) (oQ m.Defs (m.Defs.length:Int) 0 k b) (tU m.Defs (m.Defs.length:Int) 0 s b):=λk s b=>by unfold oQ tU;exact bT (jo m.Defs (by omega) (λx=>64 * dc (aV x)+(16+0)) (λ_ _ _=>rfl) (λ_ _ _=>rfl) λi a k s b=>fK (aC _ _ a) (aC _ _ a) (aL (qt0 _ (by have:=lw aV (m4 a);omega) k s b) λt y q=>cZ λw z=>bI)) (El aV _ 100 _ λx _=>by have:=qgp x;omega)
 let⟨k,s,b,X,e2,_,_,h⟩:=(aL (A [] [] Z) λt y q=>aL (B t y q) λw z P=>aL (E w z P) λk3 s3 R=>aL (F k3 s3 R) λk4 s4 b4=>aL (H k4 s4 b4) λk5 s5 S=>L k5 s5 S:R2 Prod.mk Prod.mk [] [] Z _ ((oK m.Datas (m.Datas.length:Int) 0 [] Z).bind λp=>(oM m.Classes (m.Classes.length:Int) 0 p.1 p.2).bind λc=>(oN m.Instances (m.Instances.length:Int) 0 c.1 c.2).bind λd=>(oO m.Measures (m.Measures.length:Int) 0 d.1 d.2).bind λe=>(oP m.Quals (m.Quals.length:Int) 0 e.1 e.2).bind λn=>oQ m.Defs (m.Defs.length:Int) 0 n.1 n.2)
  ((tP m.Datas (m.Datas.length:Int) 0 [] Z).bind λp=>(tQ m.Classes (m.Classes.length:Int) 0 p.1 p.2).bind λc=>(tR m.Instances (m.Instances.length:Int) 0 c.1 c.2).bind λd=>(tS m.Measures (m.Measures.length:Int) 0 d.1 d.2).bind λe=>(tT m.Quals (m.Quals.length:Int) 0 e.1 e.2).bind λn=>tU m.Defs (m.Defs.length:Int) 0 n.1 n.2)) (by simp only[List.length_nil];omega) (by simp only[List.length_nil];omega) (λ_=>rfl)
 let⟨r,h1,h2⟩:=qed (k:=k) (s:=s) (b:=b) λhb=>(h hb).2;refine⟨r,?_,?_⟩
 .unfold xx;have:∀f:V Int×K->Q (ae×Int),((oK m.Datas (m.Datas.length:Int) 0 [] Z).bind λp=>(oM m.Classes (m.Classes.length:Int) 0 p.1 p.2).bind λc=>(oN m.Instances (m.Instances.length:Int) 0 c.1 c.2).bind λd=>(oO m.Measures (m.Measures.length:Int) 0 d.1 d.2).bind λe=>(oP m.Quals (m.Quals.length:Int) 0 e.1 e.2).bind λn=>(oQ m.Defs (m.Defs.length:Int) 0 n.1 n.2).bind f)=f (k,b):=λf=>by have:=mx (λo=>o.bind f) X;simpa only[or,hN]using this
  rw[this];simp only[eI];exact h1
 .unfold Li;have:∀f:ae×K->Q (ae×Int),((tP m.Datas (m.Datas.length:Int) 0 [] Z).bind λp=>(tQ m.Classes (m.Classes.length:Int) 0 p.1 p.2).bind λc=>(tR m.Instances (m.Instances.length:Int) 0 c.1 c.2).bind λd=>(tS m.Measures (m.Measures.length:Int) 0 d.1 d.2).bind λe=>(tT m.Quals (m.Quals.length:Int) 0 e.1 e.2).bind λn=>(tU m.Defs (m.Defs.length:Int) 0 n.1 n.2).bind f)=f (s,b):=λf=>by have:=mx (λo=>o.bind f) e2;simpa only[or,hN]using this
  rw[this];simp only[eI];exact h2
def qs1:QS=O true:=by kernel_rfl
def qsn(p:ah)(a:dc (ag p)<=16777216):jV (vQ p) (λ_=>True):=⟨_,qb4 p (n3 (qbW p) (n3 a (by unfold dm;omega))),md⟩
def Jm(t:am)(b:Int)(e:KD t):jV (ug t b) (λ_=>True):=by
 refine Gs (F:=B7) (λx=>jm x.1) (λx=>KD x.1) (λ_ _=>True) (λR x c s=>?_) (t,b) e (lP (xY e));let⟨t,b⟩:=x;show jV (uV (λt b=>R (t,b)) t b) _;have c:KD t:=c;have w:jm t<=1073741824:=xY c;have m:=qF t;have q:=Rm t;unfold uV zv zw;have h:jV (rQ b t) (λ_=>True):=by unfold rQ;exact aQ (λ_=>av md) λ_=>aQ (λ_=>av md) λ_=>aQ (λ_=>av md) λ_=>aQ (λ_=>av md) λ_=>aG (qsn _ (Gh c)) λ_ _=>av md
 refine aG h λo _=>aQ (λ_=>av md) λ_=>aG (nj t.Preds (by omega) _ (λ_=>True) (λ_=>True) (λi=>rfl) (λp n i=>aG (qsn p (qeZ c n)) λr _=>aQ (λ_=>av md) λ_=>av ⟨rfl,md⟩)) λo _=>?_;cases o with|inl _=>exact av md|inr _=>refine aG (nj t.Args (by omega) _ (λ_=>True) (λ_=>True) (λi=>rfl) (λa d i=>aG (s (a,_) (pp d) (qac c d)) λr _=>aQ (λ_=>av md) λ_=>av ⟨rfl,md⟩)) λo _=>?_;cases o with|inl _=>exact av md|inr _=>exact av md
def qcI(e:aj)(a:ZD e):jV (Fm e) (λ_=>True):=by
 refine Gs (F:=zy) nE ZD (λ_ _=>True) (λR e a c=>?_) e a (by have:=n3 (Yh e) a;unfold qjf;omega);show jV (rR (λe=>R e) e) _;have y:nE e<=16777216:=n3 (Yh e) a;have m:=zD e;have h:=oZ e;have q:=lu e;have w:=z8 e;unfold rR xc xd xe xf;have d:jV (pS e) (λ_=>True):=by unfold pS;exact aQ (λ_=>av md) λ_=>av md
 refine aG d λo _=>aQ (λ_=>av md) λ_=>aG (nj e.Types (by omega) _ (λ_=>True) (λ_=>True) (λi=>rfl) (λt s i=>aG (Jm t 4 (qcH a s)) λr _=>aQ (λ_=>av md) λ_=>av ⟨rfl,md⟩)) λo _=>?_;cases o with|inl _=>exact av md| inr _ =>refine aG (nj e.Params (by omega) _ (λ_=>True) (λ_=>True) (λi=>rfl) (λp n i=>aG (Jm p.Type_ 4 (qlo a n)) λr _=>aQ (λ_=>av md) λ_=>av ⟨rfl,md⟩)) λo _=>?_;cases o with|inl _=>exact av md| inr _ =>refine aG (nj e.Kids (by omega) _ (λ_=>True) (λ_=>True) (λi=>rfl) (λx b i=>aG (c x (DO b) (V1 a b)) λr _=>aQ (λ_=>av md) λ_=>av ⟨rfl,md⟩)) λo _=>?_;cases o with|inl _=>exact av md|inr _=>refine aG (nj e.Alts (by omega) _ (λ_=>True) (λ_=>True) (λi=>rfl) (λx b i=>aG (c x.Body (QU b) (qg0 a b)) λr _=>aQ (λ_=>av md) λ_=>av ⟨rfl,md⟩)) λo _=>?_;cases o with|inl _=>exact av md|inr _=>exact av md
def qrV(e:aj)(b:ZD e):∃r,QT e=O r:=by
 unfold QT;rw[XD e (qT (XL b))];simp only[hN];let⟨r,h,_⟩:=qcI e b;rw[h];by_cases a:Y (((dy e).length:Int)<=200)=T;.rw[hU a];exact⟨_,rfl⟩
 .rw[hG a];exact⟨_,rfl⟩
def V2(d:d5)(a:dc (aV d)<=1048576):jV (xb d) (λ_=>True):=by
 have b:=qgp d;have c:=qwg d.Sig;let⟨r,e⟩:=qrV d.Body (by unfold ZD;omega);unfold xb;rw[e,hN];refine aQ (λ_=>aG (Jm d.Sig.Type_ 5 (by unfold KD;omega)) λh _=>?_) λ_=>av md;repeat' refine aQ (λ_=>?_) λ_=>?_
 all_goals exact av md
def qcL{α:Type}(g:α->Nat):∀(l:List α)(i:Nat),((l.take i).map g).sum<=(l.map g).sum
 |[],_=>by simp
 |x::l,0=>by simp
 |x::l,i+1=>by have:=qcL g l i;simp only[List.take_succ_cons,ox,List.sum_cons];omega
def ZE(m:dt)(w:dc (bo m)<=1048576):jV (uU m) (λ_=>True):=by
 have y:=qkP m;have B:=jI aX (λx=>by have:=EF x;omega) m.Instances;have E:=jI aV (λx=>by have:=qgp x;omega) m.Defs;have t:=El aX (λx=>x.Defs.length) 1 m.Instances λx _=>by have:=EF x;have:=jI aV (λx=>by have:=qgp x;omega) x.Defs;omega
 unfold uU;rw[qE (by simp only[List.length_nil];omega),hN,va6];refine aG (R:=λl=>l.length<=2097152/\∀d∈l,dc (aV d)<=1048576) ?_ λl h=>?_
 .unfold Fg;refine KN m.Instances (by omega) (λi l=>(l,i)) (λi l=>l.length<=m.Defs.length+((m.Instances.take i).map λx=>x.Defs.length).sum/\∀d∈l,dc (aV d)<=1048576) (λi b l c=>?_) (λl c=>?_) m.Defs ⟨by simp,λd a=>by have:=lw aV a;omega⟩
  .let⟨A,s⟩:=c;have z:=lw aX (m4 b);have q:=EF m.Instances[i];have p:=qcL (λx:cW=>x.Defs.length) m.Instances (i+1);have n:=qcL (λx:cW=>x.Defs.length) m.Instances i;have e:m.Instances.take (i+1)=m.Instances.take i++[m.Instances[i]]:=vas b;rw[e,va1,vbW,ox,vcd,List.sum_cons,List.sum_nil]at p;show jV (f8 m.Instances (m.Instances.length:Int) l (i:Int)) _;unfold f8;rw[hU (qnb b),aC _ _ b,hN,qE (by omega),hN];refine av ⟨l++m.Instances[i].Defs,rfl,?_,λd a=>?_⟩;.rw[e,va1,vbW,ox,vcd,List.sum_cons,List.sum_nil,m3];omega
   .rcases vaQ.1 a with a|a;.exact s d a
    .have:=lw aV a;omega
  .show jV (f8 m.Instances (m.Instances.length:Int) l (m.Instances.length:Int)) _;unfold f8;rw[hG (qsm _),vaY]at *;exact av ⟨by omega,c.2⟩
 .refine aG (nj l (by omega) _ (λ_=>True) (λ_=>True) (λi=>rfl) (λd a i=>aG (V2 d (h.2 d a)) λr _=>aQ (λ_=>av md) λ_=>av ⟨rfl,md⟩)) λo _=>?_;cases o with
  |inl _=>exact av md
  |inr _=>
   repeat' refine aQ (λ_=>?_) λ_=>?_
   all_goals exact av md
def Vx(c:dt)(d:d5)(h:dc (bo c)+(dc (aV d)+0)<=1048576):zu c d=O true:=by let⟨o,q,_⟩:=ZE c (by omega);let⟨p,r,_⟩:=V2 d (by omega);let⟨a,e,i⟩:=qil c (by omega);let⟨b,m,n⟩:=qnZ d (by omega);unfold zu sT;rw[q,r,e,i,m,n,qs1];cases o<;>cases p<;>simp
end Go.Proofs.YtibglelmlnfojaaGreatDoor
