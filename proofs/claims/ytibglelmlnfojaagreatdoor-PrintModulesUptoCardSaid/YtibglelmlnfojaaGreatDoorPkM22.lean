/- PROVED: a part of the proof. Conditions: none. -/
import Derived.Test.YtibglelmlnfojaaGreatDoorPkM21
import Derived.Test.YtibglelmlnfojaaGreatDoorPkM20
set_option linter.unusedSimpArgs false set_option linter.defProp false
set_option linter.unusedVariables false
noncomputable section
namespace Go.Proofs.YtibglelmlnfojaaGreatDoor
open Go
open Option renaming some→O,none→N
open Go renaming TypeId→G,Value→D,Program→I,Oper→M,World→J,Code→W
open Bool renaming true→T,false→Z
open Decidable renaming decide→Y
open Go.Proofs.YtibglelmlnfojaaGreatDoor renaming PVal→U
set_option linter.unusedVariables false
set_option linter.unusedSimpArgs false
def ZQ(e:aj)(s:Int)(c:nE e<=dm):tG e s=Ol (λs x=>kq x s) (dy e) s:=by
 refine qlv (F:=pF) (λs x=>kq x s) (λR e s c=>?_) e s c;show kM (λe k=>R (e,k)) e s=_;unfold kM;congr 1;funext r;let⟨b,d⟩:=r;cases b with
 |false=>rfl
 | true =>
  rw[hG (show ¬((!(T,d).1)=T) by simp)];refine qe5 (λs x=>R (x,s)) e c d (λa=>ej (λe k=>R (e,k)) e.Kids e.Kids.length a.1 a.2) (λa=>eo (λe k=>R (e,k)) e.Alts e.Alts.length a.1 a.2) (λi h s=>?_) (λs=>?_) (λi h s=>?_) (λs=>?_) (λ_=>rfl) (λ_=>rfl) (λ_=>rfl) (λ_=>rfl);.show ej (λe k=>R (e,k)) e.Kids e.Kids.length i s=_;unfold ej;rw[hU (by simpa using h),aC _ _ h];rfl
  .show ej (λe k=>R (e,k)) e.Kids e.Kids.length e.Kids.length s=_;unfold ej;rw[hG (by simp)]
  .show eo (λe k=>R (e,k)) e.Alts e.Alts.length i s=_;unfold eo;rw[hU (by simpa using h),aC _ _ h];rfl
  .show eo (λe k=>R (e,k)) e.Alts e.Alts.length e.Alts.length s=_;unfold eo;rw[hG (by simp)]
def ZP(e:aj)(s:Int)(c:nE e<=dm):mF e s=Ol (λs x=>kp x s) (dy e) s:=by
 refine qlv (F:=pE) (λs x=>kp x s) (λR e s c=>?_) e s c;show kL (λe k=>R (e,k)) e s=_;unfold kL;congr 1;funext r;let⟨b,d⟩:=r;cases b with
 |false=>rfl
 | true =>
  rw[hG (show ¬((!(T,d).1)=T) by simp)];refine qe5 (λs x=>R (x,s)) e c d (λa=>eh (λe k=>R (e,k)) e.Kids e.Kids.length a.1 a.2) (λa=>ei (λe k=>R (e,k)) e.Alts e.Alts.length a.1 a.2) (λi h s=>?_) (λs=>?_) (λi h s=>?_) (λs=>?_) (λ_=>rfl) (λ_=>rfl) (λ_=>rfl) (λ_=>rfl);.show eh (λe k=>R (e,k)) e.Kids e.Kids.length i s=_;unfold eh;rw[hU (by simpa using h),aC _ _ h];rfl
  .show eh (λe k=>R (e,k)) e.Kids e.Kids.length e.Kids.length s=_;unfold eh;rw[hG (by simp)]
  .show ei (λe k=>R (e,k)) e.Alts e.Alts.length i s=_;unfold ei;rw[hU (by simpa using h),aC _ _ h];rfl
  .show ei (λe k=>R (e,k)) e.Alts e.Alts.length e.Alts.length s=_;unfold ei;rw[hG (by simp)]
def qnj(e:aj)(b:nE e<=dm):En e=O ((dy e).length:Int):=by
 have h:nE e<=1073741824:=b;have i:=qkW e;have a:∀(l:List aj)(k:Nat),k+l.length<=1073741824->Ol (λs x=>kq x s) l (k:Int)=O (T,((k+l.length:Nat):Int)):=by
  intro l;induction l with
  |nil=>intro k _;rfl
  | cons x l ih =>
   intro k d;simp only[vz]at d;have c:kq x (k:Int)=O (T,((k+1:Nat):Int)):=by unfold kq;rw[dj (by omega) (by omega)];rfl
   rw[Ol,c];show Ol _ l ((k+1:Nat):Int)=_;rw[ih (k+1) (by omega)];simp only[vz];congr 3;omega
 unfold En;rw[ZQ e 0 b];have:=a (dy e) 0 (by omega);rw[ve]at this;rw[show(0:Int)=((0:Nat):Int)from rfl,this];rfl
def WT(e:aj)(d:nE e<=dm):zp e=O (bM e):=by
 have n:nE e<=1073741824:=d;have m:=HD e;have o:e.Kids.length+e.Alts.length<nE e:=by simpa[bM]using m
 unfold zp;rw[qE (by simp;omega)];show(Ai e ([]++e.Kids) 0).bind _=_;have h:=fa e.Alts.length (λb:V aj×Int=>ji e b.1 b.2) (λi=>(e.Kids++(e.Alts.take i).map (·.Body),(i:Int))) (bM e) (λi a=>?_) ?_
 .rw[va6];have c:Ai e e.Kids 0=O (bM e):=by unfold Ai;simpa using h
  rw[c];rfl
 .show ji e _ (i:Int)=_;unfold ji;rw[hU (by simpa using a),aC _ _ a,hN,qE (by simp;omega),hN,dj (by omega) (by omega),vas a,va1,<-vbi];rfl
 .show ji e _ (e.Alts.length:Int)=_;unfold ji;rw[hG (by simp),vaY];rfl
def quf{l:V aj}{n:Nat}(h:(l.map λx=>(dy x).length).sum<=n)(i:Nat):((l.take i).map λx=>(dy x).length).sum<=n:=by
 have a:l.take i++l.drop i=l:=vbd i l;have:(l.map λx=>(dy x).length).sum=((l.take i).map λx=>(dy x).length).sum+((l.drop i).map λx=>(dy x).length).sum:=by rw[<-vbW,<-va1,a]
 omega
def XD(e:aj)(a:nE e<=dm):QQ e=O ((dy e).length:Int):=by
 have o:nE e<=1073741824:=a;refine uX (F:=O7) nE (λx=>nE x<=dm) (λx=>((dy x).length:Int)) (λR e a r=>?_) e a (lP a);have o:nE e<=1073741824:=a;show Hk (λe=>R e) e=_;unfold Hk;rw[WT e a,hN];have t:=qkW e;have d:=HD e;have s:(dy e).length=1+((bM e).map λx=>(dy x).length).sum:=by rw[zG,vz,vcZ];omega
 have q:((bM e).map λx=>(dy x).length).sum<=1073741824:=by omega
 have h:=fa (bM e).length (λm:Int×Int=>j1 (λe=>R e) (bM e) m.1 m.2) (λi=>(((1+(((bM e).take i).map λx=>(dy x).length).sum:Nat):Int),(i:Int))) (((dy e).length:Nat):Int) (λi b=>?_) ?_
 .have n:Lc (λe=>R e) (bM e) 1 0=O ((dy e).length:Int):=by unfold Lc;simpa using h
  rw[n];rfl
 .show j1 (λe=>R e) (bM e) _ (i:Int)=_;unfold j1;have p:(bM e)[i]∈bM e:=m4 b;have c:=QY p;have w:=quf q (i+1);have y:(((bM e).take (i+1)).map λx=>(dy x).length).sum=(((bM e).take i).map λx=>(dy x).length).sum+(dy (bM e)[i]).length:=by rw[vas b,va1,vbW];simp
  rw[hU (by simpa using b),aC _ _ b,hN];show(R _).bind _=_;rw[r _ c (by unfold dm;omega),hN];dsimp only;rw[dj (by omega) (by omega),dj (by omega) (by omega)];congr 3;omega
 .show j1 (λe=>R e) (bM e) _ ((bM e).length:Int)=_;unfold j1;rw[hG (by simp),vaY];congr 2;omega
def qbm(l:V aj)(i:Nat)(h:i<l.length):Q2 (l.take (i+1))=max (Q2 (l.take i)) (dE l[i]):=by rw[vas h,LN];simp[Q2]
def qgr(a b:Nat):(if(b:Int)>(a:Int)then(b:Int)else(a:Int))=((max a b:Nat):Int):=by
 by_cases h:(b:Int)>(a:Int);.rw[hU h];congr 1;omega
 .rw[hG h];congr 1;omega
def qeO(e:aj)(a:nE e<=dm):Wy e=O (dE e:Int):=by
 have p:nE e<=1073741824:=a;refine uX (F:=O5) nE (λx=>nE x<=dm) (λx=>(dE x:Int)) (λR e a r=>?_) e a (lP a);have p:nE e<=1073741824:=a;show Hj (λe=>R e) e=_;unfold Hj;rw[WT e a,hN];have d:=HD e;have s:=qsc e;have h:=fa (bM e).length (λm:Int×Int=>j0 (λe=>R e) (bM e) m.1 m.2) (λi=>((Q2 ((bM e).take i):Int),(i:Int))) (Q2 (bM e):Int) (λi b=>?_) ?_
 .have o:Lb (λe=>R e) (bM e) 0 0=O (Q2 (bM e):Int):=by unfold Lb;simpa[Q2]using h
  have n:=WX e;rw[o,hN,dj (by omega) (by omega),n];rfl
 .show j0 (λe=>R e) (bM e) _ (i:Int)=_;unfold j0;have q:(bM e)[i]∈bM e:=m4 b;have c:=QY q;rw[hU (by simpa using b),aC _ _ b,hN];show(R _).bind _=_;rw[r _ c (by unfold dm;omega),hN];dsimp only;rw[dj (by omega) (by omega),qgr,qbm _ _ b];rfl
 .show j0 (λe=>R e) (bM e) _ ((bM e).length:Int)=_;unfold j0;rw[hG (by simp),vaY]
def qng(e:aj)(c:nE e<=dm):MK e=O (dE e:Int):=by
 have s:nE e<=1073741824:=c;refine uX (F:=Gi) nE (λx=>nE x<=dm) (λx=>(dE x:Int)) (λR e c o=>?_) e c (lP c);have s:nE e<=1073741824:=c;show xZ (λe=>R e) e=_;unfold xZ;have y:=zD e;have t:=oZ e;have w:=qsc e;have h:=fa e.Kids.length (λd:Int×Int=>gG (λe=>R e) e.Kids (e.Kids.length:Int) d.1 d.2) (λi=>((Q2 (e.Kids.take i):Int),(i:Int))) (Q2 e.Kids:Int) (λi a=>?_) ?_
 .have r:CD (λe=>R e) e.Kids (e.Kids.length:Int) 0 0=O (Q2 e.Kids:Int):=by unfold CD;simpa[Q2]using h
  rw[r,hN];have g:=fa e.Alts.length (λd:Int×Int=>gH (λe=>R e) e.Alts (e.Alts.length:Int) d.1 d.2) (λi=>(((max (Q2 e.Kids) (Q2 ((e.Alts.map (·.Body)).take i)):Nat):Int),(i:Int))) ((Q2 (bM e):Nat):Int) (λi a=>?_) ?_
  .have q:CE (λe=>R e) e.Alts (e.Alts.length:Int) (Q2 e.Kids:Int) 0=O (Q2 (bM e):Int):=by unfold CE;simpa[Q2]using g
   have p:=WX e;rw[q,hN,dj (by omega) (by omega),p];rfl
  .show gH (λe=>R e) e.Alts (e.Alts.length:Int) _ (i:Int)=_;unfold gH;have n:e.Alts[i]∈e.Alts:=m4 a;have b:=QU n;have m:i<(e.Alts.map (·.Body)).length:=by simpa using a
   rw[hU (by simpa using a),aC _ _ a,hN];show(R _).bind _=_;rw[o _ b (by unfold dm;omega),hN];dsimp only;rw[dj (by omega) (by omega),qgr,qbm _ _ m,vbO,Nat.max_assoc];rfl
  .show gH (λe=>R e) e.Alts (e.Alts.length:Int) _ (e.Alts.length:Int)=_;unfold gH;rw[hG (by simp),bM,LN,List.take_of_length_le (by simp)]
 .show gG (λe=>R e) e.Kids (e.Kids.length:Int) _ (i:Int)=_;unfold gG;have n:e.Kids[i]∈e.Kids:=m4 a;have b:=DO n;rw[hU (by simpa using a),aC _ _ a,hN];show(R _).bind _=_;rw[o _ b (by unfold dm;omega),hN];dsimp only;rw[dj (by omega) (by omega),qgr,qbm _ _ a];rfl
 .show gG (λe=>R e) e.Kids (e.Kids.length:Int) _ (e.Kids.length:Int)=_;unfold gG;rw[hG (by simp),vaY]
noncomputable instance qGB:DecidableEq am:=λa b=>Classical.propDecidable _
noncomputable instance qGz:DecidableEq aj:=λa b=>Classical.propDecidable _
noncomputable instance qGy:DecidableEq cH:=λa b=>Classical.propDecidable _
noncomputable instance qGA:DecidableEq bO:=λa b=>Classical.propDecidable _
def qfz{a b:K}:(if a then O b else O Z)=O (a&&b):=by cases a<;>rfl
def qoR{a b:K}:(if a then O T else O b)=O (a||b):=by cases a<;>rfl
def DM{α:Type}[DecidableEq α]{a b:V α}(p:a.length<=dm)(c:Int->Q (Int⊕(Unit⊕Unit)))
  (h:∀(i:Nat)(q:i<a.length)(r:i<b.length),c (i:Int)=O (if Y (a[i]=b[i])then .inl (cz ((i:Int)+1))else .inr (.inl ()))) (d:c (a.length:Int)=O (.inr (.inr ()))) {k:Unit⊕Unit->Q K} (n:k (.inl ())=O Z) (o:k (.inr ())=O T):
  (if((a.length:Int)!=(b.length:Int))then O Z else(loop c 0).bind k)=O (Y (a=b)):=by
 by_cases m:a.length=b.length
 .rw[hG (by simp[m]),JY m (by unfold dm at p;omega) c (.inl ()) (.inr ()) h d]
  by_cases e:a=b
  .simp only[e,decide_true,if_true,hN];exact o
  .simp only[e,decide_false,m5,if_false,hN];exact n
 .rw[hU (by simp;omega),decide_eq_false (λe=>m (by rw[e]))]
def qeC{a b:V ae}(e:a.length<=dm):xT a b=O (Y (a=b)):=by
 unfold xT CA;refine DM e _ (λi c d=>?_) ?_ rfl rfl;.show jf a b (a.length:Int) (i:Int)=_;unfold jf;rw[hU (by simpa using c),aC a i c];simp only[hN];rw[aC b i d];simp only[hN];by_cases h:a[i]=b[i]<;>simp[h]
 .show jf a b (a.length:Int) (a.length:Int)=_;unfold jf;rw[hG (by simp)]
def qeP{a b:V ae}(e:a.length<=dm):tN a b=O (Y (a=b)):=by
 unfold tN zn;refine DM e _ (λi c d=>?_) ?_ rfl rfl;.show ic a b (i:Int)=_;unfold ic;rw[hU (by simpa using c),aC a i c];simp only[hN];rw[aC b i d];simp only[hN];by_cases h:a[i]=b[i]<;>simp[h]
 .show ic a b (a.length:Int)=_;unfold ic;rw[hG (by simp)]
def qmy{a b:V ah}(e:a.length<=dm)(h:∀x∈a,nP x<=dm):rY a b=O (Y (a=b)):=by
 unfold rY tA;refine DM e _ (λi c d=>?_) ?_ rfl rfl;.show fD b a (a.length:Int) (i:Int)=_;unfold fD;rw[hU (by simpa using c),aC a i c];simp only[hN];rw[aC b i d];simp only[hN];rw[qgY _ _ (h _ (m4 c))];simp only[hN];by_cases m:a[i]=b[i]<;>simp[m]
 .show fD b a (a.length:Int) (a.length:Int)=_;unfold fD;rw[hG (by simp)]
def qeD{R:am->am->Q K}{a b:V am}(e:a.length<=dm)(h:∀x∈a,∀y∈b,R x y=O (Y (x=y))):fu R a b=O (Y (a=b)):=by
 unfold fu jr;refine DM e _ (λi c d=>?_) ?_ rfl rfl;.show dD R b a (a.length:Int) (i:Int)=_;unfold dD;rw[hU (by simpa using c),aC a i c];simp only[hN];rw[aC b i d];simp only[hN];rw[h _ (m4 c) _ (m4 d)];simp only[hN];by_cases m:a[i]=b[i]<;>simp[m]
 .show dD R b a (a.length:Int) (a.length:Int)=_;unfold dD;rw[hG (by simp)]
def qeQ{R:am->am->Q K}{a b:V am}(e:a.length<=dm)(h:∀x∈a,∀y∈b,R x y=O (Y (x=y))):tO R a b=O (Y (a=b)):=by
 unfold tO zo;refine DM e _ (λi c d=>?_) ?_ rfl rfl;.show ie R a b (i:Int)=_;unfold ie;rw[hU (by simpa using c),aC a i c];simp only[hN];rw[aC b i d];simp only[hN];rw[h _ (m4 c) _ (m4 d)];simp only[hN];by_cases m:a[i]=b[i]<;>simp[m]
 .show ie R a b (a.length:Int)=_;unfold ie;rw[hG (by simp)]
def KM{a b:am}:a=b↔a.Op=b.Op/\a.Name=b.Name/\a.Names=b.Names/\a.Pred=b.Pred/\a.Preds=b.Preds/\a.Args=b.Args:=by
 let⟨o,n,B,x,p,A⟩:=a;let⟨y,w,t,r,z,s⟩:=b;constructor;.rintro h;cases h;exact⟨rfl,rfl,rfl,rfl,rfl,rfl⟩
 .rintro⟨c,d,e,i,m,q⟩;cases c;cases d;cases e;cases i;cases m;cases q;rfl
abbrev qdK(t:am):Prop:=jm t<=dm/\qfy (λp=>nP p<=dm) t
def qgy{t a:am}(h:qdK t)(b:a∈t.Args):qdK a:=⟨n3 (vbw (pp b)) h.1,qnr h.2 b⟩
def Xz(a b:am)(h:qdK a):jv a b=O (Y (a=b)):=by refine uX (F:=yk) (λx=>jm x.1) (λx=>qdK x.1) (λx=>Y (x.1=x.2)) (λR x c i=>?_) (a,b) h (lP h.1);let⟨u,v⟩:=x;have e:qdK u:=c;let⟨m,n,_⟩:=(UJ _ u).1 e.2;have p:=qF u;have q:=qez u;have r:=Rm u;have o:=e.1;show qf (λa d=>R (a,d)) u v=O (Y (u=v));unfold qf;rw[qeC (by omega),qgY _ _ m,qmy (by omega) n,qeD (R:=λa d=>R (a,d)) (a:=u.Args) (b:=v.Args) (by omega) (λx c y _=>i (x,y) (pp c) (qgy e c))];simp only[hN,qfz,q8];rw[vbK];simp[KM (a:=u) (b:=v)]
def XG(a b:am)(t:qdK a)(B:qdK b):nK a b=O (Y (a=b)):=by
 refine uX (F:=EV) (λx=>jm x.1) (λx=>qdK x.1/\qdK x.2) (λx=>Y (x.1=x.2)) (λR x c L=>?_) (a,b) ⟨t,B⟩ (lP t.1);let⟨u,v⟩:=x;obtain⟨z,A⟩:qdK u/\qdK v:=c;let⟨S,X,_⟩:=(UJ _ v).1 A.2;have l1:=qF u;have l2:=qez u;have l3:=Rm u;have P:=z.1;show wI (λa h=>R (a,h)) u v=O (Y (u=v));unfold wI BT;rw[qeP (by omega),qcC _ _ S,qeQ (R:=λa h=>R (a,h)) (a:=u.Args) (b:=v.Args) (by omega) (λx c y H=>L (x,y) (pp c) ⟨qgy z c,qgy A H⟩)];simp only[hN,qoR];by_cases w:u.Preds.length=v.Preds.length
 .unfold BU;rw[JY w (by unfold dm at P;omega) (λzz=>gn u v zz) (.inl ()) (.inr ()) (λi r s=>?_) ?_]
  .by_cases e:u.Preds=v.Preds
   .simp only[e,decide_true,if_true,hN];by_cases d:(u.Op !=v.Op||(!(u.Name==v.Name)||(!Y (u.Names=v.Names)||(!Y (u.Pred=v.Pred)||((v.Preds.length:Int)!=(v.Preds.length:Int))))))=T;.rw[hU d];congr 1;symm;rw[va8,KM];rintro⟨m,n,o,p,_⟩;simp[m,n,o,p]at d
    .rw[hG d];congr 1;simp only[va5,vdb,vaV,bne_iff_ne,ne_eq,Decidable.not_not,vc6,o5,nm]at d;let⟨m,n,o,p,_⟩:=d;rw[vbK];simp[KM (a:=u) (b:=v),m,n,o,p,e]
   .simp only[e,decide_false,m5,if_false,hN,ite_self];congr 1;symm;rw[va8,KM];rintro⟨_,_,_,_,q,_⟩;exact e q
  .show gn u v (u.Preds.length:Int)=_;unfold gn;rw[hG (by simp)]
  .show gn u v (i:Int)=_;unfold gn;rw[hU (by simpa using r),aC _ i r];simp only[hN];rw[aC _ i s];simp only[hN];rw[qcC _ _ (X _ (m4 s))];simp only[hN];by_cases E:u.Preds[i]=v.Preds[i]<;>simp[E]
 .have c:((u.Preds.length:Int)!=(v.Preds.length:Int))=true:=by simp;omega
  rw[hU (by simp[c])];congr 1;symm;rw[va8,KM];rintro⟨_,_,_,_,q,_⟩;exact w (by rw[q])
def qV(e:aj):dc (ak e)=1+(e.Name.length+1+(1+(bC (e.Kids.map ak)+1+(bC (e.Params.map bk)+1+(bC (e.Alts.map bL)+1+(bC (e.Types.map al)+1+0)))))):=by rw[cO];simp only[dc,pm,sl]
def qab(a:cH):dc (bL a)=a.Con.length+1+(bC (a.Names.map cS)+1+dc (ak a.Body)):=by let⟨c,d,b⟩:=a;rw[bL];show dc (PVal.str c::sl cS d::ak b)=_;simp only[dc,pm,sl];rfl
def Rj(p:bO):dc (bk p)=p.Name.length+1+dc (al p.Type_):=by show dc (PVal.str p.Name::al p.Type_)=_;simp only[dc,pm]
def qmM(p:bO):1<=dc (bk p):=by rw[Rj];omega
def qaa{α:Type}(c:α->V U){l:V α}{x:α}(h:x∈l):dc (c x)<=bC (l.map c):=Ka (m8.2 ⟨x,h,rfl⟩)
def qjV{e x:aj}(h:x∈e.Kids):dc (ak x)<dc (ak e):=by have:=qaa ak h;rw[qV e];omega
def qtV{e:aj}{a:cH}(h:a∈e.Alts):dc (bL a)<dc (ak e):=by have:=qaa bL h;rw[qV e];omega
def qcm{e:aj}{a:cH}(h:a∈e.Alts):dc (ak a.Body)<dc (ak e):=by have:=qtV h;have:=qab a;omega
def qiL{e:aj}{p:bO}(h:p∈e.Params):dc (bk p)<dc (ak e):=by have:=qaa bk h;rw[qV e];omega
def qla{e:aj}{t:am}(h:t∈e.Types):dc (al t)<dc (ak e):=by have:=qaa al h;rw[qV e];omega
def qk9{e x:aj}(h:x∈bM e):dc (ak x)<dc (ak e):=by
 rcases vaQ.1 h with h|h;.exact qjV h
 .obtain⟨a,b,rfl⟩:=m8.1 h;exact qcm b
def qrA{e x:aj}(h:x∈dy e):dc (ak x)<=dc (ak e):=by
 revert x;refine qog (Q:=λe=>∀{x},x∈dy e->dc (ak x)<=dc (ak e)) (λe c x h=>?_) e;rw[zG]at h;rcases oL.1 h with rfl|h;.exact m7 _
 .let⟨y,a,b⟩:=vc9.1 h;have:=c y a b;have:=qk9 a;omega
mutual
def Yh:∀(e:aj),nE e<=dc (ak e)
 |⟨o,n,k,ks,ps,as1,ts⟩=>by
  have a:=qoB ks;have b:=qoz as1;have c:=Xu bk qmM ps;have d:=Xu al qpa ts;rw[nE,qV];show _<=1+(n.length+1+(1+(bC (ks.map ak)+1+(bC (ps.map bk)+1+(bC (as1.map bL)+1+(bC (ts.map al)+1+0))))))
  omega
def qwi:∀(a:cH),nA a<=dc (bL a)
 |⟨c,ns,b⟩=>by
  have d:=Yh b;have e:=qsl ns;rw[nA,qab];show _<=c.length+1+(bC (ns.map cS)+1+dc (ak b))
  omega
def qoB:∀(l:List aj),qkR l<=bC (l.map ak)
 |[]=>by simp[qkR]
 |e::l=>by have:=Yh e;have:=qoB l;rw[qkR];simp only[ox,bC];omega
def qoz:∀(l:List cH),qbU l<=bC (l.map bL)
 |[]=>by simp[qbU]
 |a::l=>by have:=qwi a;have:=qoz l;rw[qbU];simp only[ox,bC];omega
end
def qjL{t:am}(h:dc (al t)<=dm):qdK t:=⟨n3 (qgj t) h,qkh dm t h⟩
def qcO{a b:bO}:a=b↔a.Name=b.Name/\a.Type_=b.Type_:=by
 let⟨n,t⟩:=a;let⟨e,i⟩:=b;constructor;.rintro h;cases h;exact⟨rfl,rfl⟩
 .rintro⟨c,d⟩;cases c;cases d;rfl
def qiZ{a b:cH}:a=b↔a.Con=b.Con/\a.Names=b.Names/\a.Body=b.Body:=by
 let⟨n,t,e⟩:=a;let⟨o,p,m⟩:=b;constructor;.rintro h;cases h;exact⟨rfl,rfl,rfl⟩
 .rintro⟨c,d,i⟩;cases c;cases d;cases i;rfl
def z6{a b:aj}:a=b↔a.Op=b.Op/\a.Name=b.Name/\a.N=b.N/\a.Kids=b.Kids/\a.Types=b.Types/\a.Params=b.Params/\a.Alts=b.Alts:=by
 let⟨o,n,k,ks,B,d,ts⟩:=a;let⟨A,z,y,t,w,c,x⟩:=b;constructor;.rintro h;cases h;exact⟨rfl,rfl,rfl,rfl,rfl,rfl,rfl⟩
 .rintro⟨e,i,m,p,q,r,s⟩;cases e;cases i;cases m;cases p;cases q;cases r;cases s;rfl
abbrev Qm(e:aj):Prop:=dc (ak e)<=dm
def qT{e:aj}(h:Qm e):nE e<=dm:=n3 (Yh e) h
def qoJ{e x:aj}(h:Qm e)(a:x∈bM e):Qm x:=n3 (vbw (qk9 a)) h
def qgw{e x:aj}(h:Qm e)(a:x∈e.Kids):Qm x:=n3 (vbw (qjV a)) h
def Xq{e:aj}{a:cH}(h:Qm e)(b:a∈e.Alts):Qm a.Body:=n3 (vbw (qcm b)) h
def qiu{e x:aj}(h:Qm e)(a:x∈dy e):Qm x:=n3 (qrA a) h
def Vr{e:aj}{t:am}(h:Qm e)(a:t∈e.Types):qdK t:=qjL (n3 (vbw (qla a)) h)
def J7{e:aj}{p:bO}(h:Qm e)(a:p∈e.Params):qdK p.Type_:=qjL (by have:=qiL a;have:=Rj p;have:dc (ak e)<=dm:=h;omega)
def qit{e:aj}{a:cH}(h:Qm e)(b:a∈e.Alts):a.Names.length<=dm:=n3 (vbw (WR b)) (qT h)
def qtP(a b:bO)(c:qdK a.Type_):AE a b=O (Y (a=b)):=by unfold AE;rw[Xz _ _ c];simp only[hN,qfz,q8];rw[vbK];simp[qcO (a:=a) (b:=b)]
def qtQ{R:aj->aj->Q K}(a b:cH)(c:a.Names.length<=dm)(h:R a.Body b.Body=O (Y (a.Body=b.Body))):AF R a b=O (Y (a=b)):=by unfold AF;rw[qeC c,h];simp only[hN,qfz,q8];rw[vbK];simp[qiZ (a:=a) (b:=b)]
def qoT{R:aj->aj->Q K}{a b:V aj}(e:a.length<=dm)(h:∀x∈a,∀y∈b,R x y=O (Y (x=y))):kK R a b=O (Y (a=b)):=by
 unfold kK lU;refine DM e _ (λi c d=>?_) ?_ rfl rfl;.show eC R b a (a.length:Int) (i:Int)=_;unfold eC;rw[hU (by simpa using c),aC a i c];simp only[hN];rw[aC b i d];simp only[hN];rw[h _ (m4 c) _ (m4 d)];simp only[hN];by_cases m:a[i]=b[i]<;>simp[m]
 .show eC R b a (a.length:Int) (a.length:Int)=_;unfold eC;rw[hG (by simp)]
def qjP{a b:V bO}(e:a.length<=dm)(h:∀x∈a,qdK x.Type_):jd a b=O (Y (a=b)):=by
 unfold jd km;refine DM e _ (λi c d=>?_) ?_ rfl rfl;.show dY b a (a.length:Int) (i:Int)=_;unfold dY;rw[hU (by simpa using c),aC a i c];simp only[hN];rw[aC b i d];simp only[hN];rw[qtP _ _ (h _ (m4 c))];simp only[hN];by_cases m:a[i]=b[i]<;>simp[m]
 .show dY b a (a.length:Int) (a.length:Int)=_;unfold dY;rw[hG (by simp)]
def qoS{R:aj->aj->Q K}{a b:V cH}(e:a.length<=dm)(n:∀x∈a,x.Names.length<=dm)(h:∀x∈a,∀y∈b,R x.Body y.Body=O (Y (x.Body=y.Body))):je R a b=O (Y (a=b)):=by
 unfold je kn;refine DM e _ (λi c d=>?_) ?_ rfl rfl;.show dZ R b a (a.length:Int) (i:Int)=_;unfold dZ;rw[hU (by simpa using c),aC a i c];simp only[hN];rw[aC b i d];simp only[hN];rw[qtQ _ _ (n _ (m4 c)) (h _ (m4 c) _ (m4 d))];simp only[hN];by_cases m:a[i]=b[i]<;>simp[m]
 .show dZ R b a (a.length:Int) (a.length:Int)=_;unfold dZ;rw[hG (by simp)]
def qqi(a b:aj)(h:Qm a):Ii a b=O (Y (a=b)):=by
 refine uX (F:=Jn) (λx=>nE x.1) (λx=>Qm x.1) (λx=>Y (x.1=x.2)) (λR x c i=>?_) (a,b) h (lP (qT h));let⟨u,v⟩:=x;have d:Qm u:=c;have m:=qT d;have n:=zD u;have o:=oZ u;have p:=lu u;have q:=z8 u;show AG (λa e=>R (a,e)) u v=O (Y (u=v));unfold AG
 rw[qoT (R:=λa e=>R (a,e)) (a:=u.Kids) (b:=v.Kids) (by omega) (λx c y _=>i (x,y) (DO c) (qgw d c)),qeD (R:=jv) (a:=u.Types) (b:=v.Types) (by omega) (λx c y _=>Xz x y (Vr d c)),
  qjP (by omega) (λx c=>J7 d c),qoS (R:=λa e=>R (a,e)) (a:=u.Alts) (b:=v.Alts) (by omega) (λx c=>qit d c) (λx c y _=>i (x.Body,y.Body) (QU c) (Xq d c))]
 simp only[hN,qfz,q8];rw[vbK];simp[z6 (a:=u) (b:=v)]
def qjZ{a b:V bO}(o:a.length<=dm)(h:∀x∈a,qdK x.Type_)(n:∀x∈b,qdK x.Type_):wL a b=O (Y (a=b)):=by
 unfold wL wN;refine DM o _ (λi c d=>?_) ?_ rfl rfl;.show gK a b (i:Int)=_;unfold gK wM;rw[hU (by simpa using c),aC a i c];simp only[hN];rw[aC b i d];simp only[hN];rw[XG _ _ (h _ (m4 c)) (n _ (m4 d))];simp only[hN,qoR];have p:=qcO (a:=a[i]) (b:=b[i]);by_cases e:a[i].Name=b[i].Name<;>by_cases m:a[i].Type_=b[i].Type_<;>simp[p,e,m]
 .show gK a b (a.length:Int)=_;unfold gK;rw[hG (by simp)]
def qpv(a b:aj)(P:Qm a)(hb:Qm b):qaR a b=O (Y (a=b)):=by
 refine uX (F:=S5) (λx=>nE x.1) (λx=>Qm x.1/\Qm x.2) (λx=>Y (x.1=x.2)) (λR x d S=>?_) (a,b) ⟨P,hb⟩ (lP (qT P));let⟨u,v⟩:=x;obtain⟨n,r⟩:Qm u/\Qm v:=d;have X:=qT n;have l1:=zD u;have l2:=oZ u;have l3:=lu u;have l4:=z8 u;show Ld (λa c=>R (a,c)) u v=O (Y (u=v));unfold Ld Pb Pc;rw[qjZ (by omega) (λx d=>J7 n d) (λx d=>J7 r d),qeQ (R:=nK) (a:=u.Types) (b:=v.Types) (by omega) (λx d y hy=>XG x y (Vr n d) (Vr r hy))];simp only[hN,qoR];by_cases p:(u.Op !=v.Op||(!(u.Name==v.Name)||(u.N !=v.N||(!Y (u.Params=v.Params)||!Y (u.Types=v.Types)))))=T;.rw[hU p];congr 1;symm;rw[va8,z6];rintro⟨s,t,w,m,z,A,o⟩;simp[s,t,w,z,A]at p
 .rw [hG p];simp only[va5,vdb,vaV,bne_iff_ne,ne_eq,Decidable.not_not,vc6,o5,nm]at p;let⟨s,t,w,A,z⟩:=p;by_cases H:u.Kids.length=v.Kids.length
  .by_cases h:u.Alts.length=v.Alts.length
   .rw [hG (by simp [H,h])];unfold Pe;rw[JY H (by unfold dm at X;omega) (λL=>lK (λa c=>R (a,c)) u v L) (.inl ()) (.inr ()) (λi e q=>?_) ?_]
    .by_cases m:u.Kids=v.Kids
     .simp only[m,decide_true,if_true,hN];unfold Ph;rw[JY h (by unfold dm at X;omega) (λL=>lL (λa c=>R (a,c)) u v L) (.inl ()) (.inr ()) (λi e q=>?_) ?_]
      .by_cases o:u.Alts=v.Alts;.simp[o,z6 (a:=u) (b:=v),s,t,w,m,z,A]
       .simp[o,z6 (a:=u) (b:=v)]
      .show lL (λa c=>R (a,c)) u v (u.Alts.length:Int)=_;unfold lL;rw[hG (by simp)]
      .show lL (λa c=>R (a,c)) u v (i:Int)=_;unfold lL;rw[hU (by simpa using e),aC _ i e];simp only[hN];rw[aC _ i q];simp only[hN,qee];unfold Pd;rw[qeP (qit n (m4 e))];have E:=S (u.Alts[i].Body,v.Alts[i].Body) (QU (m4 e)) ⟨Xq n (m4 e),Xq r (m4 q)⟩;simp only[qee,hN,E,qoR];have B:=qiZ (a:=u.Alts[i]) (b:=v.Alts[i]);by_cases f1:u.Alts[i].Con=v.Alts[i].Con<;>by_cases f2:u.Alts[i].Names=v.Alts[i].Names<;>by_cases f3:u.Alts[i].Body=v.Alts[i].Body<;>simp[B,f1,f2,f3]
     .simp[m,z6 (a:=u) (b:=v)]
    .show lK (λa c=>R (a,c)) u v (u.Kids.length:Int)=_;unfold lK;rw[hG (by simp)]
    .show lK (λa c=>R (a,c)) u v (i:Int)=_;unfold lK;rw[hU (by simpa using e),aC _ i e];simp only[hN];rw[aC _ i q];simp only[hN];rw[S (u.Kids[i],v.Kids[i]) (DO (m4 e)) ⟨qgw n (m4 e),qgw r (m4 q)⟩];simp only[hN];by_cases B:u.Kids[i]=v.Kids[i]<;>simp[B]
   .have d:((u.Alts.length:Int)!=(v.Alts.length:Int))=true:=by simp;omega
    rw[hU (by simp[d])];congr 1;symm;rw[va8,z6];rintro⟨_,_,_,_,_,_,o⟩;exact h (by rw[o])
  .have d:((u.Kids.length:Int)!=(v.Kids.length:Int))=true:=by simp;omega
   rw[hU (by simp[d])];congr 1;symm;rw[va8,z6];rintro⟨_,_,_,m,_⟩;exact H (by rw[m])
def T4{A:Type}(n:Nat)(x:n<9223372036854775808){b:Int->Q (Int⊕(A⊕Unit))}(P:Nat->Prop)(B:A->Prop)
  (h:∀i:Nat,i<n->jV (b (i:Int)) (λr=>r.elim (λt=>t=cz ((i:Int)+1)/\P i) (λy=>y.elim B (λ_=>False)))) (c:b (n:Int)=O (.inr (.inr ()))):jV (loop b 0) (λr=>r.elim B (λ_=>∀i,i<n->P i)):=by
 have o:∀k i,k+i=n->(∀j,j<i->P j)->jV (loop b (i:Int)) (λr=>r.elim B (λ_=>∀i,i<n->P i)):=by
  intro k;induction k with
  |zero=>
   intro i s d;have:i=n:=by omega
   subst this;rw[dW c];exact av d
  | succ k ih =>
   intro i s d;let⟨r,e,m⟩:=h i (by omega);rw[ls,e];cases r with
   | inl t =>
    obtain⟨rfl,w⟩:=m;simp only;rw[dj (by omega) (by omega),show((i:Int)+1)=((i+1:Nat):Int) by omega]
    exact ih (i+1) (by omega) λj p=>by
     by_cases q:j=i;.subst q;exact w
     .exact d j (by omega)
   |inr y=>cases y with|inl a=>exact⟨_,rfl,m⟩|inr u=>exact m.elim
 exact o n 0 (by omega) λj p=>absurd p (va3 _)
def qn6{l:List ae}{i:Nat}(h:i<l.length)(b:SK l l[i]=(i:Int)):∀k (n:k<l.length),k<i->l[i]≠l[k]:=by
 intro k n e m;unfold SK at b;cases a:l.findIdx? (λx=>x==l[i])with
 |none=>rw[vbz]at a;have:=a _ (m4 h);simp at this
 | some j =>
  let⟨o,_,c⟩:=va9.1 a;rw[a]at b;have d:j=i:=by
   have:(j:Int)=(i:Int):=by simpa using b
   omega
  subst d;have:=c k e;rw[m]at this;simp at this
def qmo{l:V ae}(h:∀i (b:i<l.length),∀k (e:k<l.length),k<i->l[i]≠l[k]):l.Nodup:=by unfold List.Nodup;rw[vcu];intro i j b d a c;exact h j d i b a c.symm
def qhU{l:V ae}(h:l.Nodup){i:Nat}(a:i<l.length):SK l l[i]=(i:Int):=by
 have c:l.findIdx? (λx=>x==l[i])=O i:=by rw[va9];refine⟨a,by simp,λk b=>?_⟩;unfold List.Nodup at h;rw[vcu]at h;simpa using h k i (by omega) a b
 unfold SK;rw[c]
def ME(l:List ae)(d:l.length<9223372036854775808):nI l=O (Y l.Nodup):=by
 have:jV (nI l) (λr=>r=Y l.Nodup):=by
  unfold nI BS;refine aG (T4 l.length d (λi=>∀(b:i<l.length),SK l l[i]=(i:Int)) (λ_=>¬l.Nodup) (λi b=>?_) ?_) (λo c=>?_);.unfold pJ;rw[hU (tr (by omega)),aC _ i b];simp only[hN];refine fj (OI l _ d) (aQ (λa=>av (λe=>?_)) (λa=>av ⟨rfl,λ_=>by simpa using a⟩));rw[qhU e b]at a;simp at a
  .unfold pJ;rw[hG (by simp)]
  .cases o with|inl _=>have c:¬l.Nodup:=c;exact av (decide_eq_false c).symm|inr _=>have c:∀i,i<l.length->∀(b:i<l.length),SK l l[i]=(i:Int):=c;exact av (tr (qmo (λi b=>qn6 b (c i b b)))).symm
 exact qrZ.1 this
def TS(l:V ae):V (ae×K):=l.foldl (λm x=>Zl m x T) []
def qeY(l:V ae)(x:ae):TS (l++[x])=Zl (TS l) x true:=by unfold TS;rw[vcz];rfl
def qiU(x:ae):∀(n:Nat)(l:List ae),l.length=n->(Qg (TS l) x).getD Z=Y (x∈l)
 |0,l,h=>by have:l=[]:=List.length_eq_zero_iff.1 h;subst this;simp[TS,Qg]
 | n + 1,l,h => by
  obtain⟨c,y,rfl⟩:∃c y,l=c++[y]:=by
   have b:l≠[]:=λd=>by rw[d]at h;cases h
   exact⟨l.dropLast,l.getLast b,(vbT b).symm⟩
  rw[qeY,qey];have e:=qiU x n c (by simpa using h);by_cases a:x=y;.subst a;simp
  .have:(x==y)=false:=by simpa using a
   rw[this];simp only[m5,if_false];rw[e];simp[a]
def qgB(l:List ae)(B:l.length<9223372036854775808):xn l=O (Y l.Nodup):=by
 unfold xn xo;have s:∀k i:Nat,k+i=l.length->(l.take i).Nodup->jV (loop (λ(c:Int×(List (ae×K)))=>cT l (l.length:Int) c.1 c.2) ((i:Int),TS (l.take i))) (λo=>o.elim (λ_=>¬l.Nodup) (λ_=>l.Nodup)):=by
  intro k;induction k with
  | zero =>
   intro i q p;have q:i=l.length:=by omega
   subst q;rw[vaY]at p ⊢;have d:(λ(c:Int×(List (ae×K)))=>cT l (l.length:Int) c.1 c.2) ((l.length:Int),TS l)=O (.inr (.inr (TS l))):=by show cT l (l.length:Int) (l.length:Int) (TS l)=_;unfold cT;rw[hG (by simp)]
   rw[dW d];exact av p
  | succ k ihk =>
   intro i q p;have h:i<l.length:=by omega
   have x:=qiU l[i] _ (l.take i) rfl;have r:=vas h;by_cases n:l[i]∈l.take i
   .have d:(λ(c:Int×(List (ae×K)))=>cT l (l.length:Int) c.1 c.2) ((i:Int),TS (l.take i))=O (.inr (.inl (TS (l.take i)))):=by
     show cT l (l.length:Int) (i:Int) (TS (l.take i))=_
     unfold cT
     rw[hU (tr (by omega)),aC _ i h]
     simp only[hN]
     rw[x,tr n,hU rfl]
    rw[dW d]
    refine av (λA=>?_)
    have t:=(List.take_sublist (i+1) l).nodup A
    rw[r,vcw]at t
    exact t.2.2 _ n _ (vbS.2 rfl) rfl
   .have d:(λ(c:Int×(List (ae×K)))=>cT l (l.length:Int) c.1 c.2) ((i:Int),TS (l.take i))=O (.inl (((i+1:Nat):Int),TS (l.take (i+1)))):=by
     show cT l (l.length:Int) (i:Int) (TS (l.take i))=_
     unfold cT
     rw[hU (tr (by omega)),aC _ i h]
     simp only[hN]
     rw[x,decide_eq_false n,hG (by simp),dj (by omega) (by omega),r,qeY,show((i:Int)+1)=((i+1:Nat):Int) by omega]
    rw[mV d]
    refine ihk (i+1) (by omega) ?_
    rw[r,vcw]
    exact⟨p,by simp,λa z b d w=>n (by rw[vbS.1 d]at w;exact w▸z)⟩
 let⟨o,e,m⟩:=s l.length 0 (by omega) (by simp);rw[List.take_zero]at e;have y:loop (λ(c:Int×(List (ae×K)))=>cT l (l.length:Int) c.1 c.2) (0,[])=O o:=e;rw[y];simp only[hN];cases o with|inl _=>have m:¬l.Nodup:=m;simp[m]|inr _=>have m:l.Nodup:=m;simp[m]
def qmi{X:Type}(n:Nat)(s:n<9223372036854775808){b a:Int->Q (Int⊕X)}(h:∀i:Nat,i<n->b (i:Int)=a (i:Int)/\∀t,a (i:Int)=O (.inl t)->t=cz ((i:Int)+1))(p:b (n:Int)=a (n:Int))(r:∀t,a (n:Int)≠O (.inl t)):loop b 0=loop a 0:=by
 have e:∀k i:Nat,k+i=n->loop b (i:Int)=loop a (i:Int):=by
  intro k;induction k with
  | zero =>
   intro i d;have d:i=n:=by omega
   subst d;rw[ls b,ls a,p];cases c:a (i:Int)with|none=>rfl|some y=>cases y with|inl t=>exact absurd c (r t)|inr _=>rfl
  | succ k ihk =>intro i d;let⟨m,o⟩:=h i (by omega);rw[ls b,ls a,m];cases c:a (i:Int)with|none=>rfl| some y =>cases y with|inl t=>have q:=o t c;simp only;rw[q,dj (by omega) (by omega),show((i:Int)+1)=((i+1:Nat):Int) by omega];exact ihk (i+1) (by omega)|inr _=>rfl
 exact e n 0 (by omega)
def qku{a b r:K}:(if a then O (b||r)else O r)=O ((a&&b)||r):=by cases a<;>rfl
structure qAh(op:Int)(sh:aD)(ok:Bool)(u:aq):Prop where
 p:uM op=some (sh,ok)
 r:E7 op=some u
 n:sh.n=u.n
 name:sh.name=u.name
 least:sh.least=u.least
 most:sh.most=u.most
 params:sh.params=u.params
 alts:sh.alts=u.alts
 types:sh.types=u.types
 ok:ok=u.ok
 t:∀k:Int,0<=k->k<=1073741824->(u.types=false->k=0)->(decide (k<sh.typesLeast)||decide (k>sh.typesMost))= !((!u.exactly||k==1)&&(op !=7||decide (k<=1)))
def qmW(a:Int):∃n ok u,qAh a n ok u:=by
 by_cases h:1<=a/\a<=26
 .have:a=1\/a=2\/a=3\/a=4\/a=5\/a=6\/a=7\/a=8\/a=9\/a=10\/a=11\/a=12\/a=13\/a=14\/a=15\/a=16\/a=17\/a=18\/a=19\/a=20\/a=21\/a=22\/a=23\/a=24\/a=25\/a=26:=by omega
  rcases this with h|h|h|h|h|h|h|h|h|h|h|h|h|h|h|h|h|h|h|h|h|h|h|h|h|h<;>subst h<;>
   exact⟨_,_,_,rfl,rfl,rfl,rfl,rfl,rfl,rfl,rfl,rfl,rfl,λk m c b=>by
    rw[vbK];simp at b ⊢;omega⟩
 .have d:∀k:Int,1<=k->k<=26->(a==k)=false:=λk c b=>by rw[beq_eq_false_iff_ne];omega
  have e:uM a=O ((⟨Z,Z,0,0,Z,Z,0,0,Z⟩:aD),Z):=by unfold uM zX zY zZ;simp[d]
  have i:E7 a=O (⟨Z,Z,0,0,Z,Z,Z,Z,Z⟩:aq):=by unfold E7 Hr Hs Ht;simp[d]
  refine⟨_,_,_,e,i,rfl,rfl,rfl,rfl,rfl,rfl,rfl,rfl,λk m c b=>?_⟩;have:=b rfl;subst this;simp
def qlI(l:List cH)(m:l.length<9223372036854775808):fL l=O (l.any λa=>Y ((a.Names.length:Int)>6)):=by
 unfold fL kW jt;rw[qbR l m (λi=>i) (λo=>eD l (l.length:Int) o) (λa=>Y ((a.Names.length:Int)>6)) (λi=>.inl (i:Int)) (.inr ()) (λi h=>?_) ?_]
 .cases b:l.findIdx? (λa=>Y ((a.Names.length:Int)>6))with
  |none=>
   simp only[Option.elim,hN];rw[vbz]at b;congr 1;have:l.any (λa=>Y ((a.Names.length:Int)>6))=false:=by rw[vbk];exact λx n=>by simpa using b x n
   rw[this];rfl
  |some j=>
   simp only[Option.elim,hN];let⟨c,d,_⟩:=va9.1 b;congr 1;have:l.any (λa=>Y ((a.Names.length:Int)>6))=true:=by rw[vcH];exact⟨_,m4 c,d⟩
   rw[this,decide_eq_true_iff];omega
 .unfold eD;rw[hG (by simp)]
 .unfold eD CG;rw[hU (by simpa using h),aC _ _ h];simp only[hN];by_cases e:((l[i].Names.length:Int)>6)<;>simp[e]
def qlU(e:aj)(p:Qm e){n:aD}{ok:K}{u:aq}(c:qAh e.Op n ok u)(q:u.types=Z->(e.Types.length:Int)=0):∃b,AH e n=O b/\E0 e u=O b:=by
 have s:nE e<=1073741824:=qT p;have t:=oZ e;have w:=z8 e;have m:=c.t (e.Types.length:Int) (by omega) (by omega) q;have d:Ak e 0=O (if(e.Alts.any λa=>Y ((a.Names.length:Int)>6))then .inl ()else .inr ()):=by
  unfold Ak;refine qQ e.Alts (by omega) (λr=>oz e r) (λa=>Y ((a.Names.length:Int)>6)) (.inl ()) (.inr ()) (λi h=>?_) ?_ 0 (w0 _);.unfold oz;rw[hU (by simpa using h),aC _ _ h];simp only[hN];by_cases o:((e.Alts[i].Names.length:Int)>6)<;>simp[o]
  .unfold oz;rw[hG (by simp)]
 unfold AH zS zT E0 Aj II IJ;rw[qlI _ (by omega),d,c.least,c.most,c.params,c.alts];simp only[qoR,hN];generalize (e.Alts.any λa=>Y ((a.Names.length:Int)>6))=nb at *;rw[m];generalize u.exactly=ex at *;generalize ((e.Types.length:Int)==1)=t1 at *;generalize (e.Op !=7)=o7 at *;generalize Y ((e.Types.length:Int)<=1)=t2 at *;generalize Y ((e.Kids.length:Int)<u.least)=k1 at *;generalize Y ((e.Kids.length:Int)>u.most)=k2 at *;generalize Y ((e.Params.length:Int)<1)=p1 at *;generalize Y ((e.Params.length:Int)>6)=p2 at *;generalize Y ((e.Alts.length:Int)<1)=a1 at *;generalize Y ((e.Alts.length:Int)>8)=a2 at *;clear m d;generalize u.params=up;generalize u.alts=ua;cases k1<;>cases k2<;>cases up<;>cases ua<;>cases nb<;>cases ex<;>cases t1<;>cases o7<;>cases t2<;>simp<;>(try (cases p1<;>cases p2<;>simp))<;>(try (cases a1<;>cases a2<;>simp))
def qnE(l:V bO)(d:l.length<=1073741824):yc l=O (l.map (·.Name)):=by
 unfold yc;have h:=fa l.length (λb:V ae×Int=>gI l (l.length:Int) b.1 b.2) (λi=>((l.take i).map (·.Name),(i:Int))) (l.map (·.Name)) (λi a=>?_) ?_
 .have c:CF l (l.length:Int) ([]:V ae) 0=O (l.map (·.Name)):=by unfold CF;simpa using h
  rw[c];rfl
 .show gI l (l.length:Int) _ (i:Int)=_;unfold gI;rw[hU (by simpa using a),aC _ _ a,hN,qE (by simp;omega),hN,dj (by omega) (by omega),vas a,va1];rfl
 .show gI l (l.length:Int) _ (l.length:Int)=_;unfold gI;rw[hG (by simp),vaY]
def Zg(l:V cH)(d:l.length<=1073741824):mE l=O (l.map (·.Con)):=by
 unfold mE;have h:=fa l.length (λb:V ae×Int=>eg l (l.length:Int) b.1 b.2) (λi=>((l.take i).map (·.Con),(i:Int))) (l.map (·.Con)) (λi a=>?_) ?_
 .have c:ol l (l.length:Int) ([]:V ae) 0=O (l.map (·.Con)):=by unfold ol;simpa using h
  rw[c];rfl
 .show eg l (l.length:Int) _ (i:Int)=_;unfold eg;rw[hU (by simpa using a),aC _ _ a,hN,qE (by simp;omega),hN,dj (by omega) (by omega),vas a,va1];rfl
 .show eg l (l.length:Int) _ (l.length:Int)=_;unfold eg;rw[hG (by simp),vaY]
def qcQ(l:V ae)(a:l.length<9223372036854775808):sb l=O (!Y l.Nodup):=by unfold sb;rw[qgB l a];rfl
def Ca(l:V cH):V ae:=l.flatMap λa=>a.Con::a.Names
def TB:∀(l:List cH),(Ca l).length<=qbU l
 |[]=>by simp[Ca,qbU]
 |a::l=>by have b:=TB l;have c:=qim a;have d:=qgu a.Body;unfold Ca at *;rw[vcB,qbU,m3,vz];omega
def qio(l:V cH)(i:Nat)(h:i<l.length):Ca (l.take (i+1))=Ca (l.take i)++([l[i].Con]++l[i].Names):=by unfold Ca;rw[vas h,vcY];simp
def qoA(l:List cH)(i:Nat):qbU (l.take i)<=qbU l:=by
 have:∀(l:List cH)(i:Nat),qbU (l.take i)<=qbU l:=by intro l;induction l with|nil=>intro i;simp|cons x l ih=>intro i;cases i with|zero=>simp[qbU]|succ i=>have:=ih i;simp only[List.take_succ_cons,qbU];omega
 exact this l i
def Yi(l:V cH)(v:V ae)(d:K)(h:v.length+qbU l<=1073741824):CJ l (l.length:Int) v d 0=O (v++Ca l,d||l.any λa=>!Y a.Names.Nodup):=by
 have r:=Z3 l;have g:=fa l.length (λm:V ae×K×Int=>gJ l (l.length:Int) m.1 m.2.1 m.2.2) (λi=>(v++Ca (l.take i),d||(l.take i).any λa=>!Y a.Names.Nodup,(i:Int))) (v++Ca l,d||l.any λa=>!Y a.Names.Nodup) (λi c=>?_) ?_;.unfold CJ;simpa[Ca]using g
 .have p:=TB (l.take (i+1));have q:=qoA l (i+1);have n:=qio l i c;have o:=mx List.length n;simp only[m3,List.length_singleton]at o;show gJ l (l.length:Int) _ _ (i:Int)=_;unfold gJ;rw[hU (by simpa using c),aC _ _ c,hN,qE (by simp only[m3,List.length_singleton];omega),hN,qE (by simp only[m3,List.length_singleton];omega),hN,n,vas c,vcS,qcQ _ (by omega),dj (by omega) (by omega)];by_cases b:(d||(l.take i).any λa=>!Y a.Names.Nodup)=T;.rw[hU b];rw[<-vcF,b];simp[vbi]
  .rw[hG b];have e:(d||(l.take i).any λa=>!Y a.Names.Nodup)=false:=by simpa using b
   rw[<-vcF,e];simp[vbi]
 .show gJ l (l.length:Int) _ _ (l.length:Int)=_;unfold gJ;rw[hG (by simp),vaY]
def qd5(l:List ae)(e:l.length<9223372036854775808):gi l=O (l.any λs=>!ck s):=by
 unfold gi lV jN;rw[qbR l e (λi=>i) (λn=>eH l (l.length:Int) n) (λs=>!ck s) (λi=>.inl (i:Int)) (.inr ()) (λi h=>?_) ?_]
 .cases a:l.findIdx? (λs=>!ck s)with
  |none=>
   simp only[Option.elim,hN];rw[vbz]at a;congr 1;have:l.any (λs=>!ck s)=false:=by rw[vbk];exact λx m=>by simpa using a x m
   rw[this];rfl
  |some j=>
   simp only[Option.elim,hN];let⟨b,c,_⟩:=va9.1 a;congr 1;have:l.any (λs=>!ck s)=true:=by rw[vcH];exact⟨_,m4 b,c⟩
   rw[this,decide_eq_true_iff];omega
 .unfold eH;rw[hG (by simp)]
 .unfold eH Gk;rw[hU (by simpa using h),aC _ _ h];simp only[hN];rw[pd];simp only[hN,xi];by_cases d:ck l[i]=T<;>simp[d]
def qnC(e:aj)(b:K):K:=(b&&!ck e.Name)||(e.Params.any (λp=>!ck p.Name)||e.Alts.any λa=>!ck a.Con||a.Names.any λs=>!ck s)
def qn2(e:aj):K:=!Y (e.Params.map (·.Name)).Nodup||(!Y (e.Alts.map (·.Con)).Nodup||e.Alts.any λa=>!Y a.Names.Nodup)
def qoD(e:aj)(h:Qm e)(d:aD):Eo e d=O (if qnC e d.name then 3 else if qn2 e then 4 else 0):=by
 have m:nE e<=1073741824:=qT h;have n:=Qh e;have o:=oZ e;have q:=lu e;have i:=TB e.Alts;have b:∀v:List ae,((v++Ca e.Alts).any λs=>!ck s)=(v.any (λs=>!ck s)||e.Alts.any λa=>!ck a.Con||a.Names.any λs=>!ck s):=λv=>by rw[vcS];congr 1;unfold Ca;rw[List.any_flatMap];rfl
 unfold Eo CH CI;rw[qnE _ (by omega),hN,Zg _ (by omega),hN,qcQ _ (by simp;omega)];simp only[hN];rw[qcQ _ (by simp;omega)];simp only[hN,qoR];unfold qnC qn2;cases d.name with
 |true=>
  rw[hU rfl,qE (by simp;omega)];simp only[hN];rw[Yi _ _ _ (by simp;omega)];simp only[hN];rw[qd5 _ (by simp;omega)];simp only[hN,b,vbo];have c:((e.Params.map (·.Name)++[e.Name]).any λs=>!ck s)=(e.Params.any (λp=>!ck p.Name)||!ck e.Name):=by simp[vcS,List.any_map,Function.comp_def]
  rw[c];generalize (e.Params.any λp=>!ck p.Name)=b1;generalize (!ck e.Name)=b2;generalize (e.Alts.any λa=>!ck a.Con||a.Names.any λs=>!ck s)=b3;generalize (!Y (e.Params.map (·.Name)).Nodup)=d1;generalize (!Y (e.Alts.map (·.Con)).Nodup)=d2;generalize (e.Alts.any λa=>!Y a.Names.Nodup)=d3;cases b1<;>cases b2<;>cases b3<;>cases d1<;>cases d2<;>cases d3<;>rfl
 |false=>
  rw[hG (by simp)];simp only[hN];rw[Yi _ _ _ (by simp;omega)];simp only[hN];rw[qd5 _ (by simp;omega)];simp only[hN,b,vcb,vb6];have c:((e.Params.map (·.Name)).any λs=>!ck s)=(e.Params.any (λp=>!ck p.Name)):=by simp[List.any_map,Function.comp_def]
  rw[c];generalize (e.Params.any λp=>!ck p.Name)=b1;generalize (e.Alts.any λa=>!ck a.Con||a.Names.any λs=>!ck s)=b3;generalize (!Y (e.Params.map (·.Name)).Nodup)=d1;generalize (!Y (e.Alts.map (·.Con)).Nodup)=d2;generalize (e.Alts.any λa=>!Y a.Names.Nodup)=d3;cases b1<;>cases b3<;>cases d1<;>cases d2<;>cases d3<;>rfl
def qj2(e:aj)(r:Qm e)(u:aq):QR e u=O (!qnC e u.name):=by
 have t:nE e<=1073741824:=qT r;have x:=oZ e;have y:=lu e;have m:DB e 0=O (if(e.Params.any λp=>!ck p.Name)then .inl ()else .inr ()):=by
  unfold DB;refine qQ e.Params (by omega) (λc=>qm e c) (λp=>!ck p.Name) (.inl ()) (.inr ()) (λi h=>?_) ?_ 0 (w0 _);.unfold qm;rw[hU (by simpa using h),aC _ _ h];simp only[hN];rw[nn];simp only[hN,xi];by_cases b:ck e.Params[i].Name=T<;>simp[b]
  .unfold qm;rw[hG (by simp)]
 have n:DC e 0=O (if(e.Alts.any λa=>!ck a.Con||a.Names.any λs=>!ck s)then .inl ()else .inr ()):=by
  unfold DC;refine qQ e.Alts (by omega) (λc=>qn e c) (λa=>!ck a.Con||a.Names.any λs=>!ck s) (.inl ()) (.inr ()) (λi h=>?_) ?_ 0 (w0 _)
  .have w:=WR (m4 h);have o:DD e (i:Int) 0=O (if(e.Alts[i].Names.any λs=>!ck s)then .inl ()else .inr ()):=by
    unfold DD;refine qQ e.Alts[i].Names (by omega) (λc=>qo e (i:Int) c) (λs=>!ck s) (.inl ()) (.inr ()) (λk d=>?_) ?_ 0 (w0 _);.unfold qo;rw[aC _ _ h];simp only[hN];rw[hU (by simpa using d),aC _ _ d];simp only[hN];rw[nn];simp only[hN,xi];by_cases b:ck e.Alts[i].Names[k]=T<;>simp[b]
    .unfold qo;rw[aC _ _ h];simp only[hN];rw[hG (by simp)]
   unfold qn;rw[hU (by simpa using h),aC _ _ h];simp only[hN];rw[nn,o];simp only[hN,xi];by_cases b:ck e.Alts[i].Con=T;.by_cases q:(e.Alts[i].Names.any λs=>!ck s)=T<;>simp[b,q]
   .simp[b]
  .unfold qn;rw[hG (by simp)]
 unfold QR Lh;rw[m,n,nn];simp only[hN,xi];unfold qnC;generalize (e.Params.any λp=>!ck p.Name)=b1;generalize (e.Alts.any λa=>!ck a.Con||a.Names.any λs=>!ck s)=b3;generalize ck e.Name=b2;cases u.name<;>cases b1<;>cases b2<;>cases b3<;>rfl
def qgQ(e:aj)(s:Qm e):DA e=O (!qn2 e):=by
 have t:nE e<=1073741824:=qT s;have y:=oZ e;have z:=lu e;have q:BX e ([]:List ae) 0=O (e.Params.map (·.Name)):=by
  have h:=fa e.Params.length (λp:List ae×Int=>gp e p.1 p.2) (λi=>((e.Params.take i).map (·.Name),(i:Int))) (e.Params.map (·.Name)) (λi d=>?_) ?_;.unfold BX;simpa using h
  .show gp e _ (i:Int)=_;unfold gp;rw[hU (by simpa using d),aC _ _ d,hN,qE (by simp;omega),hN,dj (by omega) (by omega),vas d,va1];rfl
  .show gp e _ (e.Params.length:Int)=_;unfold gp;rw[hG (by simp),vaY]
 have r:jk e ([]:List ae) 0=O (if(e.Alts.any λa=>!Y a.Names.Nodup)then .inl ()else .inr (e.Alts.map (·.Con))):=by
  have o:∀(k i:Nat),i+k=e.Alts.length->jk e ((e.Alts.take i).map (·.Con)) (i:Int)=O (if((e.Alts.drop i).any λa=>!Y a.Names.Nodup)then .inl ()else .inr (e.Alts.map (·.Con))):=by
   intro k;induction k with
   | zero =>
    intro i d;have:i=e.Alts.length:=by omega
    subst this;unfold jk;rw[dW (x:=.inr (e.Alts.map (·.Con))) ?_];.simp
    .show iS e _ (e.Alts.length:Int)=_;unfold iS;rw[hG (by simp),vaY]
   | succ k ih =>
    intro i d;have b:i<e.Alts.length:=by omega
    have w:=WR (m4 b);have m:iS e ((e.Alts.take i).map (·.Con)) (i:Int)=O (if e.Alts[i].Names.Nodup then .inl ((e.Alts.take (i+1)).map (·.Con),((i+1:Nat):Int))else .inr (.inl ())):=by unfold iS;rw[hU (by simpa using b),aC _ _ b,hN,qE (by simp;omega)];simp only[hN];rw[ME _ (by omega)];simp only[hN];rw[dj (by omega) (by omega),vas b,va1];by_cases c:e.Alts[i].Names.Nodup<;>simp[c]
    rw[vaD b,List.any_cons];by_cases c:e.Alts[i].Names.Nodup;.rw[hU c]at m;have h:=ih (i+1) (by omega);unfold jk at h ⊢;rw[mV (s':=((e.Alts.take (i+1)).map (·.Con),((i+1:Nat):Int))) m,h];simp[c]
    .rw[hG c]at m;unfold jk;rw[dW (x:=.inl ()) m];simp[c]
  have:=o e.Alts.length 0 (by omega);rw[vbl]at this;exact this
 unfold DA;rw[q,r];simp only[hN];unfold qn2;by_cases c:(e.Alts.any λa=>!Y a.Names.Nodup)=T;.simp[c]
 .have n:(e.Alts.any λa=>!Y a.Names.Nodup)=false:=by simpa using c
  rw[n];simp only[m5,if_false];rw[ME _ (by simp;omega),ME _ (by simp;omega)];simp only[hN,qfz];generalize Y (e.Params.map (·.Name)).Nodup=d1;generalize Y (e.Alts.map (·.Con)).Nodup=d2;cases d1<;>cases d2<;>rfl
abbrev Wo:am:=⟨0,[],[],[],⟨0,[],0,[]⟩,[]⟩
def qoL:qdK Wo:=⟨by simp[jm,HS,dm],(UJ _ _).2 ⟨qkV,(λq a=>nomatch a),md⟩⟩
def qrt(t:am)(h:qdK t):Io t=O (Y (t=Wo)):=by unfold Io;rw[Xz _ _ h];rfl
def qfx(t:am)(h:qdK t):Pk t=O (Y (t=Wo)):=by unfold Pk;rw[XG _ _ h qoL];rfl
def qm3(e:aj):yi e.Types (e.Types.length:Int) 0=wO e 0:=by unfold yi wO;congr 1;funext zz;unfold zU qp;simp only[XR]
def qm4(e:aj)(n:Qm e):yj e.Params (e.Params.length:Int) 0=wP e 0:=by
 have x:nE e<=1073741824:=qT n;have y:=lu e;unfold yj wP
 have d:∀i:Nat,i<e.Params.length->∃r,ni e.Params (e.Params.length:Int) (i:Int)=O r/\iE e (i:Int)=O r/\∀t,r=.inl t->t=cz ((i:Int)+1):=λi a=>by
  have h:=J7 n (m4 a);let⟨c,s,_⟩:=G2 _ h.1;unfold ni iE DE Gl;rw[hU (by simpa using a),hU (by simpa using a),aC _ _ a];simp only[hN,qef,ql0,XR];rw[s,qrt _ h,qfx _ h];simp only[hN];by_cases o:e.Params[i].Type_=Wo;.by_cases b:(c !=0)=T<;>simp[o,b]
  .by_cases b:(c !=0)=T<;>simp[o,b]
 refine qmi e.Params.length (by omega) (λi a=>?_) ?_ (λt=>?_);.let⟨r,p,m,q⟩:=d i a;exact⟨p.trans m.symm,λt w=>q t (vbh (m.symm.trans w))⟩
 .unfold ni iE;rw[hG (by simp),hG (by simp)]
 .unfold iE;rw[hG (by simp)];simp
def qm5(e:aj)(b:Qm e):jV (Jy e) (λ_=>True):=by
 have p:nE e<=1073741824:=qT b;have q:=lu e;have r:=z8 e;unfold Jy;refine aG (R:=λ_=>True) ?_ (λo _=>?_)
 .unfold wO;refine(T4 e.Types.length (by omega) (λ_=>True) (λ_=>True) (λi a=>?_) ?_).mono (λ_ _=>trivial);.unfold qp;rw[hU (by simpa using a),aC _ _ a];simp only[hN];refine aG (G2 _ (Vr b (m4 a)).1) (λc _=>aQ (λ_=>av md) (λ_=>av ⟨rfl,md⟩))
  .unfold qp;rw[hG (by simp)]
 .cases o with
  |inl o=>exact av md
  | inr o =>
   refine aG (R:=λ_=>True) ?_ (λo _=>by cases o<;>exact av md);unfold wP;refine(T4 e.Params.length (by omega) (λ_=>True) (λ_=>True) (λi a=>?_) ?_).mono (λ_ _=>trivial)
   .have h:=J7 b (m4 a);let⟨c,n,_⟩:=G2 _ h.1;unfold iE DE;rw[hU (by simpa using a),aC _ _ a];simp only[hN];rw[n,qfx _ h];simp only[hN];by_cases m:e.Params[i].Type_=Wo;.simp only[m,decide_true,if_true,hN];exact av ⟨rfl,md⟩
    .simp only[m,decide_false,m5,if_false];by_cases d:(c !=0)=T;.simp only[d,if_true,hN];exact av md
     .simp only[d,if_false,hN];exact av ⟨rfl,md⟩
   .unfold iE;rw[hG (by simp)]
def qrr(e:aj)(d:Qm e):∃c,BL e=O c/\A1 e=O c:=by
 have R:nE e<=1073741824:=qT d;let⟨h,ok,u,a⟩:=qmW e.Op;let⟨c,B,_⟩:=qm5 e d;have r:∃b,yh e=O b/\A3 e=O b:=by unfold yh A3 qb5 K2;simp only[qfz,qoR,qku,hN];exact⟨_,rfl,rfl⟩
 let⟨E,n,o⟩:=r;unfold BL A1;rw[a.p,a.r];simp only[hN];have p:yf e h.n h.name h.most h.params h.alts h.types=O ((!u.n&&(e.N !=0))||((!u.name&&!(e.Name==([]:ae)))||((u.most==0&&Y ((e.Kids.length:Int)>0))||((!u.params&&Y ((e.Params.length:Int)>0))||((!u.alts&&Y ((e.Alts.length:Int)>0))||(!u.types&&Y ((e.Types.length:Int)>0))))))):=by unfold yf;rw[a.n,a.name,a.most,a.params,a.alts,a.types];simp only[qfz,qoR,qku]
 have s:A2 e u.n u.name u.most u.ok=O (!u.ok||((!u.n&&(e.N !=0))||((!u.name&&!(e.Name==([]:ae)))||(u.most==0&&Y ((e.Kids.length:Int)>0))))):=by unfold A2;simp only[qfz,qoR,qku]
 have t:Hq e u.params u.alts u.types=O ((!u.params&&Y ((e.Params.length:Int)>0))||((!u.alts&&Y ((e.Alts.length:Int)>0))||(!u.types&&Y ((e.Types.length:Int)>0)))):=by unfold Hq;simp only[qfz,qoR,qku]
 rw[p,s,t];have q:∀b,yg ok b=O (!u.ok||b):=λb=>by unfold yg;rw[a.ok,qoR]
 simp only[hN,q];by_cases z:u.types=Z->(e.Types.length:Int)=0
 .let⟨F,x,y⟩:=qlU e d a z;rw[x,y,n,o,qoD e d,qj2 e d,qgQ e d,qm3,qm4 e d,a.name];have i:=B;unfold Jy at i;rw[B];simp only[hN];generalize (!u.n&&(e.N !=0))=a1;generalize (!u.name&&!(e.Name==([]:ae)))=a2;generalize (u.most==0&&Y ((e.Kids.length:Int)>0))=a3;generalize (!u.params&&Y ((e.Params.length:Int)>0))=a4;generalize (!u.alts&&Y ((e.Alts.length:Int)>0))=a5;generalize (!u.types&&Y ((e.Types.length:Int)>0))=a6;generalize u.ok=a0;generalize qnC e u.name=n1;generalize qn2 e=n2;by_cases m:(!a0||(a1||(a2||(a3||(a4||(a5||a6))))))=T;.rw[hU m];refine⟨1,rfl,?_⟩;cases a0<;>cases a1<;>cases a2<;>cases a3<;>cases a4<;>cases a5<;>cases a6<;>first|rfl|simp at m
  .rw [hG m];have w:a0=T/\a1=Z/\a2=Z/\a3=Z/\a4=Z/\a5=Z/\a6=false:=by revert m;cases a0<;>cases a1<;>cases a2<;>cases a3<;>cases a4<;>cases a5<;>cases a6<;>simp
   obtain⟨rfl,rfl,rfl,rfl,rfl,rfl,rfl⟩:=w;cases F with|false=>exact⟨13,rfl,rfl⟩| true =>cases E with|true=>exact⟨2,rfl,rfl⟩| false =>cases n1 with|true=>exact⟨3,rfl,rfl⟩|false=>cases n2 with|true=>exact⟨4,rfl,rfl⟩|false=>exact⟨c,i,rfl⟩
 .have H:u.types=false:=Classical.byContradiction λA=>z λL=>absurd L A;have P:¬(e.Types.length:Int)=0:=λA=>z λ_=>A;have n:Y ((e.Types.length:Int)>0)=true:=by simp;omega
  rw[H,n];generalize (!u.n&&(e.N !=0))=a1;generalize (!u.name&&!(e.Name==([]:ae)))=a2;generalize (u.most==0&&Y ((e.Kids.length:Int)>0))=a3;generalize (!u.params&&Y ((e.Params.length:Int)>0))=a4;generalize (!u.alts&&Y ((e.Alts.length:Int)>0))=a5;generalize u.ok=a0;refine⟨1,hU (by simp),?_⟩;cases a0<;>cases a1<;>cases a2<;>cases a3<;>cases a4<;>cases a5<;>rfl
def W0(e:aj):Int:=(A1 e).getD 0
def XF{e:aj}(d:Qm e):A1 e=O (W0 e)/\BL e=O (W0 e):=by let⟨c,a,b⟩:=qrr e d;unfold W0;rw[b];exact⟨rfl,a⟩
def mR:List aj->Int|[]=>0|x::l=>if W0 x=0 then mR l else W0 x
def SL:∀(l m:List aj),mR (l++m)=if mR l=0 then mR m else mR l
 |[],m=>by simp[mR]
 | x :: l,m => by
  rw[vaN,mR,mR,SL l m];by_cases h:W0 x=0;.simp[h]
  .simp[h]
def qm8(e:aj)(m:Qm e):∃b,mF e 0=O (b,mR (dy e)):=by
 rw[ZP e 0 (qT m)];have i:∀(l:List aj),(∀x∈l,Qm x)->∃b,Ol (λs x=>kp x s) l (0:Int)=O (b,mR l):=by
  intro l;induction l with
  |nil=>intro _;exact⟨T,rfl⟩
  | cons x l ih =>
   intro h;have d:=(XF (h x (by simp))).2;have n:kp x 0=O (W0 x==0,W0 x):=by unfold kp;rw[d];rfl
   rw[Ol,n,mR];by_cases a:W0 x=0;.simp only[hN,a,beq_self_eq_true,if_true];exact ih λy o=>h y (by simp[o])
   .have c:(W0 x==0)=false:=by simpa using a
    simp only[hN,c,a,if_false];exact⟨Z,rfl⟩
 exact i _ λx d=>qiu m d
def qkA(e:aj)(c:Qm e):qaV e=O (mR (dy e)):=by
 refine uX (F:=S7) nE Qm (λx=>mR (dy x)) (λR e c q=>?_) e c (lP (qT c));have r:nE e<=1073741824:=qT c;have m:=HD e;show Lg (λe=>R e) e=_;unfold Lg;rw[(XF c).1,WT e (qT c)];simp only[hN];have d:∀(k i:Nat)(v:Int),i+k=(bM e).length->A0 (λe=>R e) (bM e) v (i:Int)=O (if v=0 then mR (((bM e).drop i).flatMap dy)else v):=by
  intro k;induction k with
  | zero =>
   intro i v p;have:i=(bM e).length:=by omega
   subst this;unfold A0;rw[dW (x:=v) ?_]
   .rw[vbP];by_cases b:v=0;.rw[hU b,b];rfl
    .rw[hG b]
   .show jR (λe=>R e) (bM e) v ((bM e).length:Int)=_;unfold jR AZ;rw[hG (by simp)];rfl
  | succ k ihk =>
   intro i v p;have a:i<(bM e).length:=by omega
   have n:(bM e)[i]∈bM e:=m4 a;by_cases b:v=0
   .have o:jR (λe=>R e) (bM e) v (i:Int)=O (.inl (mR (dy (bM e)[i]),((i+1:Nat):Int))):=by
     unfold jR AZ
     rw[hU (by simpa using a),b]
     simp only[hN,beq_self_eq_true,if_true]
     rw[aC _ _ a]
     simp only[hN]
     rw[q _ (QY n) (qoJ c n),dj (by omega) (by omega)]
     rfl
    have h:=ihk (i+1) (mR (dy (bM e)[i])) (by omega)
    unfold A0 at h ⊢
    rw[mV (s':=(mR (dy (bM e)[i]),((i+1:Nat):Int))) o,h,hU b,vaD a,vcB,SL]
   .unfold A0;rw[dW (x:=v) ?_,hG b];show jR (λe=>R e) (bM e) v (i:Int)=_;unfold jR AZ;rw[hU (by simpa using a)];simp only[hN];rw[hG (by simpa using b)]
 have h:=d (bM e).length 0 (W0 e) (by omega);rw[show((0:Nat):Int)=0 from rfl]at h;rw[h,vbl,zG,mR];rfl
def qnc(e:aj)(a:Qm e):∃c,Em e=O c/\Ez e=O c:=by
 let⟨b,i⟩:=qm8 e a;unfold Em Ez;rw[qnj e (qT a),XD e (qT a),qng e (qT a),qeO e (qT a),i,qkA e a];simp only[hN];by_cases d:Y (((dy e).length:Int)>400)=T;.rw[hU d];exact⟨_,rfl,rfl⟩
 .rw[hG d];by_cases h:Y ((dE e:Int)>40)=T;.rw[hU h];exact⟨_,rfl,rfl⟩
  .rw[hG h];exact⟨_,rfl,rfl⟩
structure quc(e:aj):Prop where
 rng:1<=e.Op/\e.Op<=26
 n1:e.Op=1->qqd e.N
 k1:e.Op=6\/e.Op=9\/e.Op=15\/e.Op=21\/e.Op=22\/e.Op=23\/e.Op=26->∃a,e.Kids=[a]
 k2:e.Op=7\/(10<=e.Op/\e.Op<=14)\/(16<=e.Op/\e.Op<=20)\/e.Op=24->∃a b,e.Kids=[a,b]
 k3:e.Op=8->∃a b c,e.Kids=[a,b,c]
 k5:e.Op=5->1<=e.Kids.length
 k25:e.Op=25->2<=e.Kids.length
 t26:e.Op=26->∃t,e.Types=[t]
def qwd{α:Type}{l:List α}(h:l.length=1):∃a,l=[a]:=by match l,h with|[a],_=>exact⟨a,rfl⟩
def qzU{α:Type}{l:List α}(h:l.length=2):∃a b,l=[a,b]:=by match l,h with|[a,b],_=>exact⟨a,b,rfl⟩
def qzV{α:Type}{l:List α}(h:l.length=3):∃a b c,l=[a,b,c]:=by match l,h with|[a,b,c],_=>exact⟨a,b,c,rfl⟩
structure qBm(op:Int)(u:aq):Prop where
 rng:u.ok=true->1<=op/\op<=26
 k1:op=6\/op=9\/op=15\/op=21\/op=22\/op=23\/op=26->u.least=1/\u.most=1
 k2:op=7\/(10<=op/\op<=14)\/(16<=op/\op<=20)\/op=24->u.least=2/\u.most=2
 k3:op=8->u.least=3/\u.most=3
 k5:op=5->u.least=1
 k25:op=25->u.least=2
 t26:op=26->u.exactly=true
def qm7(a:Int):∃u,E7 a=O u/\qBm a u:=by
 by_cases h:1<=a/\a<=26
 .have:a=1\/a=2\/a=3\/a=4\/a=5\/a=6\/a=7\/a=8\/a=9\/a=10\/a=11\/a=12\/a=13\/a=14\/a=15\/a=16\/a=17\/a=18\/a=19\/a=20\/a=21\/a=22\/a=23\/a=24\/a=25\/a=26:=by omega
  rcases this with h|h|h|h|h|h|h|h|h|h|h|h|h|h|h|h|h|h|h|h|h|h|h|h|h|h<;>subst h<;>
   exact⟨_,rfl,⟨λ_=>by omega,λh=>by first|exact⟨rfl,rfl⟩|omega,λh=>by first|exact⟨rfl,rfl⟩|omega,λh=>by first|exact⟨rfl,rfl⟩|omega,λh=>by first|rfl|omega,λh=>by first|rfl|omega,λh=>by first|rfl|omega⟩⟩
 .have b:∀k:Int,1<=k->k<=26->(a==k)=false:=λk c d=>by rw[beq_eq_false_iff_ne];omega
  refine⟨⟨Z,Z,0,0,Z,Z,Z,Z,Z⟩,?_,⟨λh=>(by cases h),λh=>(by omega),λh=>(by omega),λh=>(by omega),λh=>(by omega),λh=>(by omega),λh=>(by omega)⟩⟩;unfold E7 Hr Hs Ht;simp[b]
def qoG(e:aj)(h:A1 e=O 0):quc e:=by
 let⟨u,R,n⟩:=qm7 e.Op;unfold A1 at h;rw[R]at h;simp only[hN]at h;let⟨o1,s,h⟩:=qdp h;rcases T6 h with⟨x,h⟩|⟨x,h⟩;.cases h
 let⟨o2,e2,h⟩:=qdp h;rcases T6 h with⟨E,h⟩|⟨E,h⟩;.cases h
 let⟨X,c,h⟩:=qdp h;rcases T6 h with⟨w,h⟩|⟨w,h⟩;.cases h
 let⟨o4,m,h⟩:=qdp h;rcases T6 h with⟨A,h⟩|⟨A,h⟩;.cases h
 have y:u.ok=true:=by
  unfold A2 at s;rcases T6 s with⟨d,s⟩|⟨d,s⟩;.rw[<-vbh s]at x;cases x
  .simpa using d
 have t:(u.least<=(e.Kids.length:Int)/\(e.Kids.length:Int)<=u.most)/\(u.exactly=T->(e.Types.length:Int)=1):=by
  have w:X=true:=by simpa using w
  subst w;unfold E0 at c;let⟨p1,p,c⟩:=qdp c;rcases T6 c with⟨r,c⟩|⟨r,c⟩;.cases c
  let⟨p2,q2,c⟩:=qdp c;rcases T6 c with⟨F,c⟩|⟨F,c⟩;.cases c
  let⟨p3,q3,c⟩:=qdp c;rcases T6 c with⟨H,c⟩|⟨H,c⟩;.cases c
  let⟨p4,q4,c⟩:=qdp c;refine⟨?_,λS=>?_⟩
  .subst r;unfold Aj at p;rcases T6 p with⟨d,p⟩|⟨d,p⟩;.cases p
   .simp at d p;omega
  .cases p4 with
   |inl _=>cases c
   | inr _ =>
    simp only[]at c;rcases T6 c with⟨d,c⟩|⟨d,c⟩;.rw[S]at d;cases d
    .rcases T6 c with⟨B,c⟩|⟨B,c⟩;.simpa using B
     .cases c
 let⟨⟨hl,hm⟩,P⟩:=t;refine⟨n.rng y,λL=>?_,λi=>qwd ?_,λi=>qzU ?_,λi=>qzV ?_,λi=>?_,λi=>?_,λi=>qwd ?_⟩
 .subst A;unfold A3 at m;rw[hU (by simp[L])]at m;let⟨q,o,m⟩:=qdp m;rcases T6 m with⟨d,m⟩|⟨d,m⟩;.cases m
  .have z:q=true:=by simpa using d
   subst z;unfold K2 at o;rcases T6 o with⟨r,o⟩|⟨r,o⟩;.simp at r o;exact⟨by omega,o⟩
   .cases o
 .let⟨a,b⟩:=n.k1 i;omega
 .let⟨a,b⟩:=n.k2 i;omega
 .let⟨a,b⟩:=n.k3 i;omega
 .have:=n.k5 i;omega
 .have:=n.k25 i;omega
 .have:=P (n.t26 i);omega
def Nl(e:aj):Prop:=∀x∈dy e,quc x
def qO{e:aj}(h:Nl e):quc e:=h e (qpQ e)
def qbz{e x:aj}(h:Nl e)(a:x∈bM e):Nl x:=λy b=>h y (by rw[zG];exact vaP _ (vc9.2 ⟨x,a,b⟩))
def mS{e x:aj}(h:Nl e)(a:x∈e.Kids):Nl x:=qbz h (vaU _ a)
def ql7{e:aj}{a:cH}(h:Nl e)(b:a∈e.Alts):Nl a.Body:=qbz h (vaM _ (m8.2 ⟨a,b,rfl⟩))
abbrev ZD(e:aj):Prop:=dc (ak e)<=16777216
def XL{e:aj}(h:ZD e):Qm e:=n3 h (by unfold dm;omega)
def Yc:∀(l:List aj),mR l=0->∀x∈l,W0 x=0
 |[],_=>λx a=>nomatch a
 | y :: l,h => fun x a => by
  rw[mR]at h;by_cases b:W0 y=0
  .rw[hU b]at h;rcases oL.1 a with rfl|a;.exact b
   .exact Yc l h x a
  .rw[hG b]at h;exact absurd h b
def qjj(e:aj)(i:ZD e)(h:Ez e=O 0):Nl e:=by
 have a:=XL i;unfold Ez at h;rw[XD e (qT a),qeO e (qT a),qkA e a]at h;simp only[hN]at h;rcases T6 h with⟨c,h⟩|⟨c,h⟩;.cases h
 rcases T6 h with⟨c,h⟩|⟨c,h⟩;.cases h
 intro x b;have d:=Yc _ (vbh h) x b;exact qoG x (by rw[(XF (qiu a b)).1,d])
def EE(e:aj):Int:=if e.Op=7\/e.Op=8\/e.Op=9\/e.Op=6\/e.Op=25 then 0 else if e.Op=20 then 1 else if e.Op=19 then 2 else if e.Op=21 then(if(e.Kids.headD ⟨0,[],0,[],[],[],[]⟩).Op=16 then 4 else 3)else if e.Op=16\/e.Op=17\/e.Op=18 then 4 else if e.Op=10\/e.Op=11 then 5 else if e.Op=12\/e.Op=13\/e.Op=14 then 6 else if e.Op=15 then 7 else 8
def FM(e:aj)(h:quc e):BB e=O (EE e):=by
 let⟨i,m⟩:=h.rng;have c:=h.k1;let⟨o,q,n,ks,r,p,ts⟩:=e;replace i:1<=o:=i;replace m:o<=26:=m;replace c:o=6\/o=9\/o=15\/o=21\/o=22\/o=23\/o=26->∃a,ks=[a]:=c;have:o=1\/o=2\/o=3\/o=4\/o=5\/o=6\/o=7\/o=8\/o=9\/o=10\/o=11\/o=12\/o=13\/o=14\/o=15\/o=16\/o=17\/o=18\/o=19\/o=20\/o=22\/o=23\/o=24\/o=25\/o=26\/o=21:=by omega
 rcases this with rfl|rfl|rfl|rfl|rfl|rfl|rfl|rfl|rfl|rfl|rfl|rfl|rfl|rfl|rfl|rfl|rfl|rfl|rfl|rfl|rfl|rfl|rfl|rfl|rfl|rfl;case' inr.inr.inr.inr.inr.inr.inr.inr.inr.inr.inr.inr.inr.inr.inr.inr.inr.inr.inr.inr.inr.inr.inr.inr.inr=>
  obtain⟨a,rfl⟩:=c (by omega)
  show(bY [a] 0).bind (λd=>if(d.Op==16)then O 4 else O 3)=O (if a.Op=16 then 4 else 3)
  rw[dI]
  simp only[hN]
  by_cases b:a.Op=16<;>simp[b]
 all_goals rfl
def qll(e:aj)(h:quc e):JH e=O (EE e):=by
 let⟨m,p⟩:=h.rng;have d:=h.k1;let⟨o,q,n,ks,r,b,ts⟩:=e;replace m:1<=o:=m;replace p:o<=26:=p;replace d:o=6\/o=9\/o=15\/o=21\/o=22\/o=23\/o=26->∃a,ks=[a]:=d;have:o=1\/o=2\/o=3\/o=4\/o=5\/o=6\/o=7\/o=8\/o=9\/o=10\/o=11\/o=12\/o=13\/o=14\/o=15\/o=16\/o=17\/o=18\/o=19\/o=20\/o=22\/o=23\/o=24\/o=25\/o=26\/o=21:=by omega
 rcases this with rfl|rfl|rfl|rfl|rfl|rfl|rfl|rfl|rfl|rfl|rfl|rfl|rfl|rfl|rfl|rfl|rfl|rfl|rfl|rfl|rfl|rfl|rfl|rfl|rfl|rfl;case' inr.inr.inr.inr.inr.inr.inr.inr.inr.inr.inr.inr.inr.inr.inr.inr.inr.inr.inr.inr.inr.inr.inr.inr.inr=>
  obtain⟨a,rfl⟩:=d (by omega)
  show(qy ⟨21,q,n,[a],r,b,ts⟩).bind (λi=>if i then O 4 else O 3)=O (if a.Op=16 then 4 else 3)
  have s:qy ⟨21,q,n,[a],r,b,ts⟩=O (a.Op==16):=rfl
  rw[s]
  simp only[hN]
  by_cases c:a.Op=16<;>simp[c]
 all_goals rfl
def Vc{α:Type}(x y:α)(l:V α):bY (x::y::l) 1=O y:=by have:=aC (x::y::l) 1 (by simp);exact this
def qzL{α:Type}(x y z:α)(l:V α):bY (x::y::z::l) 2=O z:=by have:=aC (x::y::z::l) 2 (by simp);exact this
def V1{e x:aj}(h:ZD e)(a:x∈e.Kids):ZD x:=n3 (vbw (qjV a)) h
def qg0{e:aj}{a:cH}(h:ZD e)(b:a∈e.Alts):ZD a.Body:=n3 (vbw (qcm b)) h
def qcH{e:aj}{t:am}(h:ZD e)(a:t∈e.Types):KD t:=n3 (vbw (qla a)) h
def qlo{e:aj}{p:bO}(h:ZD e)(a:p∈e.Params):KD p.Type_:=by have b:=qiL a;have c:=Rj p;unfold KD;unfold ZD at h;omega
def qp6(t:am)(h:KD t):Y (t=Wo)=(Y (t.Op=0)&&(Y (t.Name=[])&&(Y (t.Args=[])&&(Y (t.Names=[])&&(Y (t.Pred=mg)&&Y (t.Preds=[])))))):=by let⟨o,n,a,b,p,c⟩:=t;simp[Wo,mg];rfl
def qph(t:am)(h:KD t):AB t=O (Y (t=Wo)):=by
 unfold AB;rw[qp6 t h];by_cases b:t.Op=0
 .rw [hU (by simp [b])];by_cases c:t.Name=[]
  .rw [hU (by simp [c])];by_cases d:t.Args=[]
   .rw [hU (by simp [d])];by_cases i:t.Names=[]
    .rw [hU (by simp [i]),zM _ (Gh h)];simp only[hN];by_cases m:t.Pred=mg
     .rw[hU (by simp[m])];have a:((t.Preds.length:Int)==0)=Y (t.Preds=[]):=by
       by_cases a:t.Preds=[]
       .rw[tr a,a];rfl
       .rw[decide_eq_false a,beq_eq_false_iff_ne];intro e;exact a (vaw (by omega))
      simp[b,c,d,i,m,a]
     .rw[hG (by simp[m])];simp[m]
    .rw[hG (by simpa using i)];simp[i]
   .rw[hG (by simpa using d)];simp[d]
  .rw[hG (by simpa using c)];simp[c]
 .rw[hG (by simpa using b)];simp[b]
section
variable{β γ w z:Type}
def R2(mk:V Int->K->β)(mk':ae->K->γ)(k:V Int)(s:ae)(b:K)(n:Nat)(o:Q β)(e:Q γ):Prop:=k.length+n<=1073741824->s.length+n<=1073741824->(b=Z->k=qG s)-> ∃c d a,o=O (mk c a)/\e=O (mk' d a)/\c.length<=k.length+n/\d.length<=s.length+n/\(a=Z->b=Z/\c=qG d)
variable{mk:V Int->K->β}{mk':ae->K->γ}{m2:V Int->K->w}{d:ae->K->z}{k:V Int}{s:ae}{b:K}{n m n1 n2:Nat}{o:Q β}{o':Q γ}
def bI:R2 mk mk' k s b n (O (mk k b)) (O (mk' s b)):=λ_ _ h=>⟨k,s,b,rfl,rfl,vbC _ _,vbC _ _,λa=>⟨a,h a⟩⟩
def qsy:R2 mk mk' k s b n (O (mk k T)) (O (mk' s T)):=λ_ _ _=>⟨k,s,T,rfl,rfl,vbC _ _,vbC _ _,λa=>by cases a⟩
def bT(h:R2 mk mk' k s b n o o')(e:n<=m):R2 mk mk' k s b m o o':=λA B q=>by let⟨r,t,p,a,c,x,y,i⟩:=h (by omega) (by omega) q;exact⟨r,t,p,a,c,by omega,by omega,i⟩
def aL{f:β->Q w}{f':γ->Q z}(h:R2 mk mk' k s b n1 o o')(y:∀e i a,R2 m2 d e i a n2 (f (mk e a)) (f' (mk' i a))):R2 m2 d k s b (n1+n2) (o.bind f) (o'.bind f'):=λR S A=>by obtain⟨e,i,a,rfl,rfl,F,H,p⟩:=h (by omega) (by omega) A;let⟨B,E,r,t,x,L,P,q⟩:=y e i a (by omega) (by omega) λc=>(p c).2;exact⟨B,E,r,t,x,by omega,by omega,λc=>⟨(p (q c).1).1,(q c).2⟩⟩
def QF{t:ae}{e:Q (V Int)}{h:Q ae}{f:V Int->Q w}{a:ae->Q z}(F:RK qG k t e)(H:RK qv8 s t h)(B:∀c i,R2 m2 d c i b n (f c) (a i)):R2 m2 d k s b (t.length+n) (e.bind f) (h.bind a):=λS X E=>by
 rw[F (by omega),H (by omega)];let⟨P,R,p,q,r,x,y,A⟩:=B (k++qG t) (s++t) (by rw[m3,ir.len];omega) (by rw[m3];omega) λL=>by rw[E L,ir.app]
 rw[m3,ir.len]at x;rw[m3]at y;exact⟨P,R,p,q,r,by omega,by omega,A⟩
def cZ{t:ae}{a c:K}{f:V Int->Q w}{e:ae->Q z}(p:∀h i,R2 m2 d h i b n (f h) (e i))(q:t.length<=16:=by decide):R2 m2 d k s b (16+n) ((aa ([t]:V ae) k a).bind f) ((ac ([t]:V ae) s c).bind e):=
 bT (QF (Vy t k a) (R5 t s c) p) (by omega)
def qlh{t u v:ae}{c h a:K}{f:V Int->Q w}{i:ae->Q z}(F:∀p q,R2 m2 d p q b n (f p) (i q))(e:t=u++v:=by rfl)(P:t.length<=16:=by decide):R2 m2 d k s b (16+n) ((aa ([t]:V ae) k c).bind f) ((ac ([u]:V ae) s h).bind λr=>(ac ([v]:V ae) r a).bind i):=λX h2 H=>by
 subst e;rw[m3]at P;rw[R5 u s h (by omega),hN,R5 v (s++u) a (by rw[m3];omega)];rw[Vy (u++v) k c (by rw[m3];omega)];let⟨R,S,x,a,y,A,B,E⟩:=F (k++qG (u++v)) (s++u++v) (by rw[m3,ir.len,m3];omega) (by rw[m3,m3];omega) λL=>by rw[H L,ir.app,ir.app,ir.app,vbi]
 rw[m3,ir.len,m3]at A;rw[m3,m3]at B;exact⟨R,S,x,a,y,by omega,by omega,E⟩
def R0{t:ae}{a c:K}{i:Nat}{f:V Int->Q w}{e:ae->Q z}(q:∀h p,R2 m2 d h p b n (f h) (e p))(x:t.length<=16:=by decide):R2 m2 d k s b (16+n) ((if Y ((i:Int)>0)then(aa ([t]:V ae) k a).bind λr=>O r else O k).bind f) ((if Y ((i:Int)>0)then(ac ([t]:V ae) s c).bind λr=>O r else O s).bind e):=by
 refine bT (QF (qtS t i k a) (qlj t i s c) q) ?_;split;.simp
 .omega
def rC{α:Type}{q:Q α}{a:α}{f:α->Q w}{p':Q z}(e:q=O a)(h:R2 m2 d k s b n (f a) p'):R2 m2 d k s b n (q.bind f) p':=by rw[e];exact h
def lT{α:Type}{q:Q α}{a:α}{f:α->Q z}{p:Q w}(e:q=O a)(h:R2 m2 d k s b n p (f a)):R2 m2 d k s b n p (q.bind f):=by rw[e];exact h
def fK{α c:Type}{q:Q α}{r:Q c}{a:α}{i:c}{f:α->Q w}{p:c->Q z}(e:q=O a)(t:r=O i)(h:R2 m2 d k s b n (f a) (p i)):R2 m2 d k s b n (q.bind f) (r.bind p):=rC e (lT t h)
def qgP{x:K}(h:R2 mk mk' k s (b||x) n o o'):R2 mk mk' k s b n o o':=λt y A=>by let⟨B,E,r,e,i,p,q,c⟩:=h t y (λa=>A (by cases b<;>simp_all));exact⟨B,E,r,e,i,p,q,λa=>⟨by have:=(c a).1;cases b<;>simp_all,(c a).2⟩⟩
def uK{c i:Prop}[Decidable c][Decidable i]{y:Q β}{p:Q γ}(e:i↔c)(h:c->R2 mk mk' k s b n o o')(q:¬c->R2 mk mk' k s b n y p):R2 mk mk' k s b n (if c then o else y) (if i then o' else p):=by
 by_cases a:c;.rw[hU a,hU (e.2 a)];exact h a
 .rw[hG a,hG λx=>a (e.1 x)];exact q a
def AC(h:R2 mk mk' k s T n o o'):R2 mk mk' k s b n (O (mk k T)) o':=λq r _=>by
 let⟨A,t,c,x,e,y,i,p⟩:=h q r (λa=>by cases a);have a:c=true:=by cases c with|true=>rfl|false=>have:=(p rfl).1;cases this
 subst a;exact⟨k,t,T,rfl,e,by omega,i,λa=>by cases a⟩
def qli{i:V Wr}(h:RS qG mk k b i o)(A:RS qv8 mk' s b i o')(X:(IQ i).1.length<=n):R2 mk mk' k s b n o o':=λR S B=>by
 let⟨E,t,q,c,r,H⟩:=h (by omega);let⟨F,L,x,p,y,P⟩:=A (by omega);refine⟨E,F,t,q,by rw[x,p,c],by omega,by omega,λe=>?_⟩;have a:b=false:=by rw[c]at e;cases b<;>simp_all
 exact⟨a,by rw[r e,y (by rw[p,<-c];exact e),B a,ir.app]⟩
def qlg{α:Type}(l:List α)(hn:l.length<9223372036854775808)(g:α->Nat){body:Int×List Int×K->Q ((Int×List Int×K)⊕(List Int×K))}{a:Int×ae×K->Q ((Int×ae×K)⊕(ae×K))}{F:Int->List Int->K->Q ((Int×List Int×K)⊕(List Int×K))}{t:Int->ae->K->Q ((Int×ae×K)⊕(ae×K))}
  (B:∀i k b,body (i,k,b)=if Y (i<(l.length:Int))then F i k b else O (.inr (k,b))) (h:∀i k b,a (i,k,b)=if Y (i<(l.length:Int))then t i k b else O (.inr (k,b)))
  (e:Nat) (q:∀(i:Nat)(E:i<l.length),e<=i->∀k s b,R2 (λk b=>.inl (cz ((i:Int)+1),k,b)) (λk b=>.inl (cz ((i:Int)+1),k,b)) k s b (g l[i]) (F i k b) (t i s b)) (A:e<=l.length):R2 Prod.mk Prod.mk k s b (((l.drop e).map g).sum) (loop body ((e:Int),k,b)) (loop a ((e:Int),s,b)):=by
 have r:∀m i k s b,m+i=l.length->e<=i->R2 Prod.mk Prod.mk k s b (((l.drop i).map g).sum) (loop body ((i:Int),k,b)) (loop a ((i:Int),s,b)):=by
  intro m;induction m with
  |zero=>
   intro i k s b E _;have:i=l.length:=by omega
   subst this;rw[dW (body:=body) (by rw[B,hG (qsm _)]),dW (body:=a) (by rw[h,hG (qsm _)])];exact bI (mk:=Prod.mk) (mk':=Prod.mk)
  |succ m ih=>
   intro i k s b E A h1 h2 h3;have c:i<l.length:=by omega
   rw[vaD c,ox,List.sum_cons]at h1 h2 ⊢;let⟨k1,s1,P,H,L,a3,a4,x⟩:=q i c A k s b (by omega) (by omega) h3;rw[mV (body:=body) (by rw[B,hU (qnb c)];exact H),mV (body:=a) (by rw[h,hU (qnb c)];exact L),dj (by omega) (by omega),show((i:Int)+1)=((i+1:Nat):Int) by omega];let⟨k2,s2,R,S,X,c3,c4,y⟩:=ih (i+1) k1 s1 P (by omega) (by omega) (by omega) (by omega) λp=>(x p).2;exact⟨k2,s2,R,S,X,by omega,by omega,λp=>⟨(x (y p).1).1,(y p).2⟩⟩
 exact r (l.length - e) e k s b (by omega) (m7 _)
def jo{α:Type}(l:V α)(t:l.length<9223372036854775808)(g:α->Nat){c:Int×V Int×K->Q ((Int×V Int×K)⊕(V Int×K))}{a:Int×ae×K->Q ((Int×ae×K)⊕(ae×K))}{F:Int->V Int->K->Q ((Int×V Int×K)⊕(V Int×K))}{p:Int->ae->K->Q ((Int×ae×K)⊕(ae×K))} (r:∀i k b,c (i,k,b)=if Y (i<(l.length:Int))then F i k b else O (.inr (k,b))) (e:∀i k b,a (i,k,b)=if Y (i<(l.length:Int))then p i k b else O (.inr (k,b))) (h:∀(i:Nat)(q:i<l.length) k s b,R2 (λk b=>.inl (cz ((i:Int)+1),k,b)) (λk b=>.inl (cz ((i:Int)+1),k,b)) k s b (g l[i]) (F i k b) (p i s b)):R2 Prod.mk Prod.mk k s b ((l.map g).sum) (loop c (0,k,b)) (loop a (0,s,b)):=qlg l t g r e 0 (λi q _=>h i q) (w0 _)
def lX{α:Type}(c:α->List U)(g:α->Nat):∀(l:List α),(∀x∈l,g x<=64 * dc (c x))->(l.map g).sum<=64 * bC (l.map c)
 |[],_=>by simp
 |x::l,h=>by have e:=h x (by simp);have i:=lX c g l λy a=>h y (by simp[a]);simp only[ox,List.sum_cons,bC];omega
end
def sD(x:ae)(k:V Int)(s:ae)(b:K):R2 tI Prod.mk k s b x.length (aW x k b) (aH x Z s b):=qli (qwo x k b) (qpE x Z s b) (by rw[pT];exact m7 _)
def Jk(x:ae)(k:V Int)(s:ae)(b:K):R2 tI Prod.mk k s b x.length (bw x k b) (aH x T s b):=qli (qpg x k b) (qpE x T s b) (by rw[pT];exact m7 _)
def qle(x:ae)(k:List Int)(s:ae)(b:K):R2 tI Prod.mk k s b x.length (gA x k b) (gT x s b):=by
 have e:∃r,lE x=O r/\nR x s b=O (b||r):=by
  unfold lE nR;simp only[mc,pd,nn,hN,Q5];by_cases a:(x==Yw)=T;.exact⟨Z,by simp[a],by simp[a]⟩
  .by_cases c:(x==QL)=T;.exact⟨Z,by simp[a,c],by simp[a,c]⟩
   .by_cases d:(x==QM)=T;.exact⟨Z,by simp[a,c,d],by simp[a,c,d]⟩
    .exact⟨!ck x,by simp[a,c,d];cases ck x<;>rfl,by simp[a,c,d]⟩
 let⟨r,a,c⟩:=e;refine fK a c (qgP (x:=r) ?_);cases r with|true=>rw[vbs,hU rfl];exact AC (mk:=tI) (o:=(aa ([x]:List ae) k T).bind λr=>O (tI r T)) (bT (QF (n:=0) (Vy x k T) (R5 x s T) λh i=>bI (mk:=tI) (mk':=Prod.mk)) (by omega))|false=>rw[vbp,hG (by decide)];exact bT (QF (n:=0) (Vy x k b) (R5 x s b) λh i=>bI (mk:=tI) (mk':=Prod.mk)) (by omega)
def qcy(p:ah)(h:dc (ag p)<=16777216)(k:V Int)(s:ae)(b:K):R2 Prod.mk Prod.mk k s b (40 * dc (ag p)) (cy p k b) (cj p s b):=qli (qld p h k b) (qgT p h s b) (by rw[pT];exact qe2 p h)
def qgO(p:ah)(h:dc (ag p)<=16777216)(k:V Int)(s:ae)(b:K):R2 Prod.mk Prod.mk k s b (40 * dc (ag p)) (fR p k b) (fX p s b):=qli (qrD p h k b) (qrO p h s b) (by
 have:=jA p;rw[pT];unfold qwS;split;.show yB.length<=_;simp only[yB,vz,List.length_nil];omega
 .exact qe2 p h)
def qpB(e:aj)(s:ae):uS e s T=O (s,T):=by
 show qc0 gu (2 ^ 200) (e,s,T)=_;obtain⟨m,a⟩:∃m,2 ^ 200=m+1:=⟨2 ^ 200 - 1,by omega⟩
 rw[a];show iT (λt k b=>qc0 gu m (t,k,b)) e s T=_;unfold iT;rw[hU rfl]
end Go.Proofs.YtibglelmlnfojaaGreatDoor
