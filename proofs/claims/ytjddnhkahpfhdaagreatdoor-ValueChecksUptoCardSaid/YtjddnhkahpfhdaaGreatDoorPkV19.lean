/- PROVED: a part of the proof. Conditions: none. -/
import Derived.Test.YtjddnhkahpfhdaaGreatDoorPkV18
set_option linter.unusedSimpArgs false
set_option linter.unusedVariables false
noncomputable section
namespace Go.Proofs.YtjddnhkahpfhdaaGreatDoor
open Go
set_option linter.unusedVariables false
set_option linter.unusedSimpArgs false
theorem fc{α:Type}(l:List α)(hl:l.length<9223372036854775808){body:Int×Int->Option ((Int×Int)⊕Int)}(most:Int)
  (hin:∀(i:Nat) (h:i<l.length) n,n<=most->tot (body (n,(i:Int))) (λr=>∃n',r=.inl (n',bw ((i:Int)+1))))
  (hout:∀(i:Nat) n,i<=l.length->(i=l.length\/¬n<=most)->body (n,(i:Int))=some (.inr n)) (n:Int):tot (loop body (n,0)) (λ_=>True):=
 (nx l hl most (λ_ _=>True) (λi h n _ hm=>(hin i h n hm).mono λr ⟨n',e⟩=>⟨n',e,vzz⟩) hout n vzz).mono λ_ _=>trivial
theorem Bz(k:IntKind)(a b:Int)(hb:b≠0):tot (qu k a b) (λ_=>True):=by
 unfold qu;rw[vay hb];exact bg vzz
theorem sj(l:List ag)(most:Int)(hl:aX (l.map aj)<=jL):tot (du l most) (λ_=>True):=by
 refine oM (F:=kP) (λx=>aX (x.1.map aj)) (λx=>aX (x.1.map aj)<=jL) (λ_ _=>True) (λR x hx ih=>?_) (l,most) hl (kV (vax hl (by decide)))
 obtain⟨l,most⟩:=x
 have hl:aX (l.map aj)<=jL:=hx
 have hlen:=dZ aj J7 l
 show tot (iP (λa most=>R (a,most)) l most) _
 unfold iP pr
 unfold jL at hl
 refine aK (fc l (by omega) most (λi hi n hm=>?_) (λi n _ h=>?_) 0) (λr _=>bg vzz)
 ·have e:=vq (vah.2 ⟨_,vaJ hi,rfl⟩:aj l[i]∈l.map aj)
  have ep:=vB l[i]
  show tot (dF (λa most=>R (a,most)) l most n i) _
  unfold dF ic
  rw[eX hi hm,bu l i hi]
  simp only[vab,if_true]
  exact aK (Bz _ _ _ (by decide)) λq _=>aK (ih (l[i].Kids,_) (by show aX (l[i].Kids.map aj)<aX (l.map aj);omega) (by show aX (l[i].Kids.map aj)<=jL;unfold jL;omega)) λr _=>bg ⟨_,rfl⟩
 ·show dF (λa most=>R (a,most)) l most n i=_
  unfold dF ic
  rw[dz h]
  rfl
theorem I4(p:ag):aX ([p].map aj)=ce (aj p):=by simp[aX]
theorem ww(l:List ae)(most:Int)(hl:aX (l.map af)<=jL):tot (ei l most) (λ_=>True):=by
 refine oM (F:=kQ) (λx=>aX (x.1.map af)) (λx=>aX (x.1.map af)<=jL) (λ_ _=>True) (λR x hx ih=>?_) (l,most) hl (kV (vax hl (by decide)))
 obtain⟨l,most⟩:=x
 have hl:aX (l.map af)<=jL:=hx
 have hlen:=dZ af E9 l
 show tot (iQ (λa most=>R (a,most)) l most) _
 unfold iQ pu
 unfold jL at hl
 refine aK (fc l (by omega) most (λi hi n hm=>?_) (λi n _ h=>?_) 0) (λr _=>bg vzz)
 ·have e:=vq (vah.2 ⟨_,vaJ hi,rfl⟩:af l[i]∈l.map af)
  have ep:=HP l[i]
  show tot (dG (λa most=>R (a,most)) l most n i) _
  unfold dG ie
  rw[eX hi hm,bu l i hi]
  simp only[vab,if_true]
  exact aK (Bz _ _ _ (by decide)) λq _=>aK (sj _ _ (by unfold jL;omega)) λ_ _=>aK (sj _ _ (by rw[I4];unfold jL;omega)) λ_ _=>aK (ih (l[i].Args,_) (by show aX (l[i].Args.map af)<aX (l.map af);omega) (by show aX (l[i].Args.map af)<=jL;unfold jL;omega)) λr _=>bg ⟨_,rfl⟩
 ·show dG (λa most=>R (a,most)) l most n i=_
  unfold dG ie
  rw[dz h]
  rfl
theorem DG(t:ae):aX ([t].map af)=ce (af t):=by simp[aX]
theorem HN(e:aq):ce (ak e)=1+(e.Name.length+1)+1+(aX (e.Kids.map ak)+1)+(aX (e.Params.map aQ)+1)+(aX (e.Alts.map bq)+1)+(aX (e.Types.map af)+1):=by
 rw[cb];simp only[ce,pm,sl];omega
theorem J8(a:fk):ce (bq a)=(a.Con.length+1)+(aX (a.Names.map cS)+1)+ce (ak a.Body):=by
 rw[jz,cb];simp only[ce,pm,sl];omega
theorem E8(a:cV):ce (aQ a)=(a.Name.length+1)+ce (af a.Type_):=by
 unfold aQ;rw[dD];simp only[ce,pm]
theorem Bl(α:Type){c:α->List PVal}(h:∀x,1<=ce (c x)){l:List α}(hl:aX (l.map c)<=jL):l.length<9223372036854775808:=by
 have:=dZ c h l
 unfold jL at hl;omega
theorem Bm{α:Type}{c:α->List PVal}{l:List α}{i:Nat}(h:i<l.length):ce (c l[i])<=aX (l.map c):=vq (vah.2 ⟨_,vaJ h,rfl⟩)
theorem QS(e:aq)(most:Int)(he:ce (ak e)<=jL):tot (AL e most) (λ_=>True):=by
 refine oM (F:=uk) (λx=>ce (ak x.1)) (λx=>ce (ak x.1)<=jL) (λ_ _=>True) (λR x hx ih=>?_) (e,most) he (kV (vax he (by decide)))
 obtain⟨e,most⟩:=x
 have he:ce (ak e)<=jL:=hx
 have hp:=HN e
 show tot (pq (λa most=>R (a,most)) e most) _
 unfold pq za zb zc
 refine aK (Bz _ _ _ (by decide)) λq _=>aK (ww _ _ (by omega)) λ_ _=>aK (fc e.Params (Bl _ (λx=>by rw[E8];omega) (c:=aQ) (by omega)) most (λi hi n hm=>?_) (λi n _ h=>?_) _) λ_ _=>aK (fc e.Kids (Bl _ (λx=>by rw[HN];omega) (c:=ak) (by omega)) most (λi hi n hm=>?_) (λi n _ h=>?_) _) λ_ _=>aK (fc e.Alts (Bl _ (λx=>by rw[J8];omega) (c:=bq) (by omega)) most (λi hi n hm=>?_) (λi n _ h=>?_) _) λ_ _=>bg vzz
 ·have:=Bm (c:=aQ) hi
  have:=E8 e.Params[i]
  show tot (fO most e n i) _
  unfold fO mU
  rw[eX hi hm,bu _ i hi]
  simp only[vab,if_true]
  exact aK (Bz _ _ _ (by decide)) λq _=>aK (ww _ _ (by rw[DG];omega)) λr _=>bg ⟨_,rfl⟩
 ·show fO most e n i=_
  unfold fO mU
  rw[dz h]
  rfl
 ·have:=Bm (c:=ak) hi
  show tot (fP (λa most=>R (a,most)) most e n i) _
  unfold fP mV
  rw[eX hi hm,bu _ i hi]
  simp only[vab,if_true]
  exact aK (ih (e.Kids[i],_) (by show ce (ak e.Kids[i])<ce (ak e);omega) (by show ce (ak e.Kids[i])<=jL;omega)) λr _=>bg ⟨_,rfl⟩
 ·show fP (λa most=>R (a,most)) most e n i=_
  unfold fP mV
  rw[dz h]
  rfl
 ·have:=Bm (c:=bq) hi
  have:=J8 e.Alts[i]
  show tot (fQ (λa most=>R (a,most)) most e n i) _
  unfold fQ mW
  rw[eX hi hm,bu _ i hi]
  simp only[vab,if_true]
  exact aK (ih (e.Alts[i].Body,_) (by show ce (ak e.Alts[i].Body)<ce (ak e);omega) (by show ce (ak e.Alts[i].Body)<=jL;omega)) λr _=>bg ⟨_,rfl⟩
 ·show fQ (λa most=>R (a,most)) most e n i=_
  unfold fQ mW
  rw[dz h]
  rfl
theorem HL(b:kE):ce (bZ b)=(b.Name.length+1)+(aX (b.Vars.map bG)+1)+ce (aj b.Hyp)+ce (aj b.Goal):=by
 unfold bZ;simp only[dD,ce,pm,sl];omega
theorem QX(b:NU):(aX (b.Bounds.map bZ)+1)+ce (af b.Type_)+(aX (b.Metric.map aj)+1)<=ce (rN b):=by
 unfold rN;simp only[dD,ce,pm,sl];omega
theorem Ka(b:fJ):(b.Name.length+1)+ce (ak b.Body)+ce (rN b.Sig)<=ce (bN b):=by
 unfold bN;simp only[dD,ce,pm,sl];omega
theorem Oy(l:List fJ)(most:Int)(hl:aX (l.map bN)<=jL):tot (jk l most) (λ_=>True):=by
 unfold jk qw
 refine aK (fc l (Bl _ (λx=>by have:=Ka x;omega) hl) most (λi hi n hm=>?_) (λi n _ h=>?_) _) λ_ _=>bg vzz
 ·have h1:=Bm (c:=bN) hi
  have h2:=Ka l[i]
  have h3:=QX l[i].Sig
  show tot (dT l most n i) _
  unfold dT iN qx
  rw[eX hi hm,bu _ i hi]
  simp only[vab,if_true]
  refine aK (Bz _ _ _ (by decide)) λq _=>aK (ww _ _ (by rw[DG];omega)) λr _=>aK (sj _ _ (by omega)) λ_ _=>aK (fc l[i].Sig.Bounds (Bl _ (λx=>by rw[HL];omega) (c:=bZ) (by omega)) most (λk hk n hm=>?_) (λk n _ h=>?_) _) λ_ _=>aK (QS _ _ (by omega)) λ_ _=>bg ⟨_,rfl⟩
  ·have h4:=Bm (c:=bZ) hk
   have h5:=HL l[i].Sig.Bounds[k]
   show tot (dU most l[i].Sig.Bounds n k) _
   unfold dU iO
   rw[eX hk hm,bu _ k hk]
   simp only[vab,if_true]
   exact aK (sj _ _ (by simp only[vaQ,vbO,aX];omega)) λ_ _=>bg ⟨_,rfl⟩
  ·show dU most l[i].Sig.Bounds n k=_
   unfold dU iO
   rw[dz h]
   rfl
 ·show dT l most n i=_
  unfold dT iN
  rw[dz h]
  rfl
theorem E7(m:al):ce (am m)=(aX (m.Datas.map ax)+1)+(aX (m.Classes.map bV)+1)+(aX (m.Instances.map aO)+1)+(aX (m.Measures.map aZ)+1)+(aX (m.Quals.map ca)+1)+(aX (m.Defs.map bN)+1):=by
 unfold am;simp only[ce,pm,sl];omega
theorem vw(b:aN):ce (ax b)=(b.Name.length+1)+(aX (b.Vars.map cS)+1)+(aX (b.Preds.map bG)+1)+(aX (b.Cons.map aF)+1):=by
 unfold ax;simp only[dD,ce,pm,sl];omega
theorem DH(b:aH):ce (aF b)=(b.Name.length+1)+(aX (b.Names.map cS)+1)+(aX (b.Fields.map af)+1):=by
 unfold aF;simp only[dD,ce,pm,sl];omega
theorem HM(b:dg):ce (bV b)=(b.Name.length+1)+(b.Var.length+1)+(aX (b.Methods.map cW)+1):=by
 unfold bV;simp only[dD,ce,pm,sl];omega
theorem E6(b:nu):ce (cW b)=(b.Name.length+1)+ce (af b.Type_):=by
 unfold cW;simp only[dD,ce,pm,sl]
theorem zR(b:bD):1+ce (af b.Type_)+(aX (b.Defs.map bN)+1)<=ce (aO b):=by
 unfold aO;simp only[dD,ce,pm,sl];omega
theorem Cp(b:bT):1+(aX (b.Cases.map ed)+1)+ce (aj b.Inv)<=ce (aZ b):=by
 unfold aZ;simp only[dD,ce,pm,sl];omega
theorem J9(b:xy):1+ce (aj b.Body)<=ce (ed b):=by
 unfold ed;simp only[dD,ce,pm,sl];omega
theorem Kb(b:eP):1+ce (aj b.Body)<=ce (ca b):=by
 unfold ca;simp only[dD,ce,pm,sl];omega
theorem Q8(m:al)(hm:ce (am m)<=jL):tot (vV m) (λ_=>True):=by
 have hp:=E7 m
 unfold vV
 refine aK (R:=λ_=>True) ?_ λo _=>wv (λ_=>bg vzz) λ_=>?_
 ·unfold rE
  exact wv (λ_=>bg vzz) λ_=>wv (λ_=>bg vzz) λ_=>wv (λ_=>bg vzz) λ_=>wv (λ_=>bg vzz) λ_=>wv (λ_=>bg vzz) λ_=>bg vzz
 unfold zj zl wU wV wX
 refine aK (Oy _ _ (by omega)) λ_ _=>aK (fc m.Datas (Bl _ (λx=>by rw[vw];omega) (c:=ax) (by omega)) 4000 (λi hi n hn=>?_) (λi n hi h=>?_) _) λ_ _=>aK (fc m.Classes (Bl _ (λx=>by rw[HM];omega) (c:=bV) (by omega)) 4000 (λi hi n hn=>?_) (λi n hi h=>?_) _) λ_ _=>aK (fc m.Instances (Bl _ (λx=>by have:=zR x;omega) (c:=aO) (by omega)) 4000 (λi hi n hn=>?_) (λi n hi h=>?_) _) λ_ _=>aK (fc m.Measures (Bl _ (λx=>by have:=Cp x;omega) (c:=aZ) (by omega)) 4000 (λi hi n hn=>?_) (λi n hi h=>?_) _) λ_ _=>aK (fc m.Quals (Bl _ (λx=>by have:=Kb x;omega) (c:=ca) (by omega)) 4000 (λi hi n hn=>?_) (λi n hi h=>?_) _) λ_ _=>bg vzz
 ·have h1:=Bm (c:=ax) hi
  have h2:=vw m.Datas[i]
  show tot (fR m n i) _
  unfold fR mX zk
  rw[eX hi hn,bu _ i hi]
  simp only[vab,if_true]
  refine aK (Bz _ _ _ (by decide)) λq _=>aK (fc m.Datas[i].Cons (Bl _ (λx=>by rw[DH];omega) (c:=aF) (by omega)) 4000 (λk hk n hn=>?_) (λk n _ h=>?_) _) λ_ _=>bg ⟨_,rfl⟩
  ·have h3:=Bm (c:=aF) hk
   have h4:=DH m.Datas[i].Cons[k]
   show tot (fS m i n k) _
   unfold fS mY
   rw[bu _ i hi]
   simp only[vab]
   rw[eX hk hn,bu _ k hk]
   simp only[vab,if_true]
   exact aK (ww _ _ (by omega)) λ_ _=>bg ⟨_,rfl⟩
  ·show fS m i n k=_
   unfold fS mY
   rw[bu _ i hi]
   simp only[vab]
   rw[dz h]
   rfl
 ·show fR m n i=_
  unfold fR mX
  rw[dz h]
  rfl
 ·have h1:=Bm (c:=bV) hi
  have h2:=HM m.Classes[i]
  show tot (fT m n i) _
  unfold fT mZ zm
  rw[eX hi hn]
  simp only[vab,if_true]
  refine aK (fc m.Classes[i].Methods (Bl _ (λx=>by rw[E6];omega) (c:=cW) (by omega)) 4000 (λk hk n hn=>?_) (λk n _ h=>?_) _) λ_ _=>bg ⟨_,rfl⟩
  ·have h3:=Bm (c:=cW) hk
   have h4:=E6 m.Classes[i].Methods[k]
   show tot (fU m i n k) _
   unfold fU na
   rw[bu _ i hi]
   simp only[vab]
   rw[eX hk hn,bu _ k hk]
   simp only[vab,if_true]
   exact aK (ww _ _ (by rw[DG];omega)) λ_ _=>bg ⟨_,rfl⟩
  ·show fU m i n k=_
   unfold fU na
   rw[bu _ i hi]
   simp only[vab]
   rw[dz h]
   rfl
 ·show fT m n i=_
  unfold fT mZ
  rw[dz h]
  rfl
 ·have h1:=Bm (c:=aO) hi
  have h2:=zR m.Instances[i]
  show tot (fl m n i) _
  unfold fl ls
  rw[eX hi hn,bu _ i hi]
  simp only[vab,if_true]
  exact aK (ww _ _ (by rw[DG];omega)) λ_ _=>aK (Oy _ _ (by omega)) λ_ _=>bg ⟨_,rfl⟩
 ·show fl m n i=_
  unfold fl ls
  rw[dz h]
  rfl
 ·have h1:=Bm (c:=aZ) hi
  have h2:=Cp m.Measures[i]
  show tot (fm m n i) _
  unfold fm lu wW
  rw[eX hi hn,bu _ i hi]
  simp only[vab,if_true]
  refine aK (sj _ _ (by rw[I4];omega)) λ_ _=>aK (fc m.Measures[i].Cases (Bl _ (λx=>by have:=J9 x;omega) (c:=ed) (by omega)) 4000 (λk hk n hn=>?_) (λk n _ h=>?_) _) λ_ _=>bg ⟨_,rfl⟩
  ·have h3:=Bm (c:=ed) hk
   have h4:=J9 m.Measures[i].Cases[k]
   show tot (fp m i n k) _
   unfold fp ly
   rw[bu _ i hi]
   simp only[vab]
   rw[eX hk hn,bu _ k hk]
   simp only[vab,if_true]
   exact aK (sj _ _ (by rw[I4];omega)) λ_ _=>bg ⟨_,rfl⟩
  ·show fp m i n k=_
   unfold fp ly
   rw[bu _ i hi]
   simp only[vab]
   rw[dz h]
   rfl
 ·show fm m n i=_
  unfold fm lu
  rw[dz h]
  rfl
 ·have h1:=Bm (c:=ca) hi
  have h2:=Kb m.Quals[i]
  show tot (fq m n i) _
  unfold fq lz
  rw[eX hi hn,bu _ i hi]
  simp only[vab,if_true]
  exact aK (sj _ _ (by rw[I4];omega)) λ_ _=>bg ⟨_,rfl⟩
 ·show fq m n i=_
  unfold fq lz
  rw[dz h]
  rfl
def qC(m:al)(name:ai):aN×Int×Bool:=(Cc m name).elim (⟨[],[],[],[]⟩,0,false) (λx=>(x.1,(x.2:Int),true))
abbrev Ub(op:Int)(n:ai):ae:=⟨op,n,[],[],⟨0,[],0,[]⟩,[]⟩
def qU(m:al)(v:aa):ae:=if(v.Op==1)=true then Ub 1 []else if(v.Op==2)=true then Ub 2 []else if(v.Op==4)=true then Ub 3 []else Ub 4 (qC m v.Name).1.Name
theorem yK(m:al)(v:aa):(qU m v).Args=[]:=by
 unfold qU
 split
 ·rfl
 ·split
  ·rfl
  ·split<;>rfl
structure TJ(m:al):Prop where
 d:m.Datas.length<9223372036854775808
 c:∀d∈m.Datas,d.Cons.length<9223372036854775808
 f:∀d∈m.Datas,∀c∈d.Cons,c.Fields.length<4611686018427387904
section
variable{m:al}(hm:TJ m)
include hm
theorem TL(n:ai):fG m n=some (qC m n):=Q6 m n hm.d hm.c
theorem TT(n:ai):vS m n=some (qC m n):=Q2 m n hm.d hm.c
theorem WH(v:aa):vR m v=some (qU m v,if(v.Op==1)=true then true else if(v.Op==2)=true then true else if(v.Op==4)=true then true else(qC m v.Name).2.2):=by
 unfold vR qU
 rw[TL hm]
 simp only[vab]
 split
 ·rfl
 ·split
  ·rfl
  ·split<;>rfl
theorem WJ(v:aa):nY m v=some (qU m v):=by
 unfold nY qU
 rw[TT hm]
 simp only[vab]
 split
 ·rfl
 ·split
  ·rfl
  ·split<;>rfl
end
def Li(a b:ae):Bool:=a.Op==b.Op&&a.Name==b.Name&&((a.Args.length:Int)==(b.Args.length:Int))
theorem Py(a b:ae)(ha:a.Args=[]):sy a b=some (Li a b):=by
 refine wb (F:=sA) (λ_=>0) (λx=>x.1.Args=[]) (λx=>Li x.1 x.2) (λR x hx ih=>?_) (a,b) ha (kV (vaP _))
 obtain⟨u,v⟩:=x
 have hu:u.Args=[]:=hx
 show ny (λa a2=>R (a,a2)) u v=some (Li u v)
 unfold ny qn qo Li
 rw[qF (x:=.inr ()) (by show jE _ u v (u.Args.length:Int) 0=_;unfold jE;rw[hu];rfl)]
 by_cases h1:u.Op=v.Op<;>by_cases h2:u.Name=v.Name<;>by_cases h3:(u.Args.length:Int)=(v.Args.length:Int)<;>simp[h1,h2,h3]
theorem PF(a b:ae)(ha:a.Args=[]):y0 a b=some (Li a b):=by
 refine wb (F:=xN) (λ_=>0) (λx=>x.1.Args=[]) (λx=>Li x.1 x.2) (λR x hx ih=>?_) (a,b) ha (kV (vaP _))
 obtain⟨u,v⟩:=x
 have hu:u.Args=[]:=hx
 show ry (λa a2=>R (a,a2)) u v=some (Li u v)
 unfold ry tZ ua Li
 rw[qF (x:=.inr ()) (by show lp _ u v (u.Args.length:Int) 0=_;unfold lp;rw[hu];rfl)]
 by_cases h1:u.Op=v.Op<;>by_cases h2:u.Name=v.Name<;>by_cases h3:(u.Args.length:Int)=(v.Args.length:Int)<;>simp[h1,h2,h3]
def QG(n:Int):Bool:=decide (n>=-1000000000000)&&decide (n<=1000000000000)
theorem XY(n:Int):IR n=some (QG n):=by unfold IR QG;cases decide (n>=-1000000000000)<;>rfl
theorem X1(n:Int):DJ n=some (QG n):=by unfold DJ QG;cases decide (n>=-1000000000000)<;>rfl
mutual
def Hd(m:al):aa->Int
 | ⟨op,n,nm,ks,ps,bd,bs⟩ =>
  if op<1\/op>5 then 1 else if op=5 then 12 else if(ps.isEmpty&&bd.isEmpty&&bs.isEmpty)=false then 1
  else if op=3 then
   if n≠0 then 1 else if(qC m nm).2.2=false then 5 else match cH (qC m nm).1.Cons (qC m nm).2.1 with
    |some c=>if(c.Fields.length:Int)≠(ks.length:Int)then 13 else Qj m c.Fields ks
    |none=>0
  else if nm≠[]\/ks≠[]then 1 else if(op=2/\n≠0/\n≠1)\/QG n=false then 2 else 0
def Qj(m:al):List ae->List aa->Int
 |f::fs,k::ks=>if Hd m k≠0 then Hd m k else if Li (qU m k) f=false then 12 else Qj m fs ks
 |_,_=>0
end
theorem KR(m:al)(v:aa):Hd m v=(if v.Op<1\/v.Op>5 then 1 else if v.Op=5 then 12 else if(v.Params.isEmpty&&v.Body.isEmpty&&v.Binds.isEmpty)=false then 1
  else if v.Op=3 then
   if v.N≠0 then 1 else if(qC m v.Name).2.2=false then 5 else match cH (qC m v.Name).1.Cons (qC m v.Name).2.1 with
    |some c=>if(c.Fields.length:Int)≠(v.Kids.length:Int)then 13 else Qj m c.Fields v.Kids
    |none=>0
  else if v.Name≠[]\/v.Kids≠[]then 1 else if(v.Op=2/\v.N≠0/\v.N≠1)\/QG v.N=false then 2 else 0):=by
 obtain⟨op,n,nm,ks,ps,bd,bs⟩:=v
 rw[Hd]
 rfl
def Ni(e:Int):Int⊕Unit:=if e=0 then .inr ()else .inl e
theorem Hr(m:al)(fs:List ae)(ks:List aa)(hl:fs.length=ks.length)(hn:ks.length<4611686018427387904)(body:Int->Option (Int⊕(Int⊕Unit)))
  (hin:∀(i:Nat) (h:i<ks.length) (h':i<fs.length),body (i:Int)=some (if Hd m ks[i]≠0 then .inr (.inl (Hd m ks[i]))else if Li (qU m ks[i]) fs[i]=false then .inr (.inl 12)else .inl (bw ((i:Int)+1)))) (hend:body (ks.length:Int)=some (.inr (.inr ()))):
  loop body 0=some (Ni (Qj m fs ks)):=by
 have key:∀k i,k+i=ks.length->loop body (i:Int)=some (Ni (Qj m (fs.drop i) (ks.drop i))):=by
  intro k
  induction k with
  | zero =>
   intro i hi
   obtain rfl:i=ks.length:=by omega
   rw[qF hend,vb2,Qj]
   ·rfl
   ·intro f fs' k' ks' _ h;cases h
  | succ k ih =>
   intro i hi
   have h1:i<ks.length:=by omega
   have h2:i<fs.length:=by omega
   rw[va6 h1,va6 h2,Qj]
   have hb:=hin i h1 h2
   by_cases c1:Hd m ks[i]≠0
   ·rw[vaD c1]at hb ⊢
    rw[qF hb]
    unfold Ni;rw[vay c1]
   ·rw[vay c1]at hb ⊢
    by_cases c2:Li (qU m ks[i]) fs[i]=false
    ·rw[vaD c2]at hb ⊢
     rw[qF hb]
     rfl
    ·rw[vay c2]at hb ⊢
     rw[bX (by omega) (by omega)]at hb
     rw[Nh hb,show((i:Int)+1)=((i+1:Nat):Int) by omega]
     exact ih (i+1) (by omega)
 exact key ks.length 0 (by omega)
theorem L7{m:al}(hm:TJ m){nm:ai}(h:(qC m nm).2.2=true):∃c,cH (qC m nm).1.Cons (qC m nm).2.1=some c/\c.Fields.length<4611686018427387904:=by
 unfold qC at h ⊢
 cases hc:Cc m nm with
 |none=>rw[hc]at h;cases h
 |some x=>
  obtain⟨d,j⟩:=x
  obtain⟨h1,h2⟩:=K8 hc
  exact⟨d.Cons[j],bu _ _ h2,hm.f d h1 _ (vaJ h2)⟩
theorem MY(e:Int){f:Int->Option Int}{g:Unit->Option Int}(h1:∀e,f e=some e)(h2:g ()=some 0):(some (Ni e)).bind (λo=>match o with
  |.inl o=>f o
  |.inr o=>g o)=some e:=by
 unfold Ni
 by_cases h:e=0
 ·subst h;simp[h2]
 ·simp[h,h1]
section
variable{m:al}(hm:TJ m)
include hm
theorem WG(v:aa)(hv:ce (ac v)<=mi):ma m v=some (Hd m v):=by
 refine wb (F:=qp) (λx=>ce (ac x.2)) (λx=>x.1=m/\ce (ac x.2)<=mi) (λx=>Hd x.1 x.2) (λR x hx ih=>?_) (m,v) ⟨rfl,hv⟩ (kV hv)
 obtain⟨m',v⟩:=x
 obtain⟨rfl,hv⟩:m'=m/\ce (ac v)<=mi:=hx
 show lI (λm v=>R (m,v)) m' v=some (Hd m' v)
 have hlen:=BS v
 rw[KR]
 unfold lI oO oP oQ oR oT
 by_cases c1:v.Op<1\/v.Op>5
 ·rw[vaD c1]
  by_cases h:v.Op<1
  ·simp[h]
  ·have:v.Op>5:=c1.resolve_left h
   simp[h,this]
 rw[vay c1]
 have d1:¬v.Op<1:=λh=>c1 (.inl h)
 have d2:¬v.Op>5:=λh=>c1 (.inr h)
 by_cases c2:v.Op=5
 ·simp[c2]
 rw[vay c2]
 by_cases c3:(v.Params.isEmpty&&v.Body.isEmpty&&v.Binds.isEmpty)=false
 ·rw[vaD c3]
  cases hp:v.Params<;>cases hb:v.Body<;>cases hbs:v.Binds<;>simp_all
  all_goals (split<;>simp_all<;>omega)
 rw[vay c3]
 have e3:v.Params=[]/\v.Body=[]/\v.Binds=[]:=by
  simp only[vbW,vae,vb3]at c3
  exact⟨c3.1.1,c3.1.2,c3.2⟩
 obtain⟨e31,e32,e33⟩:=e3
 by_cases c4:v.Op=3
 ·rw [vaD c4]
  have:sF (λm v=>R (m,v)) m' v=some (if v.N≠0 then 1 else if(qC m' v.Name).2.2=false then 5 else match cH (qC m' v.Name).1.Cons (qC m' v.Name).2.1 with
    |some c=>if(c.Fields.length:Int)≠(v.Kids.length:Int)then 13 else Qj m' c.Fields v.Kids
    |none=>0):=by
   unfold sF
   rw[TL hm]
   simp only[vab]
   by_cases g1:v.N=0
   ·simp only[g1,bne_self_eq_false,vaL,if_false,ne_eq,not_true_eq_false]
    cases g2:(qC m' v.Name).2.2 with
    |false=>simp
    | true =>
     obtain⟨c,hc,hf⟩:=L7 hm g2
     rw[hc]
     simp only[vco,vaL,if_false,vab,vcN]
     by_cases g3:c.Fields.length=v.Kids.length
     ·rw[vay (by simp[g3]),vay (by simp[g3])]
      unfold qv
      rw[Hr m' c.Fields v.Kids g3 (by rw[<-g3];exact hf) _ (λi h h'=>?_) ?_]
      ·exact MY _ (λ_=>rfl) rfl
      ·show fw (λm v=>R (m,v)) m' c.Fields v.Kids (v.Kids.length:Int) (v.Kids.length:Int)=_
       unfold fw
       rw[vay (by simp)]
      ·show fw (λm v=>R (m,v)) m' c.Fields v.Kids (v.Kids.length:Int) (i:Int)=_
       unfold fw
       have hk:=vaJ h
       have hr:R (m',v.Kids[i])=some (Hd m' v.Kids[i]):=ih (m',v.Kids[i]) (zS hk) ⟨rfl,by have:=zS hk;show ce (ac v.Kids[i])<=mi;omega⟩
       rw[vaD (by simpa using h),bu _ i h]
       simp only[vab]
       rw[hr]
       simp only[vab]
       rw[WH hm]
       simp only[vab]
       rw[bu _ i h']
       simp only[vab]
       rw[Py _ _ (yK m' _)]
       simp only[vab]
       by_cases q1:Hd m' v.Kids[i]=0
       ·simp only[q1,bne_self_eq_false,vaL,if_false,ne_eq,not_true_eq_false]
        cases Li (qU m' v.Kids[i]) c.Fields[i]<;>simp
       ·simp[q1]
     ·rw[vaD (show((c.Fields.length:Int)!=(v.Kids.length:Int))=true by simp;omega),vaD (show ¬((c.Fields.length:Int)=(v.Kids.length:Int)) by omega)]
   ·simp[g1]
  rw[this]
  simp[c4,e31,e32,e33]
 rw[vay c4]
 simp only[d1,d2,c2,c4,e31,e32,e33,decide_false,vaL,if_false,vab,List.length_nil,XY,vaY]
 by_cases c5:v.Name≠[]\/v.Kids≠[]
 ·rw[vaD c5]
  by_cases h:v.Name=[]
  ·have h2:v.Kids≠[]:=c5.resolve_left (λh'=>h' h)
   have h3:0<v.Kids.length:=vb8.2 h2
   simp[h,h3]
  ·simp[h]
 ·rw[vay c5]
  have h1:v.Name=[]:=Classical.not_not.1 λh=>c5 (.inl h)
  have h2:v.Kids=[]:=Classical.not_not.1 λh=>c5 (.inr h)
  by_cases g1:v.Op=2<;>by_cases g2:v.N=0<;>by_cases g3:v.N=1<;>cases g4:QG v.N<;>simp_all
theorem WI(v:aa)(hv:ce (ac v)<=mi):vW m v=some (Hd m v):=by
 refine wb (F:=uD) (λx=>ce (ac x.2)) (λx=>x.1=m/\ce (ac x.2)<=mi) (λx=>Hd x.1 x.2) (λR x hx ih=>?_) (m,v) ⟨rfl,hv⟩ (kV hv)
 obtain⟨m',v⟩:=x
 obtain⟨rfl,hv⟩:m'=m/\ce (ac v)<=mi:=hx
 show py (λm v=>R (m,v)) m' v=some (Hd m' v)
 have hlen:=BS v
 rw[KR]
 unfold py rG A2 rI
 by_cases c1:v.Op<1\/v.Op>5
 ·rw[vaD c1]
  by_cases h:v.Op<1
  ·simp[h]
  ·have:v.Op>5:=c1.resolve_left h
   simp[h,this]
 rw[vay c1]
 have d1:¬v.Op<1:=λh=>c1 (.inl h)
 have d2:¬v.Op>5:=λh=>c1 (.inr h)
 by_cases c2:v.Op=5
 ·simp[c2]
 rw[vay c2]
 by_cases c3:(v.Params.isEmpty&&v.Body.isEmpty&&v.Binds.isEmpty)=false
 ·rw[vaD c3]
  cases hp:v.Params<;>cases hb:v.Body<;>cases hbs:v.Binds<;>simp_all
  all_goals (split<;>simp_all<;>omega)
 rw[vay c3]
 have e3:v.Params=[]/\v.Body=[]/\v.Binds=[]:=by
  simp only[vbW,vae,vb3]at c3
  exact⟨c3.1.1,c3.1.2,c3.2⟩
 obtain⟨e31,e32,e33⟩:=e3
 have hJ:v.Op=3->kg v=some false:=λh=>by unfold kg;simp[h]
 by_cases c4:v.Op=3
 ·rw [vaD c4,hJ c4,TT hm]
  simp only[c4,e31,e32,e33,show decide ((3:Int)<1)=false from rfl,show decide ((3:Int)>5)=false from rfl,show((3:Int)==5)=false from rfl,show((3:Int)==3)=true from rfl,show((3:Int)!=3)=false from rfl,List.length_nil,show decide (((0:Nat):Int)>0)=false from rfl,vaL,if_false,vab,if_true]
  by_cases g1:v.N=0
  ·simp only[g1,bne_self_eq_false,vaL,if_false,ne_eq,not_true_eq_false,vab]
   cases g2:(qC m' v.Name).2.2 with
   |false=>simp
   | true =>
    obtain⟨c,hc,hf⟩:=L7 hm g2
    rw[hc]
    simp only[vco,vaL,if_false,vab,vcN]
    by_cases g3:c.Fields.length=v.Kids.length
    ·rw[vay (by simp[g3]),vay (by simp[g3])]
     unfold rH
     rw[Hr m' c.Fields v.Kids g3 (by rw[<-g3];exact hf) (λzz=>eU (λm v=>R (m,v)) m' v c.Fields zz) (λi h h'=>?_) ?_]
     ·unfold Ni
      by_cases hz:Qj m' c.Fields v.Kids=0<;>simp[hz]
     ·show eU (λm v=>R (m,v)) m' v c.Fields (v.Kids.length:Int)=_
      unfold eU
      rw[vay (by simp[g3])]
     ·show eU (λm v=>R (m,v)) m' v c.Fields (i:Int)=_
      unfold eU
      have hk:=vaJ h
      have hr:R (m',v.Kids[i])=some (Hd m' v.Kids[i]):=ih (m',v.Kids[i]) (zS hk) ⟨rfl,by have:=zS hk;show ce (ac v.Kids[i])<=mi;omega⟩
      rw[vaD (by simpa using h'),bu _ i h]
      simp only[vab]
      rw[hr]
      simp only[vab]
      rw[WJ hm]
      simp only[vab]
      rw[bu _ i h']
      simp only[vab]
      rw[PF _ _ (yK m' _)]
      simp only[vab]
      by_cases q1:Hd m' v.Kids[i]=0
      ·simp only[q1,bne_self_eq_false,vaL,if_false,ne_eq,not_true_eq_false]
       cases Li (qU m' v.Kids[i]) c.Fields[i]<;>simp
      ·simp[q1]
    ·rw[vaD (show((c.Fields.length:Int)!=(v.Kids.length:Int))=true by simp;omega),vaD (show ¬((c.Fields.length:Int)=(v.Kids.length:Int)) by omega)]
  ·simp[g1]
 rw[vay c4]
 by_cases c5:v.Name≠[]\/v.Kids≠[]
 ·rw[vaD c5]
  simp only[d1,d2,c2,c4,e31,e32,e33,decide_false,vaL,if_false,vab,List.length_nil,vaY]
  by_cases h:v.Name=[]
  ·have h2:v.Kids≠[]:=c5.resolve_left (λh'=>h' h)
   have h3:0<v.Kids.length:=vb8.2 h2
   simp[h,h3]
  ·simp[h]
 ·rw[vay c5]
  have h1:v.Name=[]:=Classical.not_not.1 λh=>c5 (.inl h)
  have h2:v.Kids=[]:=Classical.not_not.1 λh=>c5 (.inr h)
  unfold kg
  simp only[X1]
  by_cases g0:v.Op=1<;>by_cases g1:v.Op=2<;>by_cases g5:v.Op=4<;>by_cases g2:v.N=0<;>by_cases g3:v.N=1<;>cases g4:QG v.N<;>simp_all
  all_goals first|omega|(unfold QG at g4;simp at g4<;>omega)
end
end Go.Proofs.YtjddnhkahpfhdaaGreatDoor
namespace Go.Proofs.YtjddnhkahpfhdaaGreatDoor
open Go
set_option linter.unusedVariables false
set_option linter.unusedSimpArgs false
theorem DE(op:Int)(n:ai):Pa (Ub op n):=by
 refine⟨?_,(Eb _ _).2 ⟨?_,?_,?_⟩⟩
 ·show yr ⟨op,n,[],[],⟨0,[],0,[]⟩,[]⟩<=mi
  rw[yr];simp only[jc,List.length_nil];decide
 ·show nP ⟨0,[],0,[]⟩<=mi
  exact vax (show nP ⟨0,[],0,[]⟩<=1 by decide) (by decide)
 ·intro p hp;cases hp
 ·trivial
theorem PT(m:al)(v:aa):Pa (qU m v):=by
 unfold qU
 split
 ·exact DE _ _
 ·split
  ·exact DE _ _
  ·split<;>exact DE _ _
theorem RZ{m:al}{v:aa}(h:Hd m v=0):(if(v.Op==1)=true then true else if(v.Op==2)=true then true else if(v.Op==4)=true then true else(qC m v.Name).2.2)=true:=by
 rw[KR]at h
 split at h
 ·cases h
 rename_i c1
 split at h
 ·cases h
 rename_i c2
 split at h
 ·cases h
 split at h
 ·split at h
  ·cases h
  split at h
  ·cases h
  rename_i g
  simp only[vbW]at g
  rw[g]
  simp
 ·rename_i c4
  by_cases h1:v.Op=1<;>by_cases h2:v.Op=2<;>by_cases h4:v.Op=4<;>simp[h1,h2,h4]
  exfalso
  omega
theorem Sm(m:al)(h:ce (am m)<=1048576):TJ m:=by
 have h1:=E7 m
 have hd1:∀d:aN,1<=ce (ax d):=λd=>by rw[vw];omega
 have hc1:∀c:aH,1<=ce (aF c):=λc=>by rw[DH];omega
 have l1:=dZ ax hd1 m.Datas
 refine⟨by omega,λd hd=>?_,λd hd c hc=>?_⟩
 ·have l2:=pS ax hd
  have l3:=vw d
  have l4:=dZ aF hc1 d.Cons
  omega
 ·have l2:=pS ax hd
  have l3:=vw d
  have l4:=pS aF hc
  have l5:=DH c
  have l6:=dZ af E9 c.Fields
  omega
theorem J3(x0:al)(x1:aa)(x2:ae)(h:ce (am x0)+(ce (ac x1)+(ce (af x2)+0))<=1048576):mh x0 x1 x2=some true:=by
 have hm:TJ x0:=Sm x0 (by omega)
 have hv:ce (ac x1)<=mi:=by unfold mi;omega
 obtain⟨b0,e0,_⟩:=Q8 x0 (by unfold jL;omega)
 obtain⟨b1,e1⟩:=Sz x1 (by unfold jL;omega)
 obtain⟨r,e2,_⟩:=Rk ⟨0,[],0,[],[],[],[x2]⟩ 100 (by
  rw[vA]
  show 1+(([]:ai).length+1+(1+(aX (([]:List aq).map ak)+1+(aX (([]:List cV).map aQ)+1+(aX (([]:List fk).map bq)+1+(aX ([x2].map af)+1+0))))))<=jL
  simp only[vbO,vaQ,aX,List.length_nil]
  unfold jL;omega) (by omega) (by omega)
 have hJ:∃b,gy x0 x1 x2=some b:=by
  unfold gy
  rw[e0]
  cases b0 with
  |false=>exact⟨_,rfl⟩
  | true =>
   simp only[vab,vco,vaL,if_false]
   rw[e1]
   cases b1 with
   |false=>exact⟨_,rfl⟩
   |true=>
    simp only[vab,vco,vaL,if_false]
    rw[e2]
    exact⟨_,rfl⟩
 obtain⟨b,hb⟩:=hJ
 unfold mh
 rw[hb,KI]
 simp only[vab]
 cases b with
 |true=>rfl
 | false =>
  simp only[vaL,if_false]
  have hT:∃y:ae×Bool,lj x0 x1=some y/\uG x0 x1=some y/\Pa y.1/\y.1.Args=[]:=by
   unfold lj uG
   rw[WG hm x1 hv,WI hm x1 hv]
   simp only[vab]
   by_cases hc:Hd x0 x1=0
   ·rw[WH hm,WJ hm]
    simp only[hc,bne_self_eq_false,vaL,if_false,vab]
    rw[RZ hc]
    exact⟨_,rfl,rfl,PT _ _,yK _ _⟩
   ·have:(Hd x0 x1 !=0)=true:=by simpa using hc
    rw[vaD this,vaD this]
    exact⟨_,rfl,rfl,DE 0 [],rfl⟩
  obtain⟨y,h1,h2,h3,h4⟩:=hT
  have hf1:oU x0 x1 x2=some (y.2&&Li y.1 x2):=by
   unfold oU
   rw[h1]
   simp only[vab]
   rw[Py _ _ h4]
   cases y.2<;>rfl
  have hf2:zn x0 x1 x2=some (y.2&&Li y.1 x2):=by
   unfold zn
   rw[h2]
   simp only[vab]
   rw[PF _ _ h4]
   cases y.2<;>rfl
  rw[h1,h2,WG hm x1 hv,WI hm x1 hv,hf1,hf2]
  simp only[vab]
  rw[NM _ _ h3 h3]
  simp
end Go.Proofs.YtjddnhkahpfhdaaGreatDoor
