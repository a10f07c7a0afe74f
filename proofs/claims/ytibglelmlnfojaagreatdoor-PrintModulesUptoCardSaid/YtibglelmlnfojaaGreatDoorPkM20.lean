/- PROVED: a part of the proof. Conditions: none. -/
import Derived.Test.YtibglelmlnfojaaGreatDoorPkM19
import Derived.Test.YtibglelmlnfojaaGreatDoorPkM10
import Derived.Lib.ItoaLen
import Derived.Test.YtibglelmlnfojaaGreatDoorPkM8
set_option linter.unusedSimpArgs false set_option linter.defProp false
set_option linter.unusedVariables false
noncomputable section
namespace Go.Proofs.YtibglelmlnfojaaGreatDoor
open Go Go.Proofs.Tryz
open Option renaming some→O,none→N
open Go renaming TypeId→G,Value→D,Program→I,Oper→M,World→J,Code→W
open Bool renaming true→T,false→Z
open Decidable renaming decide→Y
open Go.Proofs.YtibglelmlnfojaaGreatDoor renaming PVal→U
set_option linter.unusedVariables false
set_option linter.defProp false
set_option maxRecDepth 100000
noncomputable def qte:W:=f16.body.getD .skip
def qsP:ZF Pg [] 16 f16 qte:=zf call16 func16 rfl mixed
section
variable(m:dt)(b:V jE)(c a:Int)(m2:ae)(d:K)
def BY:aF:=aM 107 [(1,.eptr (bo m)),(4,.bptr 1 0),(20,sl cq b),(21,.i6 c),(22,.i6 a)] [.dead,.cells [.str m2,.bool d] []] []
def M6(o:ae×K):aF:=aM 107 [(1,.eptr (bo m)),(4,.bptr 1 0)] [.dead,.cells [.str o.1,.bool o.2] []] []
instance qFm:KS 0 (BY m b c a m2 d):=ks 2 rfl
instance qFd{o:ae×Bool}:KS 0 (M6 m o):=ks 2 rfl
def M5:Q ((Int×ae×K)⊕(ae×K)):=if Y (a<c)then (bY b a).bind λi=>(jy i m2 d).bind λe=>(ac ([gk]:V ae) e.1 e.2).bind λh=>O (.inl (cz (a+1),h,e.2)) else O (.inr (m2,d))
def tP:Q (ae×K):=loop (λ(e:Int×ae×K)=>M5 b c e.1 e.2.1 e.2.2) (a,m2,d)
def Up:OL 0 (cA qte 119) (M5 b c a m2 d) (λ(o:Int×ae×K)=>BY m b c o.1 o.2.1 o.2.2) (λ_=>.exit 0) (M6 m) (BY m b c a m2 d):=qsP.lx<|tF (tb λn i=>tb λp e=>tb λq h=>tv (qpL.ia i)<|tv (qii n)<|tx qww<|tx (qeH n)<|tv (qeu n [])<|tc [1] (Lo _ e)<|tv (aP [gk] 1 rfl)<|tc [1] (ai _ h)<|tE)<|tE
def WL:=nu (s:=(a,m2,d)) λe=>Up m b c e.1 e.2.1 e.2.2
end
section
variable(m:dt)(b:V fI)(c a:Int)(m2:ae)(d:K)
def BZ:aF:=aM 107 [(1,.eptr (bo m)),(4,.bptr 1 0),(34,sl ce b),(35,.i6 c),(36,.i6 a)] [.dead,.cells [.str m2,.bool d] []] []
def M8(o:ae×K):aF:=aM 107 [(1,.eptr (bo m)),(4,.bptr 1 0)] [.dead,.cells [.str o.1,.bool o.2] []] []
instance qFn:KS 0 (BZ m b c a m2 d):=ks 2 rfl
instance qFe{o:ae×Bool}:KS 0 (M8 m o):=ks 2 rfl
def M7:Q ((Int×ae×K)⊕(ae×K)):=if Y (a<c)then (bY b a).bind λi=>(rN i m2 d).bind λe=>(ac ([gk]:V ae) e.1 e.2).bind λh=>O (.inl (cz (a+1),h,e.2)) else O (.inr (m2,d))
def tQ:Q (ae×K):=loop (λ(e:Int×ae×K)=>M7 b c e.1 e.2.1 e.2.2) (a,m2,d)
def Uq:OL 0 (cA qte 247) (M7 b c a m2 d) (λ(o:Int×ae×K)=>BZ m b c o.1 o.2.1 o.2.2) (λ_=>.exit 2) (M8 m) (BZ m b c a m2 d):=qsP.lx<|tF (tb λn i=>tb λp e=>tb λq h=>tv (qpM.ia i)<|tv (qet n)<|tx qwx<|tx (qcd n)<|tv (qbO n [])<|tc [1] (RA _ e)<|tv (aP [gk] 1 rfl)<|tc [1] (ai _ h)<|tE)<|tE
def WM:=nu (s:=(a,m2,d)) λe=>Uq m b c e.1 e.2.1 e.2.2
end
section
variable(m:dt)(b:V cW)(c a:Int)(m2:ae)(d:K)
def B3:aF:=aM 107 [(1,.eptr (bo m)),(4,.bptr 1 0),(48,sl aX b),(49,.i6 c),(50,.i6 a)] [.dead,.cells [.str m2,.bool d] []] []
def Na(o:ae×K):aF:=aM 107 [(1,.eptr (bo m)),(4,.bptr 1 0)] [.dead,.cells [.str o.1,.bool o.2] []] []
instance qFo:KS 0 (B3 m b c a m2 d):=ks 2 rfl
instance qFf{o:ae×Bool}:KS 0 (Na m o):=ks 2 rfl
def M9:Q ((Int×ae×K)⊕(ae×K)):=if Y (a<c)then (bY b a).bind λi=>(mi i m2 d).bind λe=>(ac ([gk]:V ae) e.1 e.2).bind λh=>O (.inl (cz (a+1),h,e.2)) else O (.inr (m2,d))
def tR:Q (ae×K):=loop (λ(e:Int×ae×K)=>M9 b c e.1 e.2.1 e.2.2) (a,m2,d)
def Ur:OL 0 (cA qte 503) (M9 b c a m2 d) (λ(o:Int×ae×K)=>B3 m b c o.1 o.2.1 o.2.2) (λ_=>.exit 4) (Na m) (B3 m b c a m2 d):=qsP.lx<|tF (tb λe n=>tb λp h=>tb λq i=>tv (qj3.ia n)<|tv (LW e)<|tx qtW<|tx (IY e)<|tv (SN e [])<|tc [1] (Lp _ h)<|tv (aP [gk] 1 rfl)<|tc [1] (ai _ i)<|tE)<|tE
def WN:=nu (s:=(a,m2,d)) λe=>Ur m b c e.1 e.2.1 e.2.2
end
section
variable(m:dt)(b:V dq)(c a:Int)(m2:ae)(d:K)
def B4:aF:=aM 107 [(1,.eptr (bo m)),(4,.bptr 1 0),(62,sl aZ b),(63,.i6 c),(64,.i6 a)] [.dead,.cells [.str m2,.bool d] []] []
def Nc(o:ae×K):aF:=aM 107 [(1,.eptr (bo m)),(4,.bptr 1 0)] [.dead,.cells [.str o.1,.bool o.2] []] []
instance qFp:KS 0 (B4 m b c a m2 d):=ks 2 rfl
instance qFg{o:ae×Bool}:KS 0 (Nc m o):=ks 2 rfl
def Nb:Q ((Int×ae×K)⊕(ae×K)):=if Y (a<c)then (bY b a).bind λi=>(j4 i m2 d).bind λe=>(ac ([gk]:V ae) e.1 e.2).bind λh=>O (.inl (cz (a+1),h,e.2)) else O (.inr (m2,d))
def tS:Q (ae×K):=loop (λ(e:Int×ae×K)=>Nb b c e.1 e.2.1 e.2.2) (a,m2,d)
def Us:OL 0 (cA qte 1015) (Nb b c a m2 d) (λ(o:Int×ae×K)=>B4 m b c o.1 o.2.1 o.2.2) (λ_=>.exit 6) (Nc m) (B4 m b c a m2 d):=qsP.lx<|tF (tb λe n=>tb λp h=>tb λq i=>tv (qpN.ia n)<|tv (Yg e)<|tx qsq<|tx (Vv e)<|tv (Vd e [])<|tc [1] (NQ _ h)<|tv (aP [gk] 1 rfl)<|tc [1] (ai _ i)<|tE)<|tE
def WO:=nu (s:=(a,m2,d)) λe=>Us m b c e.1 e.2.1 e.2.2
end
section
variable(m:dt)(b:V lG)(c a:Int)(m2:ae)(d:K)
def B5:aF:=aM 107 [(1,.eptr (bo m)),(4,.bptr 1 0),(76,sl cX b),(77,.i6 c),(78,.i6 a)] [.dead,.cells [.str m2,.bool d] []] []
def Nf(o:ae×K):aF:=aM 107 [(1,.eptr (bo m)),(4,.bptr 1 0)] [.dead,.cells [.str o.1,.bool o.2] []] []
instance qFq:KS 0 (B5 m b c a m2 d):=ks 2 rfl
instance qFh{o:ae×Bool}:KS 0 (Nf m o):=ks 2 rfl
def Nd:Q ((Int×ae×K)⊕(ae×K)):=if Y (a<c)then (bY b a).bind λi=>(oB i m2 d).bind λe=>(ac ([gk]:V ae) e.1 e.2).bind λh=>O (.inl (cz (a+1),h,e.2)) else O (.inr (m2,d))
def tT:Q (ae×K):=loop (λ(e:Int×ae×K)=>Nd b c e.1 e.2.1 e.2.2) (a,m2,d)
def Ut:OL 0 (cA qte 2039) (Nd b c a m2 d) (λ(o:Int×ae×K)=>B5 m b c o.1 o.2.1 o.2.2) (λ_=>.exit 8) (Nf m) (B5 m b c a m2 d):=qsP.lx<|tF (tb λe n=>tb λp h=>tb λq i=>tv (qpO.ia n)<|tv (qij e)<|tx qsr<|tx (qeI e)<|tv (qev e [])<|tc [1] (Tb _ h)<|tv (aP [gk] 1 rfl)<|tc [1] (ai _ i)<|tE)<|tE
def WP:=nu (s:=(a,m2,d)) λe=>Ut m b c e.1 e.2.1 e.2.2
end
section
variable(b:waH)(c a:Int)(m:ae)(m2:K)
def B6:aF:=aM 107 [(4,.bptr 1 0),(90,sl aV b),(91,.i6 c),(92,.i6 a)] [.dead,.cells [.str m,.bool m2] []] []
def Nh(o:ae×K):aF:=aM 107 [(4,.bptr 1 0)] [.dead,.cells [.str o.1,.bool o.2] []] []
instance qFr:KS 0 (B6 b c a m m2):=ks 2 rfl
instance qFi{o:ae×Bool}:KS 0 (Nh o):=ks 2 rfl
def Ng:Q ((Int×ae×K)⊕(ae×K)):=if Y (a<c)then (bY b a).bind λh=>(mI h m m2).bind λd=>(ac ([gk]:V ae) d.1 d.2).bind λe=>O (.inl (cz (a+1),e,d.2)) else O (.inr (m,m2))
def tU:Q (ae×K):=loop (λ(d:Int×ae×K)=>Ng b c d.1 d.2.1 d.2.2) (a,m,m2)
def Uu:OL 0 (cA qte 4087) (Ng b c a m m2) (λ(n:Int×ae×K)=>B6 b c n.1 n.2.1 n.2.2) (λ_=>.exit 10) Nh (B6 b c a m m2):=qsP.lx<|tF (tb λd i=>tb λo e=>tb λp h=>tv (R6.ia i)<|tv (Ao d)<|tx qpk<|tx (Qn d)<|tv (Qf d [])<|tc [1] (wU _ e)<|tv (aP [gk] 1 rfl)<|tc [1] (ai _ h)<|tE)<|tE
def WQ:=nu (s:=(a,m,m2)) λd=>Uu b c d.1 d.2.1 d.2.2
end
def Li(m:dt):Q (ae×Int):=(tP m.Datas (m.Datas.length:Int) 0 ([]:ae) Z).bind λi=>(tQ m.Classes (m.Classes.length:Int) 0 i.1 i.2).bind λa=>(tR m.Instances (m.Instances.length:Int) 0 a.1 a.2).bind λb=>(tS m.Measures (m.Measures.length:Int) 0 b.1 b.2).bind λc=>(tT m.Quals (m.Quals.length:Int) 0 c.1 c.2).bind λd=>(tU m.Defs (m.Defs.length:Int) 0 d.1 d.2).bind λe=>(lh e.1 e.2).bind λh=>O (h.1,h.2)
def qdi{m:dt}:OV 16 [.agg (bo m)] (Li m) (λr=>.tuple [.str r.1,.i6 r.2]) []:=qsP.v<|tb λs q=>tb λi a=>tb λn b=>tb λo c=>tb λp d=>tb λt e=>tb λw h=>te (L2 m)<|tv (oC)<|qls (p6 (⟨[],Z⟩:eY)) rfl<|tw (qI m)<|bz (qpL.ln m.Datas)<|bJ (WL m m.Datas (m.Datas.length:Int) 0 ([]:ae) Z _ q)<|tw (qJ m)<|bz (qpM.ln m.Classes)<|bJ (WM m m.Classes (m.Classes.length:Int) 0 s.1 s.2 _ a)<|tw (ll m)<|bz (qj3.ln m.Instances)<|bJ (WN m m.Instances (m.Instances.length:Int) 0 i.1 i.2 _ b)<|tw (qK m)<|bz (qpN.ln m.Measures)<|bJ (WO m m.Measures (m.Measures.length:Int) 0 n.1 n.2 _ c)<|tw (qL m)<|bz (qpO.ln m.Quals)<|bJ (WP m m.Quals (m.Quals.length:Int) 0 o.1 o.2 _ d)<|tw (qM m)<|bz (R6.ln m.Defs)<|bJ (WQ m.Defs (m.Defs.length:Int) 0 p.1 p.2 _ e)<|tc [1] (Be _ h)<|tE
noncomputable def qB1:W:=f18.body.getD .skip
def qBr:ZF Pg [] 18 f18 qB1:=zf call18 func18 rfl mixed
def ZR(d:d5):Q (ae×Int):=(mI d ([]:ae) Z).bind λa=>(lh a.1 a.2).bind λb=>O (b.1,b.2)
def qjb{d:d5}:OV 18 [.agg (aV d)] (ZR d) (λr=>.tuple [.str r.1,.i6 r.2]) []:=qBr.v<|tb λc a=>tb λe b=>te (Re d)<|tv (oC)<|qls (p6 (⟨[],Z⟩:eY)) rfl<|tv (Ao d)<|tc [1] (wU _ a)<|tc [1] (Be _ b)<|tE
noncomputable def b4:W:=Tryz.f4.body.getD .skip
def Z4:ZF Pg [] 4 Tryz.f4 b4:=zf call4 func4 rfl mixed
section
variable(m:dt)(d:d5)
def sT:Q K:=(uU m).bind λa=>if(!a)then O T else (xb d).bind λb=>O (!b)
def LF:OU 0 (cA b4 12) (sT m d) .normal (λo=>[(20,.bool o)]) (aM 63 [(2,.eptr (bo m)),(3,.eptr (aV d))] [.dead,.dead] []):=Z4.j<|
 tb λh b=>have a:=λ{X n p} (r:PV _ X n p)=>tv (Ty m)<|bQ (Td _ b)<|r;tf (λe=>a<|tg 4 e<|tE) λe=>tb λi c=>a<|tg 4 e<|tv (Ao d)<|bQ (Ni _ c)<|tE
end
def zu(m:dt)(d:d5):Q K:=(sT m d).bind λi=>if i then QS.bind λn=>O n else (xx m).bind λe=>(Li m).bind λh=>(Kd d).bind λa=>(ZR d).bind λb=>if (e.1 == h.1) = T then if (e.2 == h.2) = T then if(a.1==b.1)then if(a.2==b.2)then QS.bind λc=>O c else O Z else O Z else O Z else O Z
def RI{m:dt}{d:d5}:OV 4 [.agg (bo m),.agg (aV d)] (zu m d) (λr=>.bool r) []:=Z4.v<|
 tb λA q=>te (L2 m)<|te (Re d)<|ey 1<|bJ (LF m d _ q)<|tF (tb λB s=>bQ (UG _ s)<|tE)<|tb λE t=>tb λF w=>tb λx n=>tb λy o=>tv (Ty m)<|bQ (ND _ t)<|tv (Ty m)<|bQ (qdi _ w)<|tv (Ao d)<|bQ (VK _ n)<|tv (Ao d)<|bQ (qjb _ o)<|tf (λa=>tf (λe=>have b:=λ{X H L} (r:PV _ X H L)=>tg 4 a<|tg 9 e<|r;tf (λh=>have c:=λ{X H L} (r:PV _ X H L)=>b<|tg 14 h<|r;tf (λi=>tb λz p=>c<|tg 19 i<|bQ (UG _ p)<|tE) λi=>c<|tg 19 i<|tE) λh=>b<|tg 14 h<|tE) λe=>tg 4 a<|tg 9 e<|tE) λa=>tg 4 a<|tE
open Go
def fa{σ X:Type}(n:Nat)(a:σ->Q (σ⊕X))(S:Nat->σ)(e:X)(c:∀i,i<n->a (S i)=O (.inl (S (i+1))))(b:a (S n)=O (.inr e)):loop a (S 0)=O e:=by
 have d:∀k i,k+i=n->loop a (S i)=O e:=by
  intro k;induction k with
  |zero=>
   intro i h;have:i=n:=by omega
   subst this;exact dW b
  |succ k ih=>intro i h;rw[mV (c i (by omega))];exact ih (i+1) (by omega)
 exact d n 0 (by omega)
set_option linter.unusedSimpArgs false
def T7(a:K)(n:Nat):Int:=if a then -(n:Int)else n
def qpw(a:K)(n k:Nat)(b:0<k):re (T7 a n) (k:Int)=O (T7 a (n % k)):=by unfold re;rw[hG (by omega)];cases a with|false=>simp only[T7,m5,if_false];rw[vcp (by omega)];rfl|true=>simp only[T7,if_true];rw[Int.neg_tmod,vcp (by omega)];rfl
def qpr(a:K)(n k:Nat)(c:0<k)(d:n<4000000000000000000):qu .i64 (T7 a n) (k:Int)=O (T7 a (n / k)):=by unfold qu;rw[hG (by omega)];have b:n / k<=n:=Nat.div_le_self n k;cases a with|false=>simp only[T7,m5,if_false];rw[vcq (by omega),show((n:Int) / (k:Int))=((n / k:Nat):Int)from rfl];generalize n / k=q at b;exact mx O (dj (by omega) (by omega))|true=>simp only[T7,if_true];rw[Int.neg_tdiv,vcq (by omega),show((n:Int) / (k:Int))=((n / k:Nat):Int)from rfl];generalize n / k=q at b;exact mx O (dj (by omega) (by omega))
def qr5(a:K)(d:Nat)(b:d<10000):(if Y (T7 a d<0)then O (IntKind.i64.wrap (0 - T7 a d))else O (T7 a d))=O (d:Int):=by
 cases a with
 |false=>simp only[T7,m5,if_false];rw[hG (by simp)]
 | true =>
  simp only[T7,if_true];by_cases h:d=0;.subst h;rfl
  .rw[hU (by simp;omega),show(0:Int) - -(d:Int)=d by omega];exact mx O (dj (by omega) (by omega))
def qsC(a:K)(n:Nat)(h:n≠0):(T7 a n !=0)=true:=by cases a<;>simp[T7]<;>omega
def qln(a:K):(T7 a 0 !=0)=false:=by cases a<;>rfl
def qzJ(d:Nat)(h:d<10):j6 ([IntKind.u8.wrap (cz (48+(d:Int)))]:V Int)=O [UInt8.ofNat (48+d)]:=by
 have a:IntKind.u8.wrap (cz (48+(d:Int)))=((48+d:Nat):Int):=by
  rw[dj (by omega) (by omega)];have b:(48:Int)+(d:Int)=((48+d:Nat):Int):=by omega
  rw[b];generalize c:48+d=q;have:q<58:=by omega
  show((q:Int) % 256)=q;omega
 rw[a];simp only[j6];rw[hU (by omega)];rfl
def qcP(b:K):∀(k n:Nat)(a:ae),n<=k->n<4000000000000000000->a.length+n<=4611686018427387903->AO a (T7 b n)=O (if n=0 then a else Lib.decDigits n++a)
 |k,0,a,_,_,_=>by unfold AO;refine dW ?_;simp only[oX];rw[hG (by rw[qln];simp)];rfl
 |0,n+1,_,h,_,_=>absurd h (by omega)
 | k + 1,n + 1,a,hk,hn,ha => by
  have o:oX a (T7 b (n+1))=O (.inl (UInt8.ofNat (48+(n+1) % 10)::a,T7 b ((n+1) / 10))):=by simp only[oX];rw[hU (qsC b (n+1) (by omega))];have c:=qpw b (n+1) 10 (by omega);have d:=qpr b (n+1) 10 (by omega) hn;have m:Ow (T7 b ((n+1) % 10))=O (((n+1) % 10:Nat):Int):=qr5 b _ (by omega);rw[show((10:Nat):Int)=10 from rfl]at c d;rw[c];simp only[hN];rw[m];simp only[hN];rw[qzJ _ (by omega)];simp only[hN];rw[iH (by simp;omega),d];rfl
  unfold AO;refine(mV (body:=λi:ae×Int=>oX i.1 i.2) (s:=(a,T7 b (n+1))) (s':=(UInt8.ofNat (48+(n+1) % 10)::a,T7 b ((n+1) / 10))) o).trans ?_;have e:=qcP b k ((n+1) / 10) (UInt8.ofNat (48+(n+1) % 10)::a) (by omega) (by omega) (by simp;omega);unfold AO at e;rw[e,hG (by omega:¬n+1=0)];conv=>rhs;rw[Lib.decDigits]
  by_cases h:n+1<10;.rw[dif_pos h,hU (by omega),vcG h];rfl
  .rw[dif_neg h,hG (by omega)];simp
abbrev qqd(n:Int):Prop:=-1000000000000<=n/\n<=1000000000000
def qpR(n:Int):n=T7 (Y (n<0)) n.natAbs:=by
 unfold T7;by_cases h:n<0;.rw[hU (by simpa using h)];omega
 .rw[hG (by simpa using h)];omega
def qnY(u:Nat):(Lib.decDigits u).length<=u+1:=by
 induction u using Nat.strongRecOn with
 | _ u ih =>
  rw[Lib.decDigits];by_cases h:u<10;.rw[dif_pos h];simp
  .rw[dif_neg h];have:=ih (u / 10) (by omega);simp;omega
def qj0{n:Int}(h:qqd n):Ov n=O (Lib.itoa n):=by
 unfold Ov Lib.itoa;by_cases b:n=0;.subst b;rw[hU (by rfl),hG (by omega)];rw[Lib.decDigits];rfl
 rw[hG (by simpa using b)];have c:=qcP (Y (n<0)) n.natAbs n.natAbs [] (m7 _) (by omega) (by simp;omega);rw[<-qpR]at c;rw[c];simp only[hN];rw[hG (by omega:¬n.natAbs=0)];have:=qnY n.natAbs;by_cases a:n<0;.rw[hU (by simpa using a),hU a,vh,iH (by simp;omega)];rfl
 .rw[hG (by simpa using a),hG a,vh,show n.natAbs=n.toNat by omega]
def W1{n:Int}(h:qqd n):qbD n=O (Lib.itoa n):=by unfold qbD;rw[hU (by simp;omega)]
def WY:Nat->Nat->List Nat|0,_=>[]|k+1,n=>if n=0 then[]else n % 10000::WY k (n / 10000)
abbrev qn0(k n:Nat):V Int:=(WY k n).map λ(d:Nat)=>(d:Int)
def qfV:∀(k n:Nat),(WY k n).length<=k
 |0,_=>m7 _
 | k + 1,n => by
  rw[WY];split;.simp
  .simp only[vz];exact Nat.succ_le_succ (qfV k _)
def qkY(a:K):∀(k n:Nat)(v:List Int),n<10000 ^ k->n<4000000000000000000->v.length+k<=1000->Jr (T7 a n) v=O (v++qn0 k n)
 |k,0,v,_,_,_=>by unfold Jr;refine dW ?_;simp only[vK];rw[hG (by rw[qln];simp)];cases k<;>simp[qn0,WY]
 |0,n+1,_,h,_,_=>by simp at h
 | k + 1,n + 1,v,hk,hn,hv => by
  have m:vK (T7 a (n+1)) v=O (.inl (T7 a ((n+1) / 10000),v++[(((n+1) % 10000:Nat):Int)])):=by simp only[vK];rw[hU (qsC a (n+1) (by omega))];have b:=qpw a (n+1) 10000 (by omega);have c:=qpr a (n+1) 10000 (by omega) hn;have i:Wp (T7 a ((n+1) % 10000))=O (((n+1) % 10000:Nat):Int):=qr5 a _ (by omega);rw[show((10000:Nat):Int)=10000 from rfl]at b c;rw[b];simp only[hN];rw[i];simp only[hN];rw[qE (by simp;omega)];simp only[hN];rw[c];rfl
  unfold Jr;refine(mV (body:=λe:Int×List Int=>vK e.1 e.2) (s:=(T7 a (n+1),v)) (s':=(T7 a ((n+1) / 10000),v++[(((n+1) % 10000:Nat):Int)])) m).trans ?_;have d:=qkY a k ((n+1) / 10000) (v++[(((n+1) % 10000:Nat):Int)]) (by rw[Nat.pow_succ]at hk;omega) (by omega) (by simp;omega);unfold Jr at d;rw[d];simp[qn0,WY]
def qwk{n:Int}(h:qqd n):qe9 n=O ⟨Y (n<0),qn0 4 n.natAbs⟩:=by unfold qe9;have a:=qkY (Y (n<0)) 4 n.natAbs [] (by omega) (by omega) (by simp);rw[<-qpR]at a;rw[a];rfl
def qfW:∀(k n:Nat),∀d∈WY k n,d<10000
 |0,_=>λd a=>nomatch a
 | k + 1,n => fun d a => by
  rw[WY]at a;split at a;.cases a
  .rcases oL.1 a with rfl|a;.omega
   .exact qfW k _ d a
def qhL:∀(k n:Nat),n<10000 ^ k->∀(h:WY k n≠[]),(WY k n).getLast h≠0
 |0,_,_,h=>absurd rfl h
 | k + 1,n,hn,h => by
  by_cases c:n=0;.exact absurd (by rw[WY,hU c]) h
  have e:WY (k+1) n=n % 10000::WY k (n / 10000):=by rw[WY,hG c]
  have d:n / 10000<10000 ^ k:=by rw[Nat.pow_succ]at hn;omega
  refine(λb:∀(l:List Nat)(i:l≠[]),l=n % 10000::WY k (n / 10000)->l.getLast i≠0=>b _ h e) ?_;intro l i m;subst m;by_cases a:WY k (n / 10000)=[]
  .have o:n / 10000=0:=by
    rcases k with _|k
    .simpa using d
    .rw[WY]at a
     split at a
     .assumption
     .cases a
   simp only[a,List.getLast_singleton]
   omega
  .rw[List.getLast_cons a];exact qhL k _ d a
def qp2(a:K)(k n:Nat)(t:k<=200)(m:n<10000 ^ k)(o:n=0->a=Z):Js ⟨a,qn0 k n⟩=O true:=by
 have h:=qfV k n;have p:Du ⟨a,qn0 k n⟩ ((qn0 k n).length:Int)=O false:=by
  simp only[Du];rw[hG (by simp;omega)];by_cases b:WY k n=[]
  .have d:n=0:=by
    rcases k with _|k
    .simpa using m
    .rw[WY]at b
     split at b
     .assumption
     .cases b
   rw[hU (by simp[b]),hG (by simp[o d]),hG (by simp[b])]
  .have w:0<(WY k n).length:=vbM.2 b;rw[hG (by simp;omega),hU (by simp;omega)];have c:cz (((qn0 k n).length:Int) - 1)=(((WY k n).length - 1:Nat):Int):=by rw[dj (by simp;omega) (by simp;omega)];simp;omega
   rw[c,aC _ _ (by simp;omega)];have e:=qhL k n m b;rw[List.getLast_eq_getElem]at e;simp only[hN,vbO];simp[e]
 unfold Js;rw[p];simp only[hN,m5,if_false];have r:Dw ⟨a,qn0 k n⟩ ((qn0 k n).length:Int) 0=O (.inr ()):=by
  unfold Dw;refine fa (WY k n).length _ (λi=>(i:Int)) _ (λi c=>?_) ?_
  .simp only[wA];rw[hU (by simp;omega)];have s:=qfW k n _ (m4 c);have q:Dv ⟨a,qn0 k n⟩ (i:Int)=O false:=by simp only[Dv];rw[aC _ _ (by simpa using c)];simp only[hN,vbO];rw[hG (by simp)];simp;omega
   rw[q];simp only[hN,m5,if_false];rw[dj (by omega) (by omega),show((i:Int)+1)=((i+1:Nat):Int) by omega]
  .simp only[wA];rw[hG (by simp)]
 rw[r];rfl
abbrev cD(q:Nat):UInt8:=UInt8.ofNat (48+q)
def qrT:∀q:Nat,q<10->XK ([48,49,50,51,52,53,54,55,56,57]:ae) (O (q:Int)) (O (cz ((q:Int)+1)))=O [cD q]:=by intro q a;rw[dj (by omega) (by omega),show((q:Int)+1)=((q+1:Nat):Int) by omega];match q,a with|0,_|1,_|2,_|3,_|4,_|5,_|6,_|7,_|8,_|9,_=>rfl
def d4(d:Nat):ae:=[cD (d / 1000),cD (d / 100 % 10),cD (d / 10 % 10),cD (d % 10)]
theorem qz3(n k:Nat)(a:0<k)(b:n<10000):qu .i64 (n:Int) (k:Int)=some ((n / k:Nat):Int):=qpr false n k a (by omega)
theorem qz6(n k:Nat)(a:0<k):re (n:Int) (k:Int)=some ((n % k:Nat):Int):=qpw false n k a
def qri(d:Nat)(a:d<10000):Ub (d:Int)=O (d4 d):=by have b:=qz3 d 1000 (by omega) a;have c:=qz3 d 100 (by omega) a;have e:=qz3 d 10 (by omega) a;have h:=qz6 (d / 100) 10 (by omega);have i:=qz6 (d / 10) 10 (by omega);have m:=qz6 d 10 (by omega);rw[show((1000:Nat):Int)=1000 from rfl]at b;rw[show((100:Nat):Int)=100 from rfl]at c;rw[show((10:Nat):Int)=10 from rfl]at e h i m;unfold Ub;simp only[b,c,e,h,i,m,hN,qrT _ (show d / 1000<10 by omega),qrT _ (show d / 100 % 10<10 by omega),qrT _ (show d / 10 % 10<10 by omega),qrT _ (show d % 10<10 by omega)];rw[iH (by simp)];simp only[hN];rw[iH (by simp)];simp only[hN];rw[iH (by simp)];rfl
def qbi(l:V Nat):ae:=l.foldr (λd s=>s++d4 d) []
def qbj:∀(l:List Nat),(qbi l).length=4 * l.length
 |[]=>rfl
 |d::l=>by show(qbi l++d4 d).length=_;simp[qbj l,d4];omega
def qrX(l:V Nat)(m:l.length<=200)(c:∀d∈l,d<10000):Ox (l.map λ(d:Nat)=>(d:Int)) ([]:ae) (cz (((l.map λ(d:Nat)=>(d:Int)).length:Int) - 1))=O (qbi l):=by
 rw[dj (by simp;omega) (by simp;omega)];unfold Ox;have a:=fa l.length (λb:ae×Int=>tJ (l.map λ(d:Nat)=>(d:Int)) b.1 b.2) (λi=>(qbi (l.drop (l.length - i)),((l.length:Int) - i) - 1)) (qbi l) (λi h=>?_) ?_;.rw[<-a];simp[qbi]
 .simp only[tJ];rw[hU (by simp;omega),show((l.length:Int) - (i:Int)) - 1=((l.length - (i+1):Nat):Int) by omega,aC _ _ (by simp;omega)];simp only[hN,vbO];rw[qri _ (c _ (m4 _))];simp only[hN];rw[iH (by rw[qbj];simp[d4];omega)];simp only[hN];have e:l.drop (l.length - (i+1))=l[l.length - (i+1)]::l.drop (l.length - i):=by rw[vaD (by omega),show l.length - (i+1)+1=l.length - i by omega]
  rw[e,dj (by omega) (by omega)];refine mx O (mx Sum.inl (Prod.ext rfl ?_));show(((l.length - (i+1):Nat):Int)) - 1=((l.length:Int) - ((i+1:Nat):Int)) - 1;omega
 .simp only[tJ];rw[hG (by simp)];simp
def dv(s:ae):Nat:=s.foldl (λv c=>10 * v+(c.toNat - 48)) 0
def qxc(s:ae):Prop:=∀c∈s,48<=c.toNat/\c.toNat<=57
def U0(s:ae)(c:UInt8):dv (s++[c])=10 * dv s+(c.toNat - 48):=by unfold dv;rw[vcz];rfl
def qrb(s:ae):∀a:Nat,s.foldl (λv c=>10 * v+(c.toNat - 48)) a=a * 10 ^ s.length+dv s:=by
 induction s with
 |nil=>intro a;simp[dv]
 |cons c s ih=>
  intro a;unfold dv;simp only[List.foldl_cons,vz];rw[ih,ih (10 * 0+_),Nat.pow_succ,Nat.mul_zero,ve,vbr];have:a * (10 ^ s.length * 10)=10 * a * 10 ^ s.length:=by rw[vcL (10 ^ s.length) 10,<-Nat.mul_assoc,vcL a 10]
  omega
def qrc(s:ae):dv (48::s)=dv s:=by show s.foldl _ (10 * 0+(48 - 48))=_;rw[show(10 * 0+(48 - 48):Nat)=0 from rfl];rfl
def qtG{c:UInt8}{s:ae}(a:48<c.toNat):1<=dv (c::s):=by show 1<=s.foldl _ (10 * 0+(c.toNat - 48));rw[qrb];have:1<=(10 * 0+(c.toNat - 48)) * 10 ^ s.length:=Nat.mul_pos (by omega) (Nat.pow_pos (by omega));omega
def qhJ:∀(n:Nat)(s:ae),s.length=n->s≠[]->qxc s->(1<s.length->s.head?≠O 48)->s=Lib.decDigits (dv s)
 |0,s,hl,h,_,_=>absurd (vaw hl) h
 | n + 1,s,hl,h,hd,hh => by
  obtain⟨t,c,rfl⟩:∃t c,s=t++[c]:=⟨s.dropLast,s.getLast h,(vbT h).symm⟩
  have r:=hd c (by simp);rw[U0];cases t with
  |nil=>rw[Lib.decDigits,show dv []=0 from rfl,dif_pos (by omega)];rw[show 48+(10 * 0+(c.toNat - 48))=c.toNat by omega];simp
  | cons a t =>
   have d:a≠48:=λe=>hh (by simp) (by simp[e]);have o:=hd a (by simp);have b:48<a.toNat:=by
    rcases Nat.lt_or_ge 48 a.toNat with h|h;.exact h
    .exact absurd (vcQ.1 (by rw[show(48:UInt8).toNat=48 from rfl];omega)) d
   have q:=qhJ n (a::t) (by simpa using hl) (by simp) (λx p=>hd x (vaU _ p)) (λ_=>by simpa using d);have w:=qtG (s:=t) b;rw[Lib.decDigits,dif_neg (by omega)];have i:(10 * dv (a::t)+(c.toNat - 48)) / 10=dv (a::t):=by omega
   have m:(10 * dv (a::t)+(c.toNat - 48)) % 10=c.toNat - 48:=by omega
   rw[i,m,<-q,show 48+(c.toNat - 48)=c.toNat by omega];simp
def qCV{c:UInt8}(e:((c.toNat:Int)==48)=T):c=48:=by
 have h:(c.toNat:Int)=48:=by simpa using e
 exact vcQ.1 (by rw[show(48:UInt8).toNat=48 from rfl];omega)
def qcK:∀(n:Nat)(s:ae),s.length=n->s.length<=1000->s≠[]->qxc s->vM s=O (Lib.decDigits (dv s))
 |0,s,hl,_,h,_=>absurd (vaw hl) h
 |n+1,[],_,_,h,_=>absurd rfl h
 | n + 1,c :: s,hl,hm,h,hd => by
  unfold vM;by_cases b:c=48/\s≠[]
  .obtain⟨rfl,d⟩:=b;have o:0<s.length:=vbM.2 d;refine(mV (s':=s) ?_).trans ?_;.show oY (48::s)=_;simp only[oY,G5];rw[hU (by simp;omega),mT];simp only[hN];rw[hU (by rfl)];have:=Kz (48::s) 1 (by simp);rw[show((1:Nat):Int)=1 from rfl]at this;rw[this];rfl
   .have i:=qcK n s (by simpa using hl) (by simp at hm;omega) d (λx p=>hd x (vaP _ p));unfold vM at i;rw[i,qrc]
  .rw[<-qhJ (n+1) (c::s) hl h hd (λa m=>b ⟨by simpa using m,λe=>by subst e;simp at a⟩)];refine dW ?_;show oY (c::s)=_;simp only[oY,G5];by_cases a:s=[]
   .subst a;rw[hG (by simp)];rfl
   .have o:0<s.length:=vbM.2 a;rw[hU (by simp;omega),mT];simp only[hN];have:¬((c.toNat:Int)==48)=true:=λe=>b ⟨qCV e,a⟩;rw[hG this]
def qbh(q:Nat)(h:q<10):(cD q).toNat=48+q:=by show(UInt8.ofNat (48+q)).toNat=_;rw[vc3];omega
def qtF(d:Nat)(b:d<10000):qxc (d4 d):=by intro c a;simp only[d4,oL,vaW,or_false]at a;rcases a with rfl|rfl|rfl|rfl<;>rw[qbh _ (by omega)]<;>omega
def qv7(s:ae)(d:Nat)(a:d<10000):dv (s++d4 d)=10000 * dv s+d:=by show dv (s++[cD (d / 1000),cD (d / 100 % 10),cD (d / 10 % 10),cD (d % 10)])=_;rw[show s++[cD (d / 1000),cD (d / 100 % 10),cD (d / 10 % 10),cD (d % 10)]=(((s++[cD (d / 1000)])++[cD (d / 100 % 10)])++[cD (d / 10 % 10)])++[cD (d % 10)] by simp];rw[U0,U0,U0,U0,qbh _ (by omega),qbh _ (by omega),qbh _ (by omega),qbh _ (by omega)];omega
def qhE:∀(l:List Nat),(∀d∈l,d<10000)->qxc (qbi l)
 |[],_=>λc a=>nomatch a
 | d :: l,h => fun c a => by
  rcases vaQ.1 a with a|a;.exact qhE l (λx b=>h x (vaP _ b)) c a
  .exact qtF d (h d (by simp)) c a
def qjq:∀(k n:Nat),n<10000 ^ k->dv (qbi (WY k n))=n
 |0,n,h=>by simp at h;subst h;rfl
 | k + 1,n,h => by
  rw[WY];by_cases a:n=0;.rw[hU a,a];rfl
  .rw[hG a];show dv (qbi (WY k (n / 10000))++d4 (n % 10000))=n;rw[qv7 _ _ (by omega),qjq k (n / 10000) (by rw[Nat.pow_succ]at h;omega)];omega
def VT{n:Int}(h:qqd n):EQ n=O (Lib.itoa n):=by
 unfold EQ;rw[qwk h];simp only[hN];have d:n.natAbs<10000 ^ 4:=by omega
 have o:=qp2 (Y (n<0)) 4 n.natAbs (by omega) d (λb=>by simp;omega);have m:=qfV 4 n.natAbs;unfold qaj S1;rw[o];simp only[hN,vbf,m5,if_false];rw[qrX _ (by omega) (qfW 4 n.natAbs)];simp only[hN];unfold Lib.itoa;by_cases b:n=0
 .subst b;rw[hG (by omega),show qbi (WY 4 (0:Int).natAbs)=([]:ae)from rfl];have:vM ([]:ae)=O ([]:ae):=by unfold vM;exact dW rfl
  rw[this];simp only[hN];rw[hU (by rfl),Lib.decDigits];rfl
 have i:qbi (WY 4 n.natAbs)≠[]:=by intro e;have:=qjq 4 n.natAbs d;rw[e]at this;exact b (by have:n.natAbs=0:=this.symm;omega)
 rw[qcK _ _ rfl (by rw[qbj];omega) i (qhE _ (qfW 4 n.natAbs)),qjq 4 _ d];simp only[hN];have p:Lib.decDigits n.natAbs≠[]:=by rw[Lib.decDigits];split<;>simp
 have c:¬(Lib.decDigits n.natAbs==([]:ae))=true:=λe=>p (by simpa using e);rw[hG c];unfold K3;rw[o];simp only[hN,if_true];have q:=qnY n.natAbs;by_cases a:n<0;.rw[hU (by simpa using a),hU a,iH (by simp;omega)];rfl
 .rw[hG (by simpa using a),hG a,show n.natAbs=n.toNat by omega];rfl
def qok{n:Int}(h:qqd n):(Lib.itoa n).length<=21:=Lib.itoa_length_le n (by omega) (by omega)
def SK(l:V ae)(s:ae):Int:=match l.findIdx? (λx=>x==s)with|some j=>(j:Int)|none=>-1
def OI(l:V ae)(s:ae)(a:l.length<9223372036854775808):OE l s=O (SK l s):=by
 unfold OE OF
 have:=qex l a (λb=>tL l s l.length b) (λx=>x==s) (λj=>Sum.inl (j:Int)) (Sum.inr ()) (λi h=>by
  simp only[tL];rw[hU (by simp;omega),aC _ i h];simp only[hN];split<;>simp_all) (by simp only[tL];rw[hG (by simp)])
 rw[this];unfold SK;cases l.findIdx? (λx=>x==s)<;>rfl
def qf7(l:List ae)(s:ae):Y (SK l s>=0)=l.any λk=>k==s:=by
 unfold SK;cases h:l.findIdx? (λx=>x==s)with
 |none=>rw[vbz]at h;symm;simp only[vbk];rw[show Y ((-1:Int)>=0)=Z from rfl];simp only[vbk,vc8];exact h
 | some j =>
  have a:l.any (λx=>x==s)=true:=by have:=List.findIdx?_isSome (xs:=l) (p:=λx=>x==s);rw[h]at this;exact this.symm
  rw[a];simp
def qey{α:Type}(k:ae)(v:α)(j:ae):∀(m:List (ae×α)),Qg (Zl m k v) j=if(j==k)then O v else Qg m j
 |[]=>by simp only[Zl,Qg,List.find?_cons,List.find?_nil];cases(j==k)<;>rfl
 | e :: r => by
  have b:=qey k v j r;unfold Zl;by_cases h:(k==e.1)=T
  .have c:k=e.1:=by simpa using h
   rw[hU h];unfold Qg;simp only[List.find?_cons];rw[<-c];cases a:(j==k)<;>simp
  .rw [hG h];unfold Qg at b ⊢;simp only[List.find?_cons];cases a:(j==e.1);.simpa using b
   .have:¬(j==k)=true:=λn=>h (by
      have d:j=e.1:=by simpa using a
      have i:j=k:=by simpa using n
      simp[<-d,<-i])
    simp[this]
def eV(c:Int):K:=Y (97<=c)&&Y (c<=122)
def mU(c:Int):K:=Y (65<=c)&&Y (c<=90)
def SM(c:Int):K:=Y (48<=c)&&Y (c<=57)
def xp(c:Int):qS c=O (eV c):=by unfold qS eV;split<;>simp_all<;>omega
def J2(c:Int):um c=O (mU c):=by unfold um mU;split<;>simp_all<;>omega
def FH(c:Int):v8 c=O (SM c):=by unfold v8 SM;split<;>simp_all<;>omega
def rK(c:Int):mH c=O (eV c):=by unfold mH eV;split<;>simp_all<;>omega
def EM(c:Int):np c=O (mU c):=by unfold np mU;split<;>simp_all<;>omega
def Dx(c:Int):rJ c=O (SM c):=by unfold rJ SM;split<;>simp_all<;>omega
def nG(b:UInt8):K:=eV b.toNat||SM b.toNat||(b.toNat:Int)==95
def kR(b:UInt8):K:=eV b.toNat||mU b.toNat||SM b.toNat
def rE(s:ae):K:=Y ((s.length:Int)>=1)&&Y ((s.length:Int)<=24)
def qsj(s:ae):K:=eB.any λk=>k==s
def kQ(p:Int->K)(s:ae):K:=match s with|[]=>Z|c::_=>p c.toNat
abbrev qg8(s:ae):Prop:=s.length<9223372036854775808
def FJ(s:ae):wa s=O (rE s):=by
 unfold wa rE;by_cases h:(s.length:Int)>=1;.rw[hU (tr h),tr h];rfl
 .rw[hG (by simpa using h),decide_eq_false h];rfl
def Xe(s:ae):Ar s=O (qsj s):=by
 unfold Ar zE;have a:eB.length=42:=rfl
 have:=qQ eB (by rw[a];omega) (λb=>j8 s b) (λk=>k==s) (Sum.inl ()) (Sum.inr ()) (λi h=>by
  rw[a]at h;simp only[j8];rw[hU (by simp;omega),aC _ i (by rw[a];omega)];simp only[hN];split<;>simp_all) (by simp only[j8];rw[hG (by rw[a];simp)]) 0 (w0 _)
 simp only[Int.ofNat_zero,vbl]at this;rw[this];unfold qsj;cases eB.any (λk=>k==s)<;>rfl
def YP:K4=O eB:=rfl
def qap(s:ae):vO s=O (qsj s):=by unfold vO;have a:eB.length=42:=rfl;rw[YP];simp only[hN];rw[OI _ _ (by rw[a];omega)];simp only[hN,qf7];rfl
def zB(s:ae):K:=rE s&&kQ eV s&&!qsj s&&s.all nG
def rU(s:ae):K:=rE s&&kQ mU s&&s.all kR&&!(s==[73,110,116])&&!(s==[66,111,111,108])&&!(s==[67,101,108,108])&&!(s==[70,117,110])
def Nk(b:K):Int:=if b then 0 else 3
def XJ{s:ae}(h:rE s=T):∃c r,s=c::r:=by cases s with|nil=>simp[rE]at h|cons c r=>exact⟨c,r,rfl⟩
def Xj(s:ae)(i:Nat)(h:i<s.length):At s i=O (!nG s[i]):=by unfold At nG;simp only[qP s i h,hN,xp,FH];cases eV (s[i].toNat:Int)<;>cases SM (s[i].toNat:Int)<;>simp[bne]
def YF(s:ae)(i:Nat)(h:i<s.length):nH s i=O (!nG s[i]):=by unfold nH nG;simp only[qP s i h,hN,rK,Dx];cases eV (s[i].toNat:Int)<;>cases SM (s[i].toNat:Int)<;>simp[bne]
def Xl(s:ae)(c:qg8 s)(i:Nat)(a:i<=s.length):Au s i=O (if(s.drop i).any (λb=>!nG b)then .inl ()else .inr ()):=by
 unfold Au;refine qQ s c _ (λb=>!nG b) _ _ (λj h=>?_) ?_ i a;.simp only[uZ];rw[hU (by simp;omega),Xj s j h];simp only[hN];split<;>simp_all
 .simp only[uZ];rw[hG (by simp)]
def YH(s:ae)(a:qg8 s):wC s s.length 0=O (if s.any (λb=>!nG b)then .inl ()else .inr ()):=by
 unfold wC
 have:=qQ s a (λc=>qh s s.length c) (λb=>!nG b) (.inl ()) (.inr ()) (λj h=>by
  simp only[qh];rw[hU (by simp;omega),YF s j h];simp only[hN];split<;>simp_all) (by simp only[qh];rw[hG (by simp)]) 0 (w0 _)
 simpa using this
def qe0{b:UInt8}(h:eV b.toNat=T):nG b=true:=by simp[nG,h]
def Xh(s:ae):As s=O (!(rE s&&kQ eV s&&!qsj s)):=by
 unfold As;rw[FJ];simp only[hN];by_cases h:rE s=T;.obtain⟨c,r,rfl⟩:=XJ h;simp only[h,mT,hN,xp,Xe,kQ];cases eV (c.toNat:Int)<;>simp
 .simp[h]
def qdH(s:ae)(e:qg8 s):LY s=O (zB s):=by
 unfold LY zB;rw[Xh];simp only[hN];by_cases h:(rE s&&kQ eV s&&!qsj s)=T
 .have a:rE s=true:=by revert h;cases rE s<;>simp
  obtain⟨c,r,rfl⟩:=XJ a;have d:eV (c.toNat:Int)=true:=by revert h;simp[kQ];intro _ h _;exact h
  have b:=Xl (c::r) e 1 (by simp);simp only[Int.ofNat_one]at b;rw[h,b];simp only[List.drop_succ_cons,vbl,List.all_cons,qe0 d,vbo];rw[vbv];simp only[vcf];cases r.all nG<;>simp
 .simp[h]
def YD(s:ae):wB s=O (!(rE s&&kQ eV s&&!qsj s)):=by
 unfold wB rE;cases s with
 |nil=>simp
 | cons c r =>
  have b:¬(((c::r).length:Int)<1):=by simp;omega
  have d:(((c::r).length:Int)>=1):=by omega
  simp only[b,d,decide_false,decide_true,vbo,m5,if_false,mT,hN,rK,qap,kQ];by_cases h:(((c::r).length:Int)>24)
  .have a:¬(((c::r).length:Int)<=24):=by omega
   simp only[h,a,decide_true,decide_false,if_true];simp
  .have a:(((c::r).length:Int)<=24):=by omega
   simp only[h,a,decide_true,decide_false,if_false,m5];cases eV (c.toNat:Int)<;>simp
def qfc(s:ae)(a:qg8 s):Eu s=O (Nk (zB s)):=by unfold Eu;rw[YD,YH s a];unfold zB Nk;cases(rE s&&kQ eV s&&!qsj s)with|false=>simp|true=>simp only[hN,vbf,m5,if_false,vbo];rw[vbv];simp only[vcf];cases s.all nG<;>simp
def IV(s:ae)(i:Nat)(h:i<s.length):ky s i=O (!kR s[i]):=by unfold ky kR;simp only[qP s i h,hN,xp,J2,FH];cases eV (s[i].toNat:Int)<;>cases mU (s[i].toNat:Int)<;>simp
def YM(s:ae)(i:Nat)(h:i<s.length):nJ s i=O (!kR s[i]):=by unfold nJ kR;simp only[qP s i h,hN,rK,EM,Dx];cases eV (s[i].toNat:Int)<;>cases mU (s[i].toNat:Int)<;>simp
def y1(s:ae)(a:qg8 s):j9 s=O (s.all kR):=by
 unfold j9 pq
 have:=qQ s a (λc=>gb s c) (λb=>!kR b) (.inl ()) (.inr ()) (λj h=>by
  simp only[gb];rw[hU (by simp;omega),IV s j h];simp only[hN];split<;>simp_all) (by simp only[gb];rw[hG (by simp)]) 0 (w0 _)
 simp only[Int.ofNat_zero,vbl]at this;rw[this,vbv];simp only[vcf];cases s.all kR<;>rfl
def Vm(s:ae)(a:qg8 s):xr s=O (!(rE s&&kQ mU s&&s.all kR)):=by
 unfold xr;rw[FJ];simp only[hN];by_cases h:rE s=T;.obtain⟨c,r,rfl⟩:=XJ h;simp only[h,mT,hN,J2,y1 _ a,kQ];cases mU (c.toNat:Int)<;>simp
 .simp[h]
def qbX(s:ae)(a:qg8 s):HT s=O (rU s):=by unfold HT rU;rw[Vm s a];simp only[hN];cases(rE s&&kQ mU s&&s.all kR)<;>cases(s==[73,110,116])<;>cases(s==[66,111,111,108])<;>cases(s==[67,101,108,108])<;>cases(s==[70,117,110])<;>rfl
def YK(s:ae):wE s=O (!(rE s&&kQ mU s&&!(s==[73,110,116])&&!(s==[66,111,111,108])&&!(s==[67,101,108,108])&&!(s==[70,117,110]))):=by
 unfold wE rE;cases s with
 |nil=>simp
 | cons c r =>
  have b:¬(((c::r).length:Int)<1):=by simp;omega
  have d:(((c::r).length:Int)>=1):=by omega
  simp only[b,d,decide_false,decide_true,vbo,m5,if_false,mT,hN,EM,kQ];by_cases h:(((c::r).length:Int)>24)
  .have a:¬(((c::r).length:Int)<=24):=by omega
   simp only[h,a,decide_true,decide_false,if_true];simp
  .have a:(((c::r).length:Int)<=24):=by omega
   simp only[h,a,decide_true,decide_false,if_false,m5];cases mU (c.toNat:Int)<;>cases(c::r==[73,110,116])<;>cases(c::r==[66,111,111,108])<;>cases(c::r==[67,101,108,108])<;>cases(c::r==[70,117,110])<;>rfl
def YO(s:ae)(a:qg8 s):wF s s.length 0=O (if s.any (λb=>!kR b)then .inl ()else .inr ()):=by
 unfold wF
 have:=qQ s a (λc=>qi s s.length c) (λb=>!kR b) (.inl ()) (.inr ()) (λj h=>by
  simp only[qi];rw[hU (by simp;omega),YM s j h];simp only[hN];split<;>simp_all) (by simp only[qi];rw[hG (by simp)]) 0 (w0 _)
 simpa using this
def qfe(s:ae)(a:qg8 s):Ev s=O (Nk (rU s)):=by unfold Ev;rw[YK,YO s a];unfold rU Nk;rw[vbv];simp only[vcf];cases(rE s&&kQ mU s)<;>cases s.all kR<;>cases(s==[73,110,116])<;>cases(s==[66,111,111,108])<;>cases(s==[67,101,108,108])<;>cases(s==[70,117,110])<;>rfl
def qn1(b:UInt8):((b.toNat:Int)==46)=(b==46):=by
 rw[vbK];simp only[o5];constructor
 .intro h;have:b.toNat=46:=by omega
  exact vcQ.1 this
 .rintro rfl;rfl
def rS:ae->List ae|[]=>[[]]|c::r=>if(c==46)then[]::rS r else match rS r with|[]=>[[c]]|h::t=>(c::h)::t
def VA(p:ae):List ae->List ae|[]=>[p]|h::t=>(p++h)::t
def Q4:∀(s:ae),rS s≠[]
 |[]=>by simp[rS]
 | c :: r => by
  unfold rS;split;.simp
  .split<;>simp
def WZ(c:UInt8)(r:ae)(h:¬(c==46)=T):rS (c::r)=VA [c] (rS r):=by
 conv=>lhs;unfold rS
 rw[hG h];cases rS r<;>rfl
def qeM(p q:ae)(l:V ae):VA p (VA q l)=VA (p++q) l:=by cases l<;>simp[VA]
def qcq{l:List ae}(h:l≠[]):VA [] l=l:=by cases l with
 |nil=>exact absurd rfl h
 |cons=>rfl
def qbn:∀(p s:ae),p.all (λc=>!(c==46))=T->rS (p++s)=VA p (rS s)
 |[],s,_=>(qcq (Q4 s)).symm
 |c::p,s,h=>by rw[List.all_cons,ne]at h;rw[vaN,WZ _ _ (by simpa using h.1),qbn p s h.2,qeM];rfl
def qbo:∀(s:ae),(rS s).length<=s.length+1/\∀x∈rS s,x.length<=s.length
 |[]=>by simp[rS]
 | c :: r => by
  let⟨e,d⟩:=qbo r;by_cases h:(c==46)=T
  .unfold rS;rw[hU h];refine⟨by simp;omega,λx b=>?_⟩;rw[oL]at b;rcases b with rfl|b;.simp
   .have:=d x b;simp;omega
  .rw[WZ c r h];cases i:rS r with
   |nil=>exact absurd i (Q4 r)
   | cons a t =>
    rw[i]at e d;refine⟨by simpa[VA]using Nat.le_succ_of_le e,λx b=>?_⟩;simp only[VA,oL]at b;rcases b with rfl|b;.have:=d a (by simp);simp;omega
    .have:=d x (by simp[b]);simp;omega
def ta(s:ae):ae×ae×K:=match s.findIdx? (λc=>c==46)with|some j=>(s.take j,s.drop (j+1),T)|none=>(s,[],Z)
def Vh(s:ae)(b:qg8 s):J4 s=O (ta s):=by
 unfold J4 LX
 have:=qex s b (λm=>qR s m) (λc=>c==46) (λj=>Sum.inl (s.take j,s.drop (j+1))) (Sum.inr ()) (λi h=>by
  simp only[qR];rw[hU (by simp;omega),qP s i h];simp only[hN,qn1];by_cases a:(s[i]==46)=T
  .rw[hU a,hU a,qj6 s i (by omega)];have d:s.length<9223372036854775808:=b;have e:cz ((i:Int)+1)=((i+1:Nat):Int):=by rw[dj (by omega) (by omega)];omega
   rw[e];simp only[hN,Kz s (i+1) (by omega)]
  .rw[hG a,hG a]) (by simp only[qR];rw[hG (by simp)])
 rw[this];unfold ta;cases s.findIdx? (λc=>c==46)<;>rfl
def qhM(s:ae):rS s=if(ta s).2.2 then(ta s).1::rS (ta s).2.1 else[(ta s).1]:=by
 unfold ta;cases h:s.findIdx? (λc=>c==46)with
 |none=>rw[vbz]at h;have:=qbn s [] (by simp only[oR,vaV];exact h);rw[vh]at this;simp only[m5,if_false];rw[this];simp[rS,VA]
 | some j =>
  rw[va9]at h;let⟨n,b,d⟩:=h;have e:s=s.take j++s[j]::s.drop (j+1):=by
   conv=>lhs;rw[<-vbd j s]
   rw[vaD n]
  have:=qbn (s.take j) (s[j]::s.drop (j+1)) (by
   simp only[oR,vaV];intro x o;obtain⟨i,m,rfl⟩:=vcX o;rw[vc5];have a:i<j:=by simp at m;omega
   simpa using d i a)
  rw[<-e]at this;simp only[if_true];rw[this];conv=>lhs;arg 2;unfold rS
  rw[hU b];simp[VA]
def qhI(s:ae):(ta s).1.length<=s.length/\(ta s).2.1.length<=s.length/\((ta s).2.2=T->(ta s).2.1.length<s.length):=by unfold ta;cases h:s.findIdx? (λc=>c==46)with|none=>simp|some j=>rw[va9]at h;let⟨a,_⟩:=h;simp;omega
def qlw(p:ae):K:=(p.isEmpty||kQ eV p)&&p.all nG
def vB(p:ae):K:=rE p&&(p.all kR||qlw p)
def qeU{α X:Type}(p:Nat->α->K)(q:α->K)(y e:X)(k:Nat)(h:∀i x,k<=i->p i x=q x):∀(l:List α)(i:Nat),k<=i->xP (λi x (_:Unit)=>if p i x then Sum.inr y else .inl ()) (λ_=>e) l i ()=if l.any q then y else e
 |[],i,_=>by simp[xP]
 | x :: l,i,hk => by
  have b:=qeU p q y e k h l (i+1) (by omega);unfold xP;rw[h i x hk];by_cases a:q x=T;.simp[a]
  .simp only[a,if_false,b,List.any_cons,vb6,m5]
def Xm(s:ae)(i:Nat)(h:i<s.length):Av s i=O (if i=0 then !eV s[i].toNat else !nG s[i]):=by
 unfold Av nG;simp only[qP s i h,hN,xp,FH];by_cases a:i=0;.subst a;cases eV ((s[0]).toNat:Int)<;>simp
 .have:((i:Int)==0)=false:=by simp;omega
  simp only[this,hG a];cases eV (s[i].toNat:Int)<;>cases SM (s[i].toNat:Int)<;>simp[bne]
def qdI(s:ae)(b:qg8 s):LZ s=O (qlw s):=by
 unfold LZ IX;have:=FB s b (λi (_:Unit)=>i) (λd=>oG s d) (λ_ _=>True) (λi x _=>if(if i=0 then !eV x.toNat else !nG x)then .inr (.inl ())else .inl ()) (λ_=>.inr ()) (λi h t _=>⟨by
  simp only[oG];rw[hU (by simp;omega),Xm s i h];simp only[hN];cases(if i=0 then !eV s[i].toNat else !nG s[i])<;>rfl,λ_ _=>trivial⟩) (λt _=>by simp only[oG];rw[hG (by simp)]) 0 () (w0 _) trivial
 simp only[Int.ofNat_zero,vbl]at this;rw[this];cases s with
 |nil=>rfl
 | cons c r =>
  unfold xP qlw kQ;simp only[if_true,List.isEmpty_cons,vb6,List.all_cons];by_cases a:eV c.toNat=T;.have:=qeU (X:=Unit⊕Unit) (λi (x:UInt8)=>if i=0 then !eV x.toNat else !nG x) (λx=>!nG x) (.inl ()) (.inr ()) 1 (λi x e=>by rw[hG (by omega)]) r 1 (m7 _);simp only[a,vbf,m5,if_false,qe0 a,vbo,ve];rw[this,vbv];simp only[vcf];cases r.all nG<;>rfl
  .simp[a]
def Xb(p:ae)(a:qg8 p):Aq p=O (!vB p):=by unfold Aq vB;rw[FJ,y1 p a,qdI p a];cases rE p<;>cases p.all kR<;>simp
def Dn(r:ae):jT r Z=O (.inr ()):=dW rfl
def FC:∀(k:Nat)(r:ae),r.length<k->qg8 r->jT r T=O (if(!(rS r).all vB)then .inl ()else .inr ())
 |0,r,hk,_=>absurd hk (by omega)
 | k + 1,r,hk,hs => by
  let⟨m,n,e⟩:=qhI r;have i:r.length<9223372036854775808:=hs;have c:kY r T=O (if(!vB (ta r).1)then .inr (.inl ())else .inl ((ta r).2.1,(ta r).2.2)):=by simp only[kY,if_true,Vh r hs,hN];rw[Xb _ (show _<_ by omega)];simp only[hN];cases vB (ta r).1<;>rfl
  rw[qhM r];unfold jT;by_cases d:vB (ta r).1=T;.rw[d]at c;refine(mV (body:=λb:ae×K=>kY b.1 b.2) (s:=(r,T)) (s':=((ta r).2.1,(ta r).2.2)) c).trans ?_;cases h:(ta r).2.2 with|false=>have:=Dn (ta r).2.1;unfold jT at this;rw[this];simp[d]|true=>have o:=e h;have:=FC k (ta r).2.1 (by omega) (show _<_ by omega);unfold jT at this;rw[this];simp[d]
  .have a:vB (ta r).1=false:=by simpa using d
   rw[a]at c;refine(dW (body:=λb:ae×K=>kY b.1 b.2) (s:=(r,T)) c).trans ?_;cases(ta r).2.2<;>simp[a]
def Xd(r:ae)(a:K)(b:qg8 r):jT r a=O (if(a&&!(rS r).all vB)then .inl ()else .inr ()):=by cases a with|false=>exact Dn r|true=>exact FC (r.length+1) r (by omega) b
def ck(s:ae):K:=Y (s.length<=120)&&match rS s with|[]=>Z|f::r=>(zB f||rU f||(f==[118]&&!r.isEmpty))&&r.all vB
def W9(f:ae)(b:qg8 f)(a:K):Ap f a=O (!(zB f||rU f||(f==[118]&&a))):=by unfold Ap;rw[qdH f b,qbX f b];simp only[hN];cases zB f<;>cases rU f<;>cases(f==[118])<;>simp
def pd(s:ae):n7 s=O (Nk (ck s)):=by
 unfold n7 ck Nk;by_cases h:s.length<=120
 .have a:¬((s.length:Int)>120):=by omega
  let⟨e,i,m⟩:=qhI s;simp only[a,h,decide_false,decide_true,m5,if_false,vbo,Vh s (show _<_ by omega),hN];rw[W9 _ (show _<_ by omega),Xd _ _ (show _<_ by omega),qhM s];simp only[hN];cases n:(ta s).2.2 with
  |false=>by_cases c:zB (ta s).1=T<;>by_cases d:rU (ta s).1=T<;>simp[c,d]
  | true =>
   have:(rS (ta s).2.1).isEmpty=false:=by cases b:rS (ta s).2.1 with|nil=>exact absurd b (Q4 _)|cons=>rfl
   simp only[this,if_true,vbt,Bool.and_true,vbo];cases(zB (ta s).1||rU (ta s).1||(ta s).1==[118])<;>cases(rS (ta s).2.1).all vB<;>simp
 .have a:((s.length:Int)>120):=by omega
  simp[a,h]
def IB(s:ae):∀(r:ae)(i b:Nat)(a o:List ae)(d:Nat),s.drop i=r->i+r.length=s.length->b<=i->((s.take i).drop b).all (λc=>!(c==46))=T->
  xP (λi x (t:List ae×Nat)=>if(x==46)then(Sum.inl (t.1++[(s.take i).drop t.2],i+1):(List ae×Nat)⊕(List ae×Nat))else .inl t) (λt=>t) r i (a,b)=(o,d)->
  d<=s.length/\o++[s.drop d]=a++VA ((s.take i).drop b) (rS r)
 |[],i,b,a,o,d,h1,h2,h3,h4,h=>by
  simp only[xP,Prod.mk.injEq]at h;obtain⟨rfl,rfl⟩:=h;have:i=s.length:=by simpa using h2
  subst this;simp[rS,VA,h3]
 | c :: r,i,b,a,o,d,h1,h2,h3,h4,h => by
  have w:i<s.length:=by simp at h2;omega
  rw[vaD w]at h1;injection h1 with q m
  unfold xP at h;by_cases n:(c==46)=T
  .simp only[n,if_true]at h;have p:=IB s r (i+1) (i+1) _ o d m (by simp at h2;omega) (m7 _) (by simp) h;refine⟨p.1,?_⟩;rw[p.2];have e:(s.take (i+1)).drop (i+1)=[]:=by simp
   rw[e,qcq (Q4 r)];conv=>rhs;arg 2;arg 2;unfold rS
   rw[hU n];simp[VA]
  .simp only[n,if_false,m5]at h;have e:(s.take (i+1)).drop b=(s.take i).drop b++[c]:=by rw[vas w,List.drop_append_of_le_length (by simp;omega),q]
   have p:=IB s r (i+1) b _ o d m (by simp at h2;omega) (by omega) (by rw[e,List.all_append,h4];simpa using n) h;refine⟨p.1,?_⟩;rw[p.2,e,WZ c r n,qeM]
def qrU{α:Type}(l:V α)(a b:Nat)(h:a<=b)(c:b<=l.length):XK l (O (a:Int)) (O (b:Int))=O ((l.take b).drop a):=by simp[XK,bd,h,c]
def qfg(s:ae)(A:s.length<=1000000):Ew s=O (rS s):=by
 unfold Ew K5
 have:=FB s (by omega) (λi (t:List ae×Nat)=>(t.1,(t.2:Int),i)) (λm=>gm s s.length m.1 m.2.1 m.2.2) (λi t=>t.2<=i/\t.1.length<=i)
  (λi x (t:List ae×Nat)=>if(x==46)then(Sum.inl (t.1++[(s.take i).drop t.2],i+1):(List ae×Nat)⊕(List ae×Int))else .inl t) (λt=>(t.1,(t.2:Int))) (λi h t y=>by
   refine⟨?_,λB c=>?_⟩
   .simp only[gm];rw[hU (by simp;omega),qP s i h];simp only[hN,qn1];by_cases a:(s[i]==46)=T
    .rw[hU a,hU a,qrU s _ _ y.1 (by omega)];simp only[hN];rw[qE (by simp;omega)];have e:cz ((i:Int)+1)=((i+1:Nat):Int):=by rw[dj (by omega) (by omega)];omega
     rw[e];rfl
    .rw[hG a,hG a]
   .by_cases a:(s[i]==46)=T;.rw[hU a]at c;cases c;simp;omega
    .rw[hG a]at c;cases c;omega) (λt _=>by simp only[gm];rw[hG (by simp)]) 0 ([],0) (w0 _) ⟨m7 _,m7 _⟩
 simp only[Int.ofNat_zero,vbl]at this;rw[this];obtain⟨o,b,p⟩:∃o b,xP (λi x (t:List ae×Nat)=>if(x==46)then(Sum.inl (t.1++[(s.take i).drop t.2],i+1):(List ae×Nat)⊕(List ae×Nat))else .inl t) (λt=>t) s 0 ([],0)=(o,b):=⟨_,_,rfl⟩
 have d:∀(l:ae)(i:Nat)(t:List ae×Nat),xP (λi x (t:List ae×Nat)=>if(x==46)then(Sum.inl (t.1++[(s.take i).drop t.2],i+1):(List ae×Nat)⊕(List ae×Int))else .inl t) (λt=>(t.1,(t.2:Int))) l i t=
   ((xP (λi x (t:List ae×Nat)=>if(x==46)then(Sum.inl (t.1++[(s.take i).drop t.2],i+1):(List ae×Nat)⊕(List ae×Nat))else .inl t) (λt=>t) l i t).1,
    ((xP (λi x (t:List ae×Nat)=>if(x==46)then(Sum.inl (t.1++[(s.take i).drop t.2],i+1):(List ae×Nat)⊕(List ae×Nat))else .inl t) (λt=>t) l i t).2:Int)):=by
  intro l
  induction l with
  |nil=>intro i t;rfl
  | cons x l ih =>
   intro i t
   unfold xP
   by_cases q:(x==46)=T
   .simp only[q,if_true,ih]
   .simp only[q,if_false,ih,m5]
 rw[d,p];let⟨r,w⟩:=IB s s 0 0 [] o b rfl (by simp) (m7 _) (by simp) p;simp only[hN];rw[Kz s b r];simp only[hN];have a:=(qbo s).1;have n:o++[s.drop b]=rS s:=by rw[w];simp[qcq (Q4 s)]
 have z:o.length+1=(rS s).length:=by rw[<-n];simp
 rw[qE (by simp;omega),n];rfl
def qas(p:ae)(m0:K)(i:Nat)(h:i<p.length):vP p m0 i=O (m0&&kR p[i]):=by unfold vP kR;simp only[qP p i h,hN,rK,EM,Dx];cases m0<;>cases eV (p[i].toNat:Int)<;>cases mU (p[i].toNat:Int)<;>simp
def Uc:∀(l:ae)(i:Nat)(a b:K),xP (λ_ (x:UInt8) (t:K×K)=>(Sum.inl (t.1&&kR x,t.2&&nG x):(K×K)⊕(K×K))) (λt=>t) l i (a,b)=(a&&l.all kR,b&&l.all nG)
 |[],i,a,b=>by simp[xP]
 |x::l,i,a,b=>by unfold xP;simp only[Uc l,List.all_cons,Bool.and_assoc]
def qau(p:ae)(d:qg8 p)(a b:K):Ha p p.length a b 0=O (a&&p.all kR,b&&p.all nG):=by
 unfold Ha;have:=FB p d (λi (t:K×K)=>(t.1,t.2,i)) (λc=>iu p p.length c.1 c.2.1 c.2.2) (λ_ _=>True) (λ_ x t=>.inl (t.1&&kR x,t.2&&nG x)) (λt=>t) (λi h t _=>⟨by
  simp only[iu];rw[hU (by simp;omega),qas p _ i h];simp only[hN,qP p i h,rK,Dx,nG];cases t.2<;>cases eV (p[i].toNat:Int)<;>cases SM (p[i].toNat:Int)<;>simp,λ_ _=>trivial⟩) (λt _=>by simp only[iu];rw[hG (by simp)]) 0 (a,b) (w0 _) trivial
 simp only[Int.ofNat_zero,vbl]at this;rw[this,Uc]
def qhh(p:ae)(e:qg8 p):Jt p=O (vB p):=by
 unfold Jt G9 vB rE;cases p with
 |nil=>simp
 | cons c r =>
  have b:¬(((c::r).length:Int)<1):=by simp;omega
  have d:(((c::r).length:Int)>=1):=by omega
  simp only[b,d,decide_false,decide_true,vbo,m5,if_false,mT,hN,rK,qau _ e,qlw,kQ,List.isEmpty_cons,vb6];by_cases h:(((c::r).length:Int)>24)
  .have a:¬(((c::r).length:Int)<=24):=by omega
   simp only[h,a,decide_true,decide_false,if_true];simp
  .have a:(((c::r).length:Int)<=24):=by omega
   simp only[h,a,decide_true,decide_false,if_false,m5,vbo];cases(c::r).all kR<;>simp
def qan(f:ae)(r:List ae)(b:qg8 f):vN (f::r)=O (!(zB f||rU f||(f==[118]&&!r.isEmpty))):=by
 unfold vN;simp only[dI,hN,qfc f b,qfe f b];have e:(((f::r).length:Int)==1)=r.isEmpty:=by cases r with|nil=>rfl|cons a r=>simp;omega
 rw[e];unfold Nk;cases zB f<;>cases rU f<;>cases(f==[118])<;>simp
def qh5{s f:ae}{r:V ae}(h:s.length<=120)(a:rS s=f::r):ck s=((zB f||rU f||(f==[118]&&!r.isEmpty))&&r.all λx=>vB x):=by unfold ck;rw[a];simp only[h,decide_true,vbo]
def nn(s:ae):jx s=O (Nk (ck s)):=by
 unfold jx;by_cases h:s.length<=120
 .have b:¬((s.length:Int)>120):=by omega
  simp only[b,h,decide_false,decide_true,m5,if_false,vbo,qfg s (by omega),hN];let⟨d,a⟩:=qbo s;cases c:rS s with
  |nil=>exact absurd c (Q4 s)
  | cons f r =>
   rw[c]at d a;rw[qh5 h c];rw[qan f r (show _<_ by have:=a f (by simp);omega)];have n:r.length<9223372036854775808:=by simp at d;omega
   have:=qQ r n (λp=>tK r r.length p) (λx=>!vB x) (.inl ()) (.inr ()) (λj m=>by
    simp only[tK];have o:r[j]∈f::r:=by simp
    rw[hU (by simp;omega),aC r j m];simp only[hN];rw[qhh _ (show _<_ by have:=a _ o;omega)];simp only[hN];split<;>simp_all) (by simp only[tK];rw[hG (by simp)]) 0 (w0 _)
   have e:XK (f::r) (O 1) N=O r:=by have:=Kz (f::r) 1 (by simp);simpa using this
   simp only[Int.ofNat_zero,vbl]at this;simp only[hN,e,G6,this,vbv,vcf];unfold Nk;cases(zB f||rU f||(f==[118]&&!r.isEmpty))<;>cases r.all (λx=>vB x)<;>rfl
 .have b:((s.length:Int)>120):=by omega
  have i:ck s=false:=by unfold ck;simp[h]
  simp[b,i,Nk]
section
variable{α β σ τ X b:Type}
def qbR(l:List α)(o:l.length<9223372036854775808)(mk:Int->τ)(a:τ->Q (τ⊕X))(p:α->K)(y:Nat->X)(e:X)
  (d:∀(i:Nat)(h:i<l.length),a (mk (i:Int))=O (if p l[i] then .inr (y i)else .inl (mk (cz ((i:Int)+1))))) (c:a (mk l.length)=O (.inr e)):loop a (mk 0)=O ((l.findIdx? p).elim e y):=by
 have m:∀k i,k+i=l.length->loop a (mk (i:Int))=O (((l.drop i).findIdx? p).elim e (λj=>y (i+j))):=by
  intro k;induction k with
  |zero=>
   intro i n;have:i=l.length:=by omega
   subst this;rw[ls,c,vbP];rfl
  | succ k ih =>
   intro i n;rw[ls,d i (by omega),vaD (by omega),vc2];by_cases h:p l[i]=T;.simp[h]
   .simp only[h,if_false,m5];rw[dj (by omega) (by omega),show((i:Int)+1)=((i+1:Nat):Int) by omega,ih (i+1) (by omega)];cases(l.drop (i+1)).findIdx? p with|none=>rfl|some j=>simp only[oo,Option.elim];congr 2;omega
 have:=m l.length 0 (by omega)
 rw[vbl]at this
 simpa using this
def nj{A:Type}(l:List α)(s:l.length<9223372036854775808){c:Int->Q (Int⊕(A⊕Unit))}(k:Int->α->Q (Int⊕(A⊕Unit)))(P:α->Prop)(B:A->Prop)
  (n:∀(i:Int),c i=if Y (i<(l.length:Int))then(bY l i).bind (k i)else O (.inr (.inr ())))
  (q:∀x∈l,∀i,jV (k i x) (λr=>r.elim (λt=>t=cz (i+1)/\P x) (λy=>y.elim B (λ_=>False)))):jV (loop c 0) (λr=>r.elim B (λ_=>∀x∈l,P x)):=by
 refine qm0 l s k (.inr ()) (λi=>∀j (h:j<l.length),j<i->P l[j]) n (λi p m=>(q _ (m4 p) i).mono λr e=>?_) (λm x w=>?_) (λj _ h=>absurd h (va3 _))
 .cases r with
  | inl t =>
   refine⟨e.1,λj d h=>?_⟩
   by_cases o:j=i
   .subst o;exact e.2
   .exact m j d (by omega)
  |inr y=>cases y with
   |inl a=>exact e
   |inr u=>exact e.elim
 .obtain⟨j,d,rfl⟩:=vcX w
  exact m j d d
end
def qi0{X:Type}(n:Nat)(o:n<9223372036854775808){a:Int->Q (Int⊕X)}(k:Int->Q (Int⊕X))(e:X)(c:∀i:Int,a i=if Y (i<(n:Int))then k i else O (.inr e))
  (h:∀i:Nat,i<n->jV (k (i:Int)) (λr=>match r with|.inl t=>t=cz ((i:Int)+1)|.inr _=>True)):jV (loop a 0) (λ_=>True):=by
 have b:(List.replicate n ()).length=n:=vcR
 refine KN (List.replicate n ()) (by omega) (λi (_:Unit)=>i) (λ_ _=>True) (λi d s _=>?_) (λs _=>?_) () trivial
 .rw[b]at d
  rw[c,hU (tr (by omega))]
  exact(h i d).mono λr m=>by cases r with|inl t=>exact⟨(),m,md⟩|inr _=>trivial
 .rw[c,hG (by rw[b];simp)]
  exact av md
def EG(c:Int):jV (mH c) (λ_=>True):=by unfold mH;exact aQ (λ_=>av md) (λ_=>av md)
def Q3(c:Int):jV (rJ c) (λ_=>True):=by unfold rJ;exact aQ (λ_=>av md) (λ_=>av md)
def P4(c:Int):jV (np c) (λ_=>True):=by unfold np;exact aQ (λ_=>av md) (λ_=>av md)
def lr{s:ae}{i:Nat}(h:i<s.length):jV (lq s (i:Int)) (λ_=>True):=qj8 (qP s i h) trivial
def JS{s:ae}(h:0<s.length):jV (lq s 0) (λ_=>True):=lr (i:=0) h
def qh9(s:ae):jV (vO s) (λ_=>True):=by unfold vO;exact aG (R:=λl=>l.length<9223372036854775808) ⟨_,rfl,by decide⟩ (λl a=>fj (OI l s a) (av md))
def qji{s:ae}{i:Nat}(h:i<s.length):jV (nH s i) (λ_=>True):=by unfold nH;exact aG (lr h) λ_ _=>aG (EG _) λ_ _=>aQ (λ_=>aG (lr h) λ_ _=>aG (Q3 _) λ_ _=>aQ (λ_=>aG (lr h) λ_ _=>av md) λ_=>av md) λ_=>av md
def qlD(s:ae):jV (Eu s) (λ_=>True):=by
 unfold Eu;refine aG (R:=λo=>o=T\/s.length<=24) ?_ λo e=>aQ (λ_=>av md) λd=>?_;.unfold wB;refine aQ (λ_=>av (.inl rfl)) λa=>aQ (λ_=>av (.inl rfl)) λb=>?_;rw[nm]at a b;exact aG (JS (by omega)) λ_ _=>aG (EG _) λ_ _=>aQ (λ_=>av (.inl rfl)) λ_=>aG (qh9 s) λ_ _=>av (.inr (by omega))
 .have h:s.length<=24:=e.resolve_left d;unfold wC;refine aG (qi0 s.length (by omega) (λi=>(nH s i).bind λo=>if o then O (.inr (.inl ()))else O (.inl (cz (i+1)))) (.inr ()) (λi=>rfl) λi c=>aG (qji c) λ_ _=>aQ (λ_=>av md) λ_=>av rfl) λo _=>?_;cases o<;>exact av md
def qj7{s:ae}{i:Nat}(h:i<s.length):jV (nJ s i) (λ_=>True):=by unfold nJ;exact aG (lr h) λ_ _=>aG (EG _) λ_ _=>aQ (λ_=>aG (lr h) λ_ _=>aG (P4 _) λ_ _=>aQ (λ_=>aG (lr h) λ_ _=>aG (Q3 _) λ_ _=>av md) λ_=>av md) λ_=>av md
def qlG(s:ae):jV (Ev s) (λ_=>True):=by
 unfold Ev;refine aG (R:=λo=>o=T\/s.length<=24) ?_ λo h=>aQ (λ_=>av md) λe=>?_
 .unfold wE;refine aQ (λ_=>av (.inl rfl)) λa=>aQ (λ_=>av (.inl rfl)) λb=>?_;rw[nm]at a b;have c:s.length<=24:=by omega
  exact aG (JS (by omega)) λ_ _=>aG (P4 _) λ_ _=>aQ (λ_=>av (.inl rfl)) λ_=>aQ (λ_=>av (.inl rfl)) λ_=>aQ (λ_=>av (.inl rfl)) λ_=>aQ (λ_=>av (.inl rfl)) λ_=>av (.inr c)
 .have m:s.length<=24:=h.resolve_left e;unfold wF;refine aG (qi0 s.length (by omega) (λi=>(nJ s i).bind λo=>if o then O (.inr (.inl ()))else O (.inl (cz (i+1)))) (.inr ()) (λi=>rfl) λi d=>aG (qj7 d) λ_ _=>aQ (λ_=>av md) λ_=>av rfl) λo _=>?_;cases o<;>exact av md
def qmz{s:ae}(b:K){i:Nat}(h:i<s.length):jV (vP s b i) (λ_=>True):=by unfold vP;exact aQ (λ_=>aG (lr h) λ_ _=>aG (EG _) λ_ _=>aQ (λ_=>av md) λ_=>aG (lr h) λ_ _=>aG (P4 _) λ_ _=>aQ (λ_=>av md) λ_=>aG (lr h) λ_ _=>aG (Q3 _) λ_ _=>av md) λ_=>av md
def qoV(s:ae):jV (Jt s) (λ_=>True):=by
 unfold Jt;refine aG (R:=λo=>o=T\/(0<s.length/\s.length<=24)) ?_ λo m=>aQ (λ_=>av md) λh=>?_
 .unfold G9;refine aQ (λ_=>av (.inl rfl)) λd=>av ?_;rw[nm]at d;by_cases e:(s.length:Int)>24;.exact .inl (tr e)
  .exact .inr ⟨by omega,by omega⟩
 .let⟨b,p⟩:=m.resolve_left h;refine aG (JS b) λ_ _=>aG (EG _) λn _=>?_;unfold Ha;refine aG (R:=λ_=>True) (KN s (by omega) (λi (z:K×K)=>(z.1,z.2,i)) (λ_ _=>True) (λi a z _=>?_) (λz _=>?_) (T,n) trivial) λo _=>aQ (λ_=>av md) λ_=>av md;.show jV (iu s s.length z.1 z.2 i) _;unfold iu;rw[hU (tr (by omega))];exact aG (qmz _ a) λo _=>aQ (λ_=>aG (lr a) λ_ _=>aG (EG _) λ_ _=>aQ (λ_=>av ⟨(o,T),rfl,md⟩) λ_=>aG (lr a) λ_ _=>aG (Q3 _) λ_ _=>aQ (λ_=>av ⟨(o,T),rfl,md⟩) λ_=>aG (lr a) λc _=>av ⟨(o,c==95),rfl,md⟩) λ_=>av ⟨(o,Z),rfl,md⟩
  .show jV (iu s s.length z.1 z.2 s.length) _;unfold iu;rw[hG (by simp)];exact av md
def qiV{α:Type}(l:V α)(a b:Nat)(h:a<=b)(c:b<=l.length):XK l (O (a:Int)) (O (b:Int))=O ((l.take b).drop a):=by simp[XK,bd,h,c]
def qmA(s:ae)(r:s.length<=120):jV (Ew s) (λl=>l≠[]/\l.length<=121):=by
 unfold Ew K5;refine aG (R:=λo=>o.1.length<=s.length/\∃b:Nat,o.2=(b:Int)/\b<=s.length) (KN s (by omega) (λi (z:V ae×Int)=>(z.1,z.2,i)) (λi z=>z.1.length<=i/\∃b:Nat,z.2=(b:Int)/\b<=i) (λi p z h=>?_) (λz h=>?_) ([],0) ⟨m7 _,0,rfl,m7 _⟩) λo q=>?_;.let⟨a,m⟩:=z;let⟨n,b,e,d⟩:=h;simp only at n e;subst e;show jV (gm s s.length a b i) _;unfold gm;rw[hU (tr (by omega))];refine aG (lr p) λc _=>aQ (λ_=>?_) λ_=>av ⟨(a,b),rfl,by simp only;omega,b,rfl,by omega⟩;refine fj (qiV s b i d (by omega)) (fj (qE (by simp;omega)) (av ⟨(_,cz ((i:Int)+1)),rfl,by simp;omega,i+1,?_,m7 _⟩));simp only;rw[dj (by omega) (by omega)];omega
 .let⟨a,m⟩:=z;show jV (gm s s.length a m s.length) _;unfold gm;rw[hG (by simp)];exact av h
 .let⟨n,b,e,d⟩:=q;rw[e];exact fj (Kz s b d) (fj (qE (by simp;omega)) (av ⟨by simp,by simp;omega⟩))
def qlT{v:V ae}(h:v≠[]):jV (vN v) (λ_=>True):=by obtain⟨x,r,rfl⟩:=List.exists_cons_of_ne_nil h;unfold vN;exact fj (dI x r) (aG (qlD x) λ_ _=>aQ (λ_=>fj (dI x r) (aG (qlG x) λ_ _=>aQ (λ_=>fj (dI x r) (aQ (λ_=>av md) λ_=>av md)) λ_=>av md)) λ_=>av md)
def qnS:jx []=O 3:=by kernel_rfl
def qhc(s:ae):jV (jx s) (λr=>(r==0)=T->0<s.length):=by
 by_cases c:s=[]
 .subst c;exact qj8 qnS λh=>by simp at h
 have a:0<s.length:=vbM.2 c;unfold jx;refine aQ (λ_=>av λ_=>a) λd=>?_;rw[nm]at d;refine aG (qmA s (by omega)) λl b=>aG (qlT b.1) λ_ _=>aQ (λ_=>av λ_=>a) λ_=>?_;have e:1<=l.length:=vbM.2 b.1;refine fj (Kz l 1 e) ?_;unfold G6;refine aG (nj (l.drop 1) (by simp;omega) _ (λ_=>True) (λ_=>True) (λi=>rfl) (λx m i=>aG (qoV x) λ_ _=>aQ (λ_=>av md) λ_=>av ⟨rfl,md⟩)) λo _=>?_;cases o<;>exact av λ_=>a
def qhH(s:ae)(b:K):jV (AY s b) (λ_=>True):=by unfold AY;exact aG (qhc s) λr a=>aQ (λh=>aG (JS (a h)) λ_ _=>aQ (λ_=>aG (JS (a h)) λ_ _=>av md) λ_=>av md) λ_=>av md
mutual
def nP:ah->Nat|⟨_,_,_,ks⟩=>nL ks+1
def nL:List ah->Nat|[]=>0|p::ps=>nP p+nL ps
end
def qin(p:ah):nP p=nL p.Kids+1:=by let⟨o,n,k,ks⟩:=p;rw[nP];rfl
def qtN(p:ah):1<=nP p:=by rw[qin];omega
def qoC:∀{l:List ah}{x:ah},x∈l->nP x<=nL l
 | y :: l,x,h => by
  rw[nL];rcases oL.1 h with rfl|h;.omega
  .have:=qoC h;omega
def qjH:∀(l:List ah),l.length<=nL l
 |[]=>by simp[nL]
 |p::l=>by rw[nL];have:=qjH l;have:=qtN p;simp only[vz];omega
def B9{p x:ah}(h:x∈p.Kids):nP x<nP p:=by rw[qin p];have:=qoC h;omega
def JW(p:ah):p.Kids.length<nP p:=by rw[qin];have:=qjH p.Kids;omega
def W8:∀(a b:List ah),nL (a++b)=nL a+nL b
 |[],b=>by simp[nL]
 |p::a,b=>by rw[vaN,nL,W8 a b,nL];omega
mutual
def qbW:∀(p:ah),nP p<=dc (ag p)
 |⟨o,n,k,ks⟩=>by
  have:=qkT ks;rw[nP,bP];simp only[dc,pm,sl];show nL ks+1<=1+(n.length+1+(1+(bC (ks.map ag)+1+0)))
  omega
def qkT:∀(l:List ah),nL l<=bC (l.map ag)
 |[]=>by simp[nL]
 |p::l=>by have:=qbW p;have:=qkT l;rw[nL];simp only[ox,bC];omega
end
mutual
def qzK:ah->ah->K|⟨o,n,k,ks⟩,⟨o',n',k',ks'⟩=>(o==o')&&((n==n')&&((k==k')&&qtH ks ks'))
def qtH:List ah->List ah->K|[],[]=>T|x::xs,y::ys=>qzK x y&&qtH xs ys|_,_=>Z
end
mutual
def qkC:∀(a b:ah),qzK a b=T↔a=b
 |⟨o,n,k,ks⟩,⟨o',n',k',ks'⟩=>by rw[qzK];have:=qkB ks ks';simp only[ne,o5,this,ah.mk.injEq]
def qkB:∀(a b:List ah),qtH a b=T↔a=b
 |[],[]=>by simp[qtH]
 |x::xs,y::ys=>by rw[qtH];have c:=qkC x y;have d:=qkB xs ys;simp only[ne,c,d,vbI]
 |[],y::ys=>by simp[qtH]
 |x::xs,[]=>by simp[qtH]
end
instance:DecidableEq ah:=λa b=>decidable_of_iff _ (qkC a b)
def qef(p:ah):(⟨p.Op,p.Name,p.N,p.Kids⟩:ah)=p:=by cases p;rfl
def KL{a b:ah}:a=b↔a.Op=b.Op/\a.Name=b.Name/\a.N=b.N/\a.Kids=b.Kids:=by cases a;cases b;simp only[ah.mk.injEq];rfl
def qlC{α:Type}[DecidableEq α]:∀{a b:List α},a.length=b.length->(a.zip b).any (λx=>Y (x.1≠x.2))= !Y (a=b)
 |[],[],_=>by simp
 |x::a,y::b,h=>by have e:=qlC (a:=a) (b:=b) (by simpa using h);rw[List.zip_cons_cons,List.any_cons,e];by_cases c:x=y<;>by_cases d:a=b<;>simp[c,d]
def JY{α X:Type}[DecidableEq α]{a b:V α}(o:a.length=b.length)(t:a.length<9223372036854775808)(c:Int->Q (Int⊕X))(y e:X)
  (m:∀(i:Nat)(h:i<a.length)(s:i<b.length),c i=O (if Y (a[i]=b[i])then .inl (cz ((i:Int)+1))else .inr y)) (d:c a.length=O (.inr e)):loop c 0=O (if Y (a=b)then e else y):=by
 have r:(a.zip b).length=a.length:=by simp[o]
 have:=qQ (a.zip b) (by omega) c (λx=>Y (x.1≠x.2)) y e (λi h=>?_) (by rw[r];exact d) 0 (w0 _)
 .rw[vbl,qlC o]at this
  rw[show((0:Nat):Int)=0 from rfl]at this
  rw[this]
  by_cases h:a=b<;>simp[h]
 .have p:i<a.length:=by omega
  have q:i<b.length:=by omega
  rw[m i p q]
  have n:(a.zip b)[i]=(a[i],b[i]):=by simp
  rw[n]
  by_cases h:a[i]=b[i]<;>simp[h]
abbrev dm:Nat:=1073741824
def lP{n:Nat}(h:n<=dm):n<qjf:=by have:=qtx;unfold dm at h;omega
def qn5{R:ah->ah->Q K}{a b:V ah}(n:a.length<=dm)(h:∀x∈a,∀y∈b,R x y=O (Y (x=y))):L7 R a b=O (Y (a=b)):=by
 unfold L7;by_cases d:a.length=b.length
 .rw[hG (by simp[d])];unfold IZ;rw[JY d (by unfold dm at n;omega) (λo=>oI R a b (a.length:Int) o) (.inl ()) (.inr ()) (λi e m=>?_) ?_];.by_cases c:a=b<;>simp[c]
  .unfold oI;rw[hG (by simp)]
  .unfold oI;rw[hU (by simp;omega),aC a i e];simp only[hN];rw[aC b i m];simp only[hN];rw[h _ (m4 e) _ (m4 m)];simp only[hN];by_cases c:a[i]=b[i]<;>simp[c]
 .rw[hU (by simp;omega)];rw[decide_eq_false (λc=>d (by rw[c]))]
def qgY(a b:ah)(m:nP a<=dm):Kb a b=O (Y (a=b)):=by
 refine uX (F:=Qs) (λx=>nP x.1) (λx=>nP x.1<=dm) (λx=>Y (x.1=x.2)) (λR x i p=>?_) (a,b) m (lP m);let⟨u,v⟩:=x;have i:nP u<=dm:=i;show HW (λa n=>R (a,n)) u v=O (Y (u=v));unfold HW;have q:=JW u;by_cases c:u.Op=v.Op
 .by_cases d:u.Name=v.Name
  .by_cases h:u.N=v.N;.rw[hU (by simpa using c),hU (by simpa using d),hU (by simpa using h)];rw[qn5 (a:=u.Kids) (b:=v.Kids) (by omega) (λx e y o=>p (x,y) (B9 e) (vbw (vaT (B9 e) i)))];simp[KL (a:=u) (b:=v),c,d,h]
   .rw[hU (by simpa using c),hU (by simpa using d),hG (by simpa using h)];simp[KL (a:=u) (b:=v),h]
  .rw[hU (by simpa using c),hG (by simpa using d)];simp[KL (a:=u) (b:=v),d]
 .rw[hG (by simpa using c)];simp[KL (a:=u) (b:=v),c]
def qcC(a b:ah)(o:nP b<=dm):OS a b=O (Y (a=b)):=by
 refine uX (F:=S2) (λx=>nP x.2) (λx=>nP x.2<=dm) (λx=>Y (x.1=x.2)) (λR x p y=>?_) (a,b) o (lP o);let⟨u,v⟩:=x;have p:nP v<=dm:=p;show K7 (λa t=>R (a,t)) u v=O (Y (u=v));unfold K7 OT;have z:=JW v;by_cases d:u.Op=v.Op
 .by_cases h:u.Name=v.Name
  .by_cases m:u.N=v.N
   .by_cases n:u.Kids.length=v.Kids.length
    .rw[hG (by simpa using d),hG (by simpa using h),hG (by simpa using m)];simp only[n,bne_self_eq_false,hN,if_false,m5];unfold OW;rw[<-n,JY n (by unfold dm at p;omega) _ (.inl ()) (.inr ()) (λi w r=>?_) ?_];.by_cases q:u.Kids=v.Kids<;>simp[q,KL (a:=u) (b:=v),d,h,m]
     .unfold Ac;rw[hG (by simp)]
     .unfold Ac;rw[hU (by simp;omega),aC u.Kids i w];simp only[hN];rw[aC v.Kids i r];simp only[hN];have s:=m4 r;rw[y (u.Kids[i],v.Kids[i]) (B9 s) (vbw (vaT (B9 s) p))];by_cases q:u.Kids[i]=v.Kids[i]<;>simp[q]
    .have c:u≠v:=λe=>n (by rw[e]);rw[hG (by simpa using d),hG (by simpa using h),hG (by simpa using m)];have o:((u.Kids.length:Int)!=(v.Kids.length:Int))=true:=by simp;omega
     simp[o,c]
   .have c:u≠v:=λe=>m (by rw[e]);rw[hG (by simpa using d),hG (by simpa using h),hU (by simpa using m)];simp[c]
  .have c:u≠v:=λe=>h (by rw[e]);rw[hG (by simpa using d),hU (by simpa using h)];simp[c]
 .have c:u≠v:=λe=>d (by rw[e]);rw[hU (by simpa using d)];simp[c]
def mg:ah:=⟨0,[],0,[]⟩
def qkV:nP mg<=dm:=by decide
def qeW{α σ X:Type}(g:α->σ->σ)(e:σ->X):∀(l:List α)(i:Nat)(s:σ),xP (λ_ x (s:σ)=>(Sum.inl (g x s):σ⊕X)) e l i s=e (l.foldl (λs x=>g x s) s)
 |[],i,s=>by simp[xP]
 |x::l,i,s=>by unfold xP;simp only;rw[qeW g e l (i+1) (g x s)];rfl
def qmh{α σ τ X:Type}(l:V α)(p:l.length<9223372036854775808)(mk:Int->σ->τ)(a:τ->Q (τ⊕X))(r:Nat->σ->Prop)(g:α->σ->σ)(e:σ->X)(m:σ)(o:r 0 m)
  (c:∀(i:Nat)(h:i<l.length) s,r i s->a (mk i s)=O (.inl (mk (cz ((i:Int)+1)) (g l[i] s)))/\r (i+1) (g l[i] s)) (b:∀s,r l.length s->a (mk l.length s)=O (.inr (e s))):
  loop a (mk 0 m)=O (e (l.foldl (λs x=>g x s) m)):=by
 have:=FB l p mk a r (λ_ x s=>.inl (g x s)) e (λi h s d=>⟨(c i h s d).1,λq n=>by cases n;exact(c i h s d).2⟩) (λs d=>b s d) 0 m (w0 _) o
 rw[qeW]at this
 exact this
def qkU(l:V ah)(i:Nat)(h:i<l.length):nL (l.take (i+1))=nL (l.take i)+nP l[i]:=by rw[vas h,W8];simp[nL]
def qbV(l:V ah)(i:Nat):nL (l.take i)<=nL l:=by have:=W8 (l.take i) (l.drop i);rw[vbd]at this;omega
def qkI:∀(l:List ah)(a:Int),l.foldl (λs x=>s+(nP x:Int)) a=a+(nL l:Int)
 |[],a=>by simp[nL]
 |x::l,a=>by rw[List.foldl_cons,qkI l,nL];omega
def qb4(p:ah)(c:nP p<=dm):vQ p=O (nP p:Int):=by
 refine uX (F:=Hf) nP (λx=>nP x<=dm) (λx=>(nP x:Int)) (λR x d q=>?_) p c (lP c);show He (λp=>R p) x=_;unfold He Ue;have b:=JW x;have m:=qin x;rw[qmh x.Kids (by unfold dm at d;omega) (λi s=>(s,i)) _ (λi s=>s=1+(nL (x.Kids.take i):Int)) (λx s=>s+(nP x:Int)) id 1 (by simp[nL]) (λi a s o=>?_) (λs _=>?_)];.rw[qkI];simp only[id,hN];rw[m];congr 1;omega
 .have h:=m4 a;have e:=B9 h;refine⟨?_,by rw[qkU _ _ a,o];omega⟩;unfold wG;rw[hU (by simp;omega),aC x.Kids i a];simp only[hN];rw[q _ e (by omega)];simp only[hN];have r:=qbV x.Kids i;have t:=qbV x.Kids (i+1);have w:=qkU x.Kids i a;unfold dm at d;rw[dj (n:=s+_) (by omega) (by omega)]
 .unfold wG;rw[hG (by simp)];rfl
mutual
def dP:ah->Nat|⟨_,_,_,ks⟩=>dL ks+1
def dL:List ah->Nat|[]=>0|p::ps=>max (dP p) (dL ps)
end
def qv6(p:ah):dP p=dL p.Kids+1:=by let⟨o,n,k,ks⟩:=p;rw[dP];rfl
mutual
def qse:∀(p:ah),dP p<=nP p
 |⟨o,n,k,ks⟩=>by have:=qsd ks;rw[dP,nP];omega
def qsd:∀(l:List ah),dL l<=nL l
 |[]=>by simp[dL]
 |p::l=>by have:=qse p;have:=qsd l;rw[dL,nL];omega
end
def qkH:∀(l:List ah)(a:Nat),l.foldl (λ(s:Int) x=>if(dP x:Int)>s then(dP x:Int)else s) (a:Int)=((max a (dL l):Nat):Int)
 |[],a=>by simp[dL]
 |x::l,a=>by rw[List.foldl_cons,show(if(dP x:Int)>(a:Int)then(dP x:Int)else(a:Int))=((max a (dP x):Nat):Int) by split<;>omega,qkH l,dL,Nat.max_assoc]
def qhK(p:ah)(b:nP p<=dm):Ju p=O (dP p:Int):=by
 refine uX (F:=Hd) nP (λx=>nP x<=dm) (λx=>(dP x:Int)) (λR x c n=>?_) p b (lP b);show Hb (λp=>R p) x=_;unfold Hb Ud;have a:=JW x;have o:=qse x;have q:=qv6 x;have m:(0:Int)=((0:Nat):Int):=rfl;rw[qjE x.Kids (by unfold dm at c;omega) (λi s=>(s,i)) _ (λi s x=>(R x).bind λr=>O (.inl ((if r>s then r else s),cz (i+1)))) (λ_ _=>True) (λx s=>if(dP x:Int)>s then(dP x:Int)else s) id 0 trivial (λi s=>rfl) (λi d s _=>⟨?_,md⟩)];.rw[m,qkH];simp only[id,hN];unfold dm at c;rw[dj (by omega) (by omega)];congr 1;omega
 .have h:=m4 d;have e:=B9 h;rw[n _ e (by omega)];rfl
def ql0(t:am):(⟨t.Op,t.Name,t.Args,t.Names,t.Pred,t.Preds⟩:am)=t:=by cases t;rfl
mutual
def jm:am->Nat|⟨_,_,xs,ns,_,ps⟩=>HS xs+ns.length+ps.length+1
def HS:List am->Nat|[]=>0|a::xs=>jm a+HS xs
end
def LT(t:am):jm t=HS t.Args+t.Names.length+t.Preds.length+1:=by let⟨o,n,c,a,p,b⟩:=t;rw[jm];rfl
def qib(t:am):1<=jm t:=by rw[LT];omega
def qep:∀{l:List am}{x:am},x∈l->jm x<=HS l
 | y :: l,x,h => by
  rw[HS];rcases oL.1 h with rfl|h;.omega
  .have:=qep h;omega
def qeo:∀(l:List am),l.length<=HS l
 |[]=>by simp[HS]
 |p::l=>by rw[HS];have:=qeo l;have:=qib p;simp only[vz];omega
def pp{t a:am}(h:a∈t.Args):jm a<jm t:=by rw[LT t];have:=qep h;omega
def qF(t:am):t.Args.length<jm t:=by rw[LT];have:=qeo t.Args;omega
def qez(t:am):t.Names.length<jm t:=by rw[LT];omega
def Rm(t:am):t.Preds.length<jm t:=by rw[LT];omega
mutual
def qfy(a:ah->Prop):am->Prop|⟨_,_,xs,_,p,ps⟩=>a p/\(∀q∈ps,a q)/\X2 a xs
def X2(b:ah->Prop):List am->Prop|[]=>True|a::xs=>qfy b a/\X2 b xs
end
def UJ(d:ah->Prop)(t:am):qfy d t↔d t.Pred/\(∀q∈t.Preds,d q)/\X2 d t.Args:=by let⟨o,n,c,a,p,b⟩:=t;rw[qfy];rfl
def qd2(b:ah->Prop):∀(l:List am),X2 b l↔∀t∈l,qfy b t
 |[]=>by simp[X2]
 |a::l=>by rw[X2,qd2 b l];simp
def qnr{c:ah->Prop}{t a:am}(h:qfy c t)(b:a∈t.Args):qfy c a:=(qd2 c _).1 ((UJ c t).1 h).2.2 a b
def qsk(l:V ah):l.length<=bC (l.map ag):=by have:=qjH l;have:=qkT l;omega
def qsl(l:V ae):l.length<=bC (l.map cS):=by
 have h:=qiK (l.map cS) (λx a=>by
  obtain⟨s,_,rfl⟩:=m8.1 a;simp only[cS,dc,pm];omega)
 rwa[vbJ]at h
def Qq(t:am):dc (al t)=1+(pm (.str t.Name)+(pm (sl al t.Args)+(pm (sl cS t.Names)+(1+(pm (.str t.Pred.Name)+(1+(pm (sl ag t.Pred.Kids)+(pm (sl ag t.Preds)+0)))))))):=by rw[cY];rfl
mutual
def qgj:∀(t:am),jm t<=dc (al t)
 |⟨o,n,xs,ns,p,ps⟩=>by
  have a:=qia xs;have b:=qsk ps;have c:=qsl ns;rw[jm,Qq];show _<=1+(pm (.str n)+(pm (sl al xs)+(pm (sl cS ns)+(1+(pm (.str p.Name)+(1+(pm (sl ag p.Kids)+(pm (sl ag ps)+0))))))))
  simp only[pm,sl];omega
def qia:∀(l:List am),HS l<=bC (l.map al)
 |[]=>by simp[HS]
 |a::l=>by have:=qgj a;have:=qia l;rw[HS];simp only[ox,bC];omega
end
def qrB(t:am):nP t.Pred<=dc (al t):=by have h:=qkT t.Pred.Kids;rw[qin,Qq];simp only[pm,sl];omega
mutual
def qkh(B:Nat):∀(t:am),dc (al t)<=B->qfy (λp=>nP p<=B) t
 |⟨o,n,xs,ns,p,ps⟩,h=>by have a:=qrB ⟨o,n,xs,ns,p,ps⟩;rw[Qq]at h a;have h:1+(pm (.str n)+(pm (sl al xs)+(pm (sl cS ns)+(1+(pm (.str p.Name)+(1+(pm (sl ag p.Kids)+(pm (sl ag ps)+0))))))))<=B:=h;have a:nP p<=1+(pm (.str n)+(pm (sl al xs)+(pm (sl cS ns)+(1+(pm (.str p.Name)+(1+(pm (sl ag p.Kids)+(pm (sl ag ps)+0)))))))):=a;simp only[pm,sl]at h a;rw[qfy];refine⟨by omega,λq b=>?_,qhx B xs (by omega)⟩;have c:=qbW q;have d:=Ka (m8.2 ⟨q,b,rfl⟩:ag q∈ps.map ag);omega
def qhx(B:Nat):∀(l:List am),bC (l.map al)<=B->X2 (λp=>nP p<=B) l
 |[],_=>trivial
 |a::xs,h=>by simp only[ox,bC]at h;rw[X2];exact⟨qkh B a (by omega),qhx B xs (by omega)⟩
end
end Go.Proofs.YtibglelmlnfojaaGreatDoor
