/- PROVED: a part of the proof. Conditions: none. -/
import Derived.Test.YtankopenjcbeeaaGreatDoorPkO23
import Derived.Test.YtankopenjcbeeaaGreatDoorPkO22
set_option linter.unusedSimpArgs false set_option linter.defProp false
set_option linter.unusedVariables false
noncomputable section
namespace Go.Proofs.YtankopenjcbeeaaGreatDoor
open Go
open Option renaming some→O,none→N
open Go renaming TypeId→G,Value→D,Program→I,Oper→M,World→J,Code→W
open Bool renaming true→T,false→Z
open Decidable renaming decide→Y
open YtankopenjcbeeaaGreatDoor renaming PVal→U
def Zq(a:V aa)(s:aa)(h:a.length<9223372036854775808):∃r,sI a s=O r:=by
 have b:fY (nV a s (a.length:Int) 0) (λ_=>True):=by
  unfold nV;refine kz a h (λi (_:Unit)=>i) (λ_ _=>True) (λi c _ _=>?_) (λ_ _=>?_) () trivial;.show fY (eO a s (a.length:Int) (i:Int)) _;unfold eO;rw[l7 (Xk c),aC _ _ c,eJ];exact aG (λ_=>ak hV) λ_=>ak ⟨(),rfl,hV⟩
  .show fY (eO a s (a.length:Int) (a.length:Int)) _;unfold eO;rw[hG (Yl _)];exact ak hV
 let⟨r,e,_⟩:=b;unfold sI slices_Index;rw[e];cases r<;>exact⟨_,rfl⟩
def qed(l:V aa):(T5 l).Nodup:=vc6 (λ{a b} hab he=>by subst he;unfold qcV at hab;rw[wV]at hab;cases hab) (xq l).1
def VL{m:am}(a:qcJ m):m.Defs.length<9223372036854775808:=by have:=a.1;omega
def qbb{m:am}(b:qcJ m)(x:aa):nE (aX m x).1.Body<=300000000/\(aX m x).1.Params.length<=300000000:=by cases h:(aX m x).2 with|true=>exact b.2 _ (L7 h)| false =>unfold aX at h ⊢;cases a:m.Defs.find? (λd=>d.Name==x)with|none=>have:=P9 (⟨0,[],0,[],[],[],[]⟩:ah);rw[jN]at this;exact⟨m0 this (by show 1+(0+1+(1+(0+1+(0+1+(0+1+(0+1+0))))))<=_;omega),by show 0<=_;omega⟩|some d=>rw[a]at h;cases h
def P6{m:am}(E:qcJ m){d:ba}(P:nE d.Body<=300000000)(S:d.Params.length<=300000000):fY (gr m d) (λL=>L.Nodup/\∀x∈L,(aX m x).2=T):=by
 have z:=qcp (freeS d.Body);have H:=X5 d.Body;have t:=qed (freeS d.Body);unfold gr;rw[qjs _ (by unfold cz;omega),eJ];generalize T5 (freeS d.Body)=l at z t;refine aA (R:=λL=>L.Sublist l/\∀x∈L,(aX m x).2=T) ?_ λL s=>ak ⟨t.sublist s.1,s.2⟩;unfold sP;refine kz l (by omega) (λi a=>(a,i)) (λi a=>a.Sublist (l.take i)/\∀x∈a,(aX m x).2=T) (λi p a o=>?_) (λa o=>?_) [] ⟨List.nil_sublist _,by simp⟩
 .let⟨q,y⟩:=o;have b:=q.length_le;rw[vbb]at b;have w:l.take (i+1)=l.take i++[l[i]]:=vas p;show fY (eT m d l (l.length:Int) a (i:Int)) _;unfold eT;rw[l7 (Xk p),aC _ _ p,eJ,qn _ _ (VL E),eJ];have A:∃r,ng d l[i] (aX m l[i]).2=O r/\(r=T->(aX m l[i]).2=T):=by
   unfold ng;let⟨r,e⟩:=Zq d.Params l[i] (by omega);rw[e];cases(aX m l[i]).2;.exact⟨Z,rfl,λh=>by cases h⟩
   .exact⟨_,rfl,λ_=>rfl⟩
  let⟨r,e,F⟩:=A;rw[e,eJ];refine aG (λB=>?_) λ_=>ak ⟨a,rfl,by rw[w];exact q.trans (List.sublist_append_left _ _),y⟩;rw[gJ (by simp only[p6,List.length_nil];omega)];refine ak ⟨a++[l[i]],rfl,by rw[w];exact q.append_right _,λx c=>?_⟩;rcases vz.1 c with c|c;.exact y x c
  .rw[va1.1 c];exact F B
 .show fY (eT m d l (l.length:Int) a (l.length:Int)) _;unfold eT;rw[hG (Yl _)];rw[vaR]at o;exact ak o
def uf.len{m:am}{s:V (aa×K)}(h:uf m s):s.length<=m.Defs.length:=by obtain⟨L,rfl,c,b⟩:=h;have a:=(By L [] (by simp[rz])).2.2;have d:=Mj c b;simp only[List.length_nil]at a;omega
def uf.keys{m:am}{s:V (aa×K)}(h:uf m s):∀x∈s.map (·.1),(aX m x).2=true:=by
 obtain⟨L,rfl,d,b⟩:=h;intro x c;have a:=((By L [] (by simp[rz])).2.1 x).1 c;rcases a with a|a;.cases a
 .exact b x a
def uf.nil(m:am):uf m []:=⟨[],rfl,by simp,by simp⟩
def Yo:∀(s:List (aa×K))(x:aa),(∀e∈s,e.2=T)->iP s x=T->mq s x T=s
 |[],x,_,h=>by cases h
 | e :: r,x,hs,h => by
  unfold mq;by_cases c:(x==e.1)=T;.rw[l7 c];have d:=hs e (by simp);let⟨a,b⟩:=e;simp only at d c;rw[d,eq_of_beq c]
  .rw[hG c,Yo r x (λy i=>hs y (by simp[i]))];unfold iP oe at h ⊢;rw[List.find?_cons]at h;simp only[c]at h;exact h
def XJ:∀(l:List aa)(s:List (aa×K)),(∀e∈s,e.2=T)->∀e∈lN s l,e.2=T
 |[],s,h=>h
 | k :: l,s,h => XJ l (mq s k T) (by
   have d:∀s:List (aa×K),(∀e∈s,e.2=T)->∀e∈mq s k T,e.2=true:=by
    intro s;induction s with
    |nil=>intro _ e b;simp[mq]at b;rw[b]
    | cons a s ih =>
     intro c e b;unfold mq at b;split at b
     .rcases x8.1 b with rfl|b;.rfl
      .exact c e (by simp[b])
     .rcases x8.1 b with rfl|b;.exact c _ (by simp)
      .exact ih (λy i=>c y (by simp[i])) e b
   exact d s h)
def uf.add{m:am}{s:V (aa×K)}{x:aa}(h:uf m s)(c:(aX m x).2=T):uf m (mq s x T):=by cases a:iP s x with|false=>exact h.put c a|true=>obtain⟨L,rfl,d,b⟩:=h;rw[Yo _ _ (XJ L [] (by simp)) a];exact⟨L,rfl,d,b⟩
def YF{m:am}(c:qcJ m)(a:aa):fY (fc m a) (uf m):=by
 unfold fc;refine aA (R:=uf m) ?_ λs X=>ak X;unfold zk;have hd:lG m []<=m.Defs.length:=by unfold lG;have:=va8 (λx=>!iP [] x) (m.Defs.map (·.Name));rw[va0]at this;exact this
 have L:=c.1;refine qcx (λs:V aa×V (aa×K)=>uf m s.2/\2 * lG m s.2+s.1.length<=61) (λs=>2 * lG m s.2+s.1.length) (λs b=>?_) ([a],[]) ⟨uf.nil m,by simp only[p6,List.length_nil];omega⟩;let⟨work,d⟩:=s;let⟨z,i2⟩:=b;simp only at z i2;show fY (kF m work d) _;unfold kF;refine aG (λe=>?_) λ_=>ak z;have E:0<work.length:=by simpa using e
 let⟨t,y⟩:=qbb c work[0];have H:cJ work 0=O work[0]:=aC work 0 E;rw[H,eJ,qn _ _ (VL c),eJ,show(1:Int)=((1:Nat):Int)from rfl,CB work 1 E,eJ];refine aA (P6 c t y) λl p=>?_;have S:=Mj p.1 p.2;have P:(work.drop 1).length=work.length - 1:=vbC;refine aA (R:=λo=>uf m o.2/\2 * lG m o.2+o.1.length<=2 * lG m d+(work.length - 1)) ?_ λo r=>ak ⟨⟨r.1,by have:=r.2;simp only;omega⟩,by have:=r.2;simp only;omega⟩;unfold I8;refine kz l (by omega) (λi (s:V aa×V (aa×K))=>(s.1,i,s.2)) (λi s=>uf m s.2/\2 * lG m s.2+s.1.length<=2 * lG m d+(work.length - 1)) (λi h s b=>?_) (λs b=>?_) (work.drop 1,d) ⟨z,by simp only;omega⟩
 .let⟨w,s⟩:=s;let⟨A,F⟩:=b;simp only at A F;have B:=p.2 _ (mx h);show fY (iD l (l.length:Int) w (i:Int) s) _;unfold iD;rw[l7 (Xk h),aC _ _ h,eJ];refine aG (λe=>?_) λ_=>ak ⟨(w,s),rfl,A,F⟩;have hx:iP s l[i]=false:=by simpa using e
  rw[gJ (by simp only[p6,List.length_nil];omega)];have q:=VJ B hx;refine ak ⟨(w++[l[i]],mq s l[i] T),rfl,A.add B,?_⟩;simp only[oo,p6,List.length_nil];change lG m (mq s l[i] T)<lG m s at q;omega
 .let⟨w,s⟩:=s;show fY (iD l (l.length:Int) w (l.length:Int) s) _;unfold iD;rw[hG (Yl _)];exact ak b
def qgb{m:am}(c:qcJ m){a:aa}(o:(aX m a).2=T):fY (nf m a) (λL=>L.length<=31/\∀x∈L,(aX m x).2=T):=by
 have i:=c.1;unfold nf;refine aA (YF c a) λR d=>?_;have h:=d.len;rw[l7]
 .refine ak ⟨?_,λx b=>?_⟩;.rw[(gd _).length_eq];have:=va8 (qku m a) (R.map λe=>e.1);rw[va0]at this;simp only[p6];omega
  .have b:=(gd _).mem_iff.1 b;rcases x8.1 b with rfl|b;.exact o
   .exact d.keys x (vaX.1 b).1
 .rw[ne,vaE,oy];refine⟨λe _=>?_,by unfold bO;omega⟩;let⟨r,e,_⟩:=YF c e.1;rw[e];simp
def qbN(k:aa):∀m:List (aa×K),(AR m k).length<=m.length
 |[]=>l8 _
 | e :: r => by
  unfold AR;split;.simp
  .have:=qbN k r;simp only[p6];omega
def Yn:∀(l:List aa)(m:List (aa×K)),(l.foldl AR m).length<=m.length|[],m=>l8 _|k::l,m=>m0 (Yn l (AR m k)) (qbN k m)
def LC(s:V (aa×K))(h:s.length<=30):fY (lu s) (λl=>l.length<=30):=by unfold lu;rw[l7 (by simp only[oy];unfold bO;omega)];refine ak ?_;rw[(gd _).length_eq,va0];exact h
def qie{m:am}(q:qcJ m){d:aa}(hk:(aX m d).2=T):fY (mQ m d) (λr=>r.1.length<=30/\r.2.length<=30):=by
 have a1:=q.1;have hd:lG m []<=m.Defs.length:=by unfold lG;have:=va8 (λx=>!iP [] x) (m.Defs.map (·.Name));rw[va0]at this;exact this
 unfold mQ;refine aA (R:=λo=>uf m o.1/\uf m o.2) ?_ λo p=>?_
 .unfold BW;refine qcx (λs:V aa×V (aa×K)×V (aa×K)=>uf m s.2.1/\uf m s.2.2/\(∀x∈s.1,(aX m x).2=T)/\100 * lG m s.2.1+s.1.length<=3001) (λs=>100 * lG m s.2.1+s.1.length) (λs t=>?_) ([d],[],[]) ⟨uf.nil m,uf.nil m,by simpa using hk,by simp only[p6,List.length_nil];omega⟩;let⟨work,F,m2⟩:=s;let⟨E,B,i3,i4⟩:=t;simp only at E B i3 i4;show fY (ml m work F m2) _;unfold ml;refine aG (λhc=>?_) λ_=>ak ⟨E,B⟩;have S:0<work.length:=by simpa using hc
  have h:=i3 _ (mx S);have e0:cJ work 0=O work[0]:=aC work 0 S;have a2:(work.drop 1).length=work.length - 1:=vbC;have y:∀x∈work.drop 1,(aX m x).2=true:=λx c=>i3 x (List.mem_of_mem_drop c);rw[e0,eJ,show(1:Int)=((1:Nat):Int)from rfl,CB work 1 S,eJ];refine aG (λ_=>ak ⟨⟨E,B,y,by simp only;omega⟩,by simp only;omega⟩) λhn=>?_;have c:iP F work[0]=false:=by simpa using hn
  have P:=VJ h c;change lG m (mq F work[0] T)<lG m F at P;have e:=E.add h;refine aA (qgb q h) λg hg=>?_
  have z:∀x∈work.drop 1++g,(aX m x).2=true:=λx c=>by
   rcases vz.1 c with c|c;.exact y x c
   .exact hg.2 x c
  have a3:=hg.1;rw[gJ (by omega),eJ,qn _ _ (VL q),eJ];refine aG (λ_=>ak ⟨⟨e,B,z,by simp only[oo];omega⟩,by simp only[oo];omega⟩) λ_=>?_;let⟨X,a0⟩:=qbb q work[0];refine aA (P6 q X a0) λl L=>?_;have a4:=Mj L.1 L.2;refine aA (R:=λo=>uf m o.2/\(∀x∈o.1,(aX m x).2=T)/\o.1.length<=(work.drop 1++g).length+l.length) ?_ λo p=>ak ⟨⟨e,p.1,p.2.1,by have:=p.2.2;simp only[oo]at this ⊢;omega⟩,by have:=p.2.2;simp only[oo]at this ⊢;omega⟩;unfold BX;refine kz l (by omega) (λi (s:V aa×V (aa×K))=>(s.1,i,s.2)) (λi s=>uf m s.2/\(∀x∈s.1,(aX m x).2=T)/\s.1.length<=(work.drop 1++g).length+i) (λi H s t=>?_) (λs t=>?_) (work.drop 1++g,m2) ⟨B,z,l8 _⟩
  .let⟨w,s⟩:=s;let⟨j1,j2,j3⟩:=t;simp only at j1 j2 j3;have A:=L.2 _ (mx H);show fY (gK m l (l.length:Int) w (i:Int) s) _;unfold gK;rw[l7 (Xk H),aC _ _ H,eJ,qn _ _ (VL q),eJ];refine aG (λ_=>ak ⟨(w,mq s l[i] T),rfl,j1.add A,j2,by simp only;omega⟩) λ_=>?_;rw[oo]at j3;rw[gJ (by simp only[p6,List.length_nil];omega)];refine ak ⟨(w++[l[i]],s),rfl,j1,λx c=>?_,by simp only[oo,p6,List.length_nil];omega⟩;rcases vz.1 c with c|c;.exact j2 x c
   .rw[va1.1 c];exact A
  .let⟨w,s⟩:=s;show fY (gK m l (l.length:Int) w (l.length:Int) s) _;unfold gK;rw[hG (Yl _)];exact ak t
 .have h1:=p.1.len;have h2:=p.2.len;unfold qi5;rw[eJ];have h3:=Yn (o.1.map (·.1)) o.2;exact aA (LC _ (by omega)) λa ha=>aA (LC _ (by omega)) λb hb=>ak ⟨ha,hb⟩
def qi3(b:ba):dB (aL b)<=(b.Name.length+1)+(bL (b.Params.map cS)+1)+dB (al b.Body)+dB (cr b.Sig)+4:=by unfold aL;simp only[jM,dB,pm,sl];omega
structure qmH(m:am):Prop where
 ok:qcJ m
 pm:dB (au m)<=1100000
 few:m.Datas.length<=10/\m.Measures.length<=10/\m.Quals.length<=10/\m.Defs.length<=10
def qrs:dB (aL ⟨[],[],⟨0,[],0,[],[],[],[]⟩,0,Z,⟨[],[],[],[],⟨0,[],[],[],⟨0,[],0,[]⟩,[]⟩,[]⟩⟩)<=100:=by have h:=qi3 ⟨[],[],⟨0,[],0,[],[],[],[]⟩,0,Z,⟨[],[],[],[],⟨0,[],[],[],⟨0,[],0,[]⟩,[]⟩,[]⟩⟩;rw[jN,qqN,Wh,mw]at h;exact m0 h (by decide)
def Vh{m:am}(h:qmH m)(x:aa):dB (aL (aX m x).1)<=1100000:=by have e:=AQ m;have c:=h.pm;cases a:(aX m x).2 with|true=>have:=kQ aL (L7 a);omega|false=>unfold aX at a ⊢;cases b:m.Defs.find? (λd=>d.Name==x)with|none=>exact m0 qrs (by omega)|some d=>rw[b]at a;cases a
def qgm{m:am}(h:qmH m){x:aa}(b:(aX m x).2=T):x.length<=1100000:=by obtain⟨d,a,rfl⟩:=l9.1 (VE b);have o:=AQ m;have c:=h.pm;have e:=kQ aL a;have i:=qbM d;omega
def Xe{m:am}(h:qmH m)(x:aa):∃s,fb m x=O s/\s.length<=40000:=by
 have q:=Vh h x;have o:=qbM (aX m x).1;unfold fb;rw[qn _ _ (VL h.ok),eJ];split;.exact⟨[],rfl,by simp⟩
 .have b:∃r,lP (aX m x).1.Mode (aX m x).1.Typed=O r:=by
   unfold lP
   split
   .exact⟨_,rfl⟩
   .exact⟨_,rfl⟩
  let⟨r,e⟩:=b
  unfold qU
  rw[e,eJ]
  have i:=jN (⟨(aX m x).1.Body.Op,(aX m x).1.Body.Name,(aX m x).1.Body.N,(aX m x).1.Body.Kids,(aX m x).1.Body.Params,(aX m x).1.Body.Alts,(aX m x).1.Body.Types⟩:ah)
  have p:=jN (aX m x).1.Body
  have d:=jN (⟨0,[],0,[],[],[],[]⟩:ah)
  change dB _=1+(0+1+(1+(0+1+(0+1+(0+1+(0+1+0))))))at d
  change dB _=1+((aX m x).1.Body.Name.length+1+(1+(bL ((aX m x).1.Body.Kids.map al)+1+(bL ((aX m x).1.Body.Params.map aU)+1+(bL ((aX m x).1.Body.Alts.map bz)+1+(bL ((aX m x).1.Body.Types.map aj)+1+0))))))at i
  cases r with
  |true=>
   simp only[if_true,eJ]
   have a:=qi3 ⟨(aX m x).1.Name,(aX m x).1.Params,⟨0,[],0,[],[],[],[]⟩,1,(aX m x).1.Typed,(aX m x).1.Sig⟩
   simp only at a
   let⟨s,e,c⟩:=LK ⟨(aX m x).1.Name,(aX m x).1.Params,⟨0,[],0,[],[],[],[]⟩,1,(aX m x).1.Typed,(aX m x).1.Sig⟩ (by omega)
   rw[e]
   exact⟨s,rfl,c⟩
  |false=>
   simp only[vaF,if_false,eJ]
   have a:=qi3 ⟨(aX m x).1.Name,(aX m x).1.Params,⟨(aX m x).1.Body.Op,(aX m x).1.Body.Name,(aX m x).1.Body.N,(aX m x).1.Body.Kids,(aX m x).1.Body.Params,(aX m x).1.Body.Alts,(aX m x).1.Body.Types⟩,(aX m x).1.Mode,(aX m x).1.Typed,(aX m x).1.Sig⟩
   simp only at a
   let⟨s,e,c⟩:=LK ⟨(aX m x).1.Name,(aX m x).1.Params,⟨(aX m x).1.Body.Op,(aX m x).1.Body.Name,(aX m x).1.Body.N,(aX m x).1.Body.Kids,(aX m x).1.Body.Params,(aX m x).1.Body.Alts,(aX m x).1.Body.Types⟩,(aX m x).1.Mode,(aX m x).1.Typed,(aX m x).1.Sig⟩ (by omega)
   rw[e]
   exact⟨s,rfl,c⟩
def qod{α:Type}(l:V α)(i:Nat)(a:i<l.length):(l.take (i+1)).drop i=[l[i]]:=by rw[List.drop_take,vaN a,show i+1 - i=1 by omega];rfl
def qaW{m:am}(h:qmH m)(c:aa):fY (ig m c) (λl=>l.length<=30/\∀x∈l,(aX m x).2=T):=by
 let⟨L,e,t,y⟩:=UT h.ok c;have r:=qcp L;have b:∀x∈T5 L,(aX m x).2=true:=λx d=>((t x).1 (((xq L).2 x).1 d)).known;unfold ig;rw[e,eJ];generalize T5 L=l at r b;refine aA (R:=λa=>a.length<=30/\∀x∈a,(aX m x).2=T) ?_ λo w=>ak w;unfold uv;refine kz l (by omega) (λi a=>(a,i)) (λi (a:V aa)=>a.length<=i/\∀x∈a,(aX m x).2=T) (λi q a p=>?_) (λa p=>?_) [] ⟨l8 _,by simp⟩
 .let⟨z,s⟩:=p;show fY (fh m l (l.length:Int) a (i:Int)) _;unfold fh;rw[l7 (Xk q),aC _ _ q,eJ,qn _ _ (VL h.ok),eJ];refine aG (λ_=>?_) λ_=>ak ⟨a,rfl,by omega,s⟩;rw[gJ (by simp only[p6,List.length_nil];omega)];refine ak ⟨a++[l[i]],rfl,by simp only[oo,p6,List.length_nil];omega,λx d=>?_⟩;rcases vz.1 d with d|d;.exact s x d
  .rw[va1.1 d];exact b _ (mx q)
 .show fY (fh m l (l.length:Int) a (l.length:Int)) _;unfold fh;rw[hG (Yl _)];exact ak ⟨by omega,p.2⟩
def IP(m:am)(h:m.Defs.length<=1073741824):fF m=O (m.Defs.filter λd=>d.Mode==2):=by
 unfold fF An;have g:=dw m.Defs.length (λc:V ba×Int=>gE m.Defs (m.Defs.length:Int) c.1 c.2) (λi=>((m.Defs.take i).filter (λd=>d.Mode==2),(i:Int))) (m.Defs.filter λd=>d.Mode==2) (λi b=>?_) ?_;.rw[show(([]:V ba),(0:Int))=(λi:Nat=>((m.Defs.take i).filter (λd=>d.Mode==2),(i:Int))) 0 by simp,g];rfl
 .have e:=va8 (λd:ba=>d.Mode==2) (m.Defs.take i);rw[vbb]at e;simp only[gE];rw[l7 (Xk b),aC _ _ b,eJ,vas b,vb6];by_cases a:(m.Defs[i].Mode==2)=T;.rw[l7 a,gJ (by simp only[p6,List.length_nil];omega),eJ,ch (by omega) (by omega)];simp[a]
  .rw[hG a,ch (by omega) (by omega)];simp[a]
 .simp only[gE];rw[hG (Yl _),vaR]
def qfI{m:am}(h:qmH m){p:aa}(hk:(aX m p).2=T):∃s,uy m p=O s/\s.length<=1073741824:=by
 let⟨f1,f2,f3,f4⟩:=h.few;have hp:=AQ m;have h0:=h.pm;have a0:=Vh h p;let⟨E,X,dl⟩:=LK (aX m p).1 (by omega);have hz:XG.length=1:=rfl;unfold uy;rw[qn _ _ (VL h.ok),eJ];split;.rw[X,eJ];have:=qeX (t:=[]) (s:=E) (by simp only[List.length_nil];omega);change d8 E []=_ at this;rw[this,eJ];have e:BT (ir ([]++(E++XG)))=O ([]++(E++XG)):=Zl _;rw[e];exact⟨_,rfl,by simp only[va9,oo];omega⟩
 .have g1:∀t:aa,t.length<=10000000->∃o,nH m (m.Datas.length:Int) 0 (ir t)=O (ir o)/\o.length<=t.length+m.Datas.length * 1100001:=λt y=>by
   unfold nH
   refine xe m.Datas.length (by omega) (λi=>(SB m.Datas (O (i:Int)) (O (dc ((i:Int)+1)))).bind λB=>ft ⟨B,[],[],[],[],[]⟩) (λi b=>?_) _ (λi k b=>?_) (λk=>?_) t (by omega)
   .rw[ch (by omega) (by omega),show((i:Int)+1)=((i+1:Nat):Int) by omega,UB _ _ _ (by omega) (by omega),eJ]
    have e:(m.Datas.take (i+1)).drop i=[m.Datas[i]]:=qod _ i b
    rw[e]
    have z:=kQ bP (mx b)
    let⟨s,q,w⟩:=HO ⟨[m.Datas[i]],[],[],[],[],[]⟩ rfl rfl (by rw[AQ];simp only[ox,vbt,bL];omega)
    exact⟨s,q,by omega⟩
   .show fZ m (m.Datas.length:Int) (i:Int) k=_
    unfold fZ
    rw[l7 (Xk b),vbG]
   .show fZ m (m.Datas.length:Int) (m.Datas.length:Int) k=_
    unfold fZ
    rw[hG (Yl _)]
  have g2:∀t:aa,t.length<=30000000->∃o,sy m (m.Measures.length:Int) 0 (ir t)=O (ir o)/\o.length<=t.length+m.Measures.length * 1100001:=λt y=>by
   unfold sy;refine xe m.Measures.length (by omega) (λi=>(SB m.Measures (O (i:Int)) (O (dc ((i:Int)+1)))).bind λB=>ft ⟨[],[],[],B,[],[]⟩) (λi b=>?_) _ (λi k b=>?_) (λk=>?_) t (by omega);.rw[ch (by omega) (by omega),show((i:Int)+1)=((i+1:Nat):Int) by omega,UB _ _ _ (by omega) (by omega),eJ];have e:(m.Measures.take (i+1)).drop i=[m.Measures[i]]:=qod _ i b;rw[e];have z:=kQ aO (mx b);let⟨s,q,w⟩:=HO ⟨[],[],[],[m.Measures[i]],[],[]⟩ rfl rfl (by rw[AQ];simp only[ox,vbt,bL];omega);exact⟨s,q,by omega⟩
   .show f0 m (m.Measures.length:Int) (i:Int) k=_;unfold f0;rw[l7 (Xk b),vbG]
   .show f0 m (m.Measures.length:Int) (m.Measures.length:Int) k=_;unfold f0;rw[hG (Yl _)]
  have g3:∀t:aa,t.length<=50000000->∃o,sA m (m.Quals.length:Int) 0 (ir t)=O (ir o)/\o.length<=t.length+m.Quals.length * 1100001:=λt y=>by
   unfold sA;refine xe m.Quals.length (by omega) (λi=>(SB m.Quals (O (i:Int)) (O (dc ((i:Int)+1)))).bind λB=>ft ⟨[],[],[],[],B,[]⟩) (λi b=>?_) _ (λi k b=>?_) (λk=>?_) t (by omega);.rw[ch (by omega) (by omega),show((i:Int)+1)=((i+1:Nat):Int) by omega,UB _ _ _ (by omega) (by omega),eJ];have e:(m.Quals.take (i+1)).drop i=[m.Quals[i]]:=qod _ i b;rw[e];have z:=kQ cj (mx b);let⟨s,q,w⟩:=HO ⟨[],[],[],[],[m.Quals[i]],[]⟩ rfl rfl (by rw[AQ];simp only[ox,vbt,bL];omega);exact⟨s,q,by omega⟩
   .show f7 m (m.Quals.length:Int) (i:Int) k=_;unfold f7;rw[l7 (Xk b),vbG]
   .show f7 m (m.Quals.length:Int) (m.Quals.length:Int) k=_;unfold f7;rw[hG (Yl _)]
  have g4:∀(l:V ba)(t:aa),l.length<=30->(∀d∈l,dB (aL d)<=1100000)->t.length<=100000000->∃o,zi l (l.length:Int) 0 (ir t)=O (ir o)/\o.length<=t.length+l.length * 1100001:=λl t w A y=>by
   unfold zi;refine xe l.length (by omega) (λi=>(cJ l (i:Int)).bind kG) (λi b=>?_) _ (λi k b=>?_) (λk=>?_) t (by omega);.rw[aC _ _ b,eJ];let⟨s,e,z⟩:=LK l[i] (by have:=A _ (mx b);omega);exact⟨s,e,by omega⟩
   .show iB l (l.length:Int) (i:Int) k=_;unfold iB;rw[l7 (Xk b),vbG]
   .show iB l (l.length:Int) (l.length:Int) k=_;unfold iB;rw[hG (Yl _)]
  have g5:∀(l:V aa)(t:aa),l.length<=30->t.length<=200000000->∃o,sB m l (l.length:Int) 0 (ir t)=O (ir o)/\o.length<=t.length+l.length * 1100001:=λl t w y=>by
   unfold sB;refine xe l.length (by omega) (λi=>(cJ l (i:Int)).bind λx=>(dM m x).bind λr=>kG r.1) (λi b=>?_) _ (λi k b=>?_) (λk=>?_) t (by omega);.rw[aC _ _ b,eJ,qn _ _ (VL h.ok),eJ];let⟨s,e,z⟩:=LK (aX m l[i]).1 (by have:=Vh h l[i];omega);exact⟨s,e,by omega⟩
   .show ga m l (l.length:Int) (i:Int) k=_;unfold ga;rw[l7 (Xk b)];simp only[vbG]
   .show ga m l (l.length:Int) (l.length:Int) k=_;unfold ga;rw[hG (Yl _)]
  have g6:∀(l:V aa)(t:aa),l.length<=30->t.length<=300000000->∃o,sC m l (l.length:Int) 0 (ir t)=O (ir o)/\o.length<=t.length+l.length * 1100001:=λl t w y=>by
   unfold sC;refine xe l.length (by omega) (λi=>(cJ l (i:Int)).bind λx=>fb m x) (λi b=>?_) _ (λi k b=>?_) (λk=>?_) t (by omega);.rw[aC _ _ b,eJ];let⟨s,e,z⟩:=Xe h l[i];exact⟨s,e,by omega⟩
   .show gb m l (l.length:Int) (i:Int) k=_;unfold gb;rw[l7 (Xk b),vbG]
   .show gb m l (l.length:Int) (l.length:Int) k=_;unfold gb;rw[hG (Yl _)]
  have g7:∀(l:V aa)(t:aa),l.length<=30->(∀x∈l,(aX m x).2=T)->t.length<=400000000->∃o,zj l (l.length:Int) 0 (ir t)=O (ir o)/\o.length<=t.length+l.length * 1100001:=λl t w A y=>by
   unfold zj;refine xe l.length (by omega) (λi=>cJ l (i:Int)) (λi b=>?_) _ (λi k b=>?_) (λk=>?_) t (by omega);.rw[aC _ _ b];exact⟨_,rfl,m0 (qgm h (A _ (mx b))) (by omega)⟩
   .show iC l (l.length:Int) (i:Int) k=_;unfold iC;rw[l7 (Xk b)]
   .show iC l (l.length:Int) (l.length:Int) k=_;unfold iC;rw[hG (Yl _)]
  let⟨t1,F,P⟩:=g1 [] (by simp)
  change nH m (m.Datas.length:Int) 0 []=_ at F
  simp only[List.length_nil]at P
  let⟨t2,q,b2⟩:=g2 t1 (by omega)
  let⟨t3,e3,b3⟩:=g3 t2 (by omega)
  have a3:=va8 (λd:ba=>d.Mode==2) m.Defs
  let⟨t4,e4,b4⟩:=g4 (m.Defs.filter λd=>d.Mode==2) t3 (by omega) (λd A=>by have:=kQ aL (vaX.1 A).1;omega) (by omega)
  let⟨c,ec,R,S⟩:=qie h.ok hk
  let⟨t5,e5,b5⟩:=g5 c.1 t4 R (by omega)
  let⟨t6,e6,b6⟩:=g6 c.2 t5 S (by omega)
  let⟨a,ea,H,L⟩:=qaW h p
  let⟨t7,e7,b7⟩:=g7 a t6 H L (by omega)
  have e8:BT (ir t7)=O t7:=Zl _
  rw[F,eJ,q,eJ,e3,eJ,IP m (by omega),eJ,e4,eJ,ec,eJ,e5,eJ,e6,eJ,ea,eJ,e7,eJ,e8,eJ]
  exact⟨t7,rfl,by omega⟩
def qdh{m:am}(h:qmH m){a:aa}(b:(aX m a).2=T):∃v,eG m a=O v:=by let⟨s,e,c⟩:=qfI h b;let⟨v,ev⟩:=ql7 s c;unfold eG;rw[qn _ _ (VL h.ok),eJ,hG (by simp[b]),e,eJ,ev];exact⟨v,rfl⟩
section
variable{m b:am}(a:dM b=dM m)
include a
def Nx:gr b=gr m:=by funext d;unfold gr sP eT;rw[a]
def qd9:fc b=fc m:=by funext n;unfold fc zk kF;rw[a,Nx a]
def qdw:nf b=nf m:=by funext n;unfold nf qku;rw[qd9 a]
def qfY:mQ b=mQ m:=by funext n;unfold mQ BW ml BX gK;rw[a,Nx a,qdw a]
def VA:fb b=fb m:=by funext n;unfold fb;rw[a]
def Y9(c:gX b=gX m):ig b=ig m:=by funext n;unfold ig uv fh;rw[a,c]
def qbd(i:gX b=gX m)(h:fF b=fF m)(c:b.Datas=m.Datas)(d:b.Measures=m.Measures)(e:b.Quals=m.Quals):eG b=eG m:=by funext n;unfold eG uy nH fZ sy f0 sA f7 sB ga sC gb;rw[a,h,qfY a,VA a,Y9 a i,c,d,e]
end
def qcS:FT=O true:=by kernel_rfl
def qfj{m a:am}(c:aX a=aX m){x y:aa}(h:qhK a x y):qhK m x y:=by
 have b:M3 a=M3 m:=by funext z;unfold M3;rw[c]
 induction h with|one h=>exact .one (b▸h)|step h _ ih=>exact .step (b▸h) ih
def qow{m b:am}(d:aX b=aX m)(h:qcJ m)(o:qcJ b):gX b=gX m:=by funext x;let⟨L,e,p,_⟩:=UT h x;let⟨c,i,a,_⟩:=UT o x;rw[e,i];congr 1;refine Vz (xq c).1 (xq L).1 λy=>?_;rw[(xq c).2,(xq L).2,p,a];exact⟨qfj d,qfj d.symm⟩
def qtV{m a:am}(c:aX a=aX m)(h:qcJ m)(b:qcJ a):dM a=dM m:=by funext x;rw[qn _ _ (VL h),qn _ _ (VL b),c]
def qbo:∀(l:List ba)(x:aa),(l.map (·.Name)).Nodup->l.reverse.find? (λd=>d.Name==x)=l.find? (λd=>d.Name==x)
 |[],_,_=>rfl
 | a :: l,x,h => by
  rw[ox,vbI]at h;rw[vcx,List.find?_append,qbo l x h.2,List.find?_cons];cases b:(a.Name==x)with
  | true =>
   have:l.find? (λd=>d.Name==x)=N:=by rw[vco];intro d c e;exact h.1 (l9.2 ⟨d,c,by rw[eq_of_beq e,eq_of_beq b]⟩)
   rw[this];simp[b]
  |false=>simp[b]
def qdp(l:V ba)(h:(l.filter λd=>d.Mode==2).length<=1):(l.reverse.filter λd=>d.Mode==2)=l.filter λd=>d.Mode==2:=by rw[List.filter_reverse];generalize l.filter (λd=>d.Mode==2)=r at h;match r,h with|[],_=>rfl|[_],_=>rfl
def qiz{m:am}{x:aa}(h:x∈m.Defs.map (·.Name)):(aX m x).2=true:=by obtain⟨d,a,rfl⟩:=l9.1 h;unfold aX;cases b:m.Defs.find? (λe=>e.Name==d.Name)with|none=>exact absurd (vco.1 b d a) (by simp)|some e=>rfl
def qoj{m:am}(p:dB (au m)<=1100000)(h:m.Defs.length<=10):qcJ m:=by refine⟨by omega,λd a=>?_⟩;have b:=AQ m;have c:=kQ aL a;have e:=qbM d;have i:=P9 d.Body;have o:=od cS (λs=>by simp only[cS,dB,pm];omega) d.Params;exact⟨by omega,by omega⟩
def qoM{m:am}(h:qmH m)(e:(m.Defs.map (·.Name)).Nodup)(c:(m.Defs.filter λd=>d.Mode==2).length<=1):eG ⟨m.Datas,m.Classes,m.Instances,m.Measures,m.Quals,m.Defs.reverse⟩=eG m:=by
 have b:qcJ ⟨m.Datas,m.Classes,m.Instances,m.Measures,m.Quals,m.Defs.reverse⟩:=⟨by rw[vbT];exact h.ok.1,λd a=>h.ok.2 d (vb3.1 a)⟩
 have a:aX ⟨m.Datas,m.Classes,m.Instances,m.Measures,m.Quals,m.Defs.reverse⟩=aX m:=by funext x;unfold aX;rw[qbo _ _ e]
 have i:=h.few.2.2.2;refine qbd (qtV a h.ok b) (qow a h.ok b) ?_ rfl rfl rfl;rw[IP _ (by rw[vbT];omega),IP _ (by omega),qdp _ c]
def qbT(m:am)(h:m.Defs.length<=1073741824):FU m=O (m.Defs.map (·.Name)):=by
 have g:=dw m.Defs.length (λb:V aa×Int=>po m.Defs (m.Defs.length:Int) b.1 b.2) (λi=>((m.Defs.take i).map (·.Name),(i:Int))) (m.Defs.map (·.Name)) (λi a=>?_) ?_;.unfold FU Ps;rw[show(([]:V aa),(0:Int))=(λi:Nat=>((m.Defs.take i).map (·.Name),(i:Int))) 0 by simp,g];rfl
 .simp only[po];rw[l7 (Xk a),aC _ _ a,eJ,vas a,va5];rw[gJ (by simp only[va0,vbb,p6,List.length_nil];omega),eJ,ch (by omega) (by omega)];rfl
 .simp only[po];rw[hG (Yl _),vaR]
def qlb{m:am}(h:∀d∈m.Defs,nE d.Body<=cz)(r:m.Defs.length<9223372036854775808):fY (Uj m) (λb=>b=T->m.Datas.length<=10/\m.Measures.length<=10/\m.Quals.length<=10/\m.Defs.length<=10):=by
 unfold Uj;refine aA (R:=λ_=>True) ?_ λo _=>?_
 .unfold NP;refine kz m.Defs r (λi (_:Unit)=>i) (λ_ _=>True) (λi a _ _=>?_) (λ_ _=>?_) () trivial
  .show fY (qi m.Defs (m.Defs.length:Int) (i:Int)) _;unfold qi NO;rw[l7 (Xk a),aC _ _ a,eJ,XZ,Sw _ (h _ (mx a)),eJ];refine aA (R:=λ_=>True) ?_ λo _=>aG (λ_=>ak hV) λ_=>ak ⟨(),rfl,hV⟩;repeat' refine aG (λ_=>ak hV) λ_=>?_
   exact ak hV
  .show fY (qi m.Defs (m.Defs.length:Int) (m.Defs.length:Int)) _;unfold qi;rw[hG (Yl _)];exact ak hV
 .cases o with
  |inl _=>exact ak λh=>by cases h
  |inr _=>
   refine aG (λc=>aG (λe=>aG (λp=>ak λq=>?_) λ_=>ak λh=>by cases h) λ_=>ak λh=>by cases h) λ_=>ak λh=>by cases h
   simp only[oy]at c e p q;omega
def qox{m:am}(h:m.Defs.length<=10):sN m (m.Defs.length:Int) 0 0 []=O (((m.Defs.filter λd=>d.Mode==2).length:Int),m.Defs.reverse):=by
 have g:=dw m.Defs.length (λc:Int×Int×V ba=>ib m (m.Defs.length:Int) c.1 c.2.1 c.2.2) (λi=>((((m.Defs.take i).filter λd=>d.Mode==2).length:Int),(i:Int),m.Defs.reverse.take i)) (((m.Defs.filter λd=>d.Mode==2).length:Int),m.Defs.reverse) (λi b=>?_) ?_;.unfold sN;rw[show((0:Int),(0:Int),([]:V ba))=(λi:Nat=>((((m.Defs.take i).filter λd=>d.Mode==2).length:Int),(i:Int),m.Defs.reverse.take i)) 0 by simp,g]
 .have o:=va8 (λd:ba=>d.Mode==2) (m.Defs.take i);rw[vbb]at o;have e:i<m.Defs.reverse.length:=by rw[vbT];exact b
  have p:m.Defs.reverse[i]=m.Defs[m.Defs.length - 1 - i]:=List.getElem_reverse e;simp only[ib];rw[l7 (Xk b),ch (n:=(m.Defs.length:Int) - 1) (by omega) (by omega),ch (n:=(m.Defs.length:Int) - 1 - (i:Int)) (by omega) (by omega),show(m.Defs.length:Int) - 1 - (i:Int)=((m.Defs.length - 1 - i:Nat):Int) by omega,aC _ _ (by omega),eJ,gJ (by simp only[vbb,vbT,p6,List.length_nil];omega),eJ,aC _ _ b,eJ,vas b,vb6,vas e,p];by_cases a:(m.Defs[i].Mode==2)=T;.rw[l7 a,ch (by omega) (by omega),ch (by omega) (by omega)];simp[a]
  .rw[hG a,ch (by omega) (by omega)];simp[a]
 .simp only[ib];rw[hG (Yl _),vaR,vb8 (by rw[vbT];exact l8 _)]
def So(x0:am)(h:dB (au x0)+0<=1048576):ze x0=O true:=by
 have R:=AQ x0;have t:∀d∈x0.Defs,nE d.Body<=cz:=λd w=>by have H:=kQ aL w;have L:=qbM d;have P:=P9 d.Body;unfold cz;omega
 have m:x0.Defs.length<=1048576:=by have:=od aL (λx=>by have:=qbM x;omega) x0.Defs;omega
 let⟨b,p,a⟩:=qlb t (by omega);have q:∃r,mZ x0=O r/\(r=Z->b=T/\(x0.Defs.map (·.Name)).Nodup):=by unfold mZ;rw[p,eJ];cases b with|false=>exact⟨T,rfl,λh=>by cases h⟩|true=>rw[hG (by decide),qbT _ (by omega),eJ,Bo _ (by rw[va0];omega),eJ];exact⟨_,rfl,λh=>⟨rfl,by simpa using h⟩⟩
 let⟨r,o,B⟩:=q;unfold ze;rw[o,eJ];cases r with
 |true=>rw[l7 rfl,qcS];rfl
 | false =>
  obtain⟨rfl,A⟩:=B rfl;have a:=a rfl;rw[hG (by decide),qox a.2.2.2,eJ];by_cases c:Y (((x0.Defs.filter λd=>d.Mode==2).length:Int)>1)=T;.rw[l7 c,qcS];rfl
  .rw[hG c,qbT _ (by omega),eJ];have ok:qmH x0:=⟨qoj (by omega) a.2.2.2,by omega,a⟩
   have E:=qoM ok A (by simp only[gt_iff_lt,oy]at c;omega);have s:na x0 (x0.Defs.map (·.Name)) ((x0.Defs.map (·.Name)).length:Int) x0.Datas x0.Classes x0.Instances x0.Measures x0.Quals x0.Defs.reverse 0=O (.inr ()):=by
    unfold na;refine dw (x0.Defs.map (·.Name)).length (λF:Int=>ic x0 (x0.Defs.map (·.Name)) ((x0.Defs.map (·.Name)).length:Int) x0.Datas x0.Classes x0.Instances x0.Measures x0.Quals x0.Defs.reverse F) (λi=>(i:Int)) (.inr ()) (λi e=>?_) ?_
    .have y:(aX x0 (x0.Defs.map (·.Name))[i]).2=true:=qiz (mx e);let⟨v,ev⟩:=qdh ok y;have z:(x0.Defs.map (·.Name)).length<=10:=by rw[va0];exact a.2.2.2
     simp only[ic];rw[l7 (Xk e),aC _ _ e,eJ,E,ev,eJ,eJ,hG (by simp),ch (by omega) (by omega)];rfl
    .simp only[ic];rw[hG (Yl _)]
   rw[s,eJ,qcS];rfl
end Go.Proofs.YtankopenjcbeeaaGreatDoor
