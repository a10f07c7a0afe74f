/- PROVED: a part of the proof. Conditions: none. -/
import Derived.Test.YtibglelmlnfojaaGreatDoorpt20
import Derived.Test.YtibglelmlnfojaaGreatDoorpt19
set_option linter.unusedSimpArgs false
set_option linter.unusedVariables false
noncomputable section
namespace Go.Proofs.YtibglelmlnfojaaGreatDoor
open Go
set_option linter.unusedVariables false
set_option linter.unusedSimpArgs false
abbrev Wr:=ae×Bool
def dz(ws:List Wr):Wr:=((ws.map (·.1)).flatten,ws.any (·.2))
abbrev tW(s:ae):Wr:=(s,false)
theorem ik(w:Wr)(ws:List Wr):dz (w::ws)=(w.1++(dz ws).1,w.2||(dz ws).2):=rfl
theorem qJ(a b:List Wr):dz (a++b)=((dz a).1++(dz b).1,(dz a).2||(dz b).2):=by unfold dz;simp
structure qdM{ε:Type}(enc:ae->List ε):Prop where
 len:∀s,(enc s).length=s.length
 app:∀s t,enc (s++t)=enc s++enc t
def fb(s:ae):List Int:=s.map λc=>(c.toNat:Int)
theorem aE:qdM fb:=⟨λs=>by simp[fb],λs t=>by simp[fb]⟩
theorem aG:qdM (λs:ae=>s):=⟨λ_=>rfl,λ_ _=>rfl⟩
section
variable{ε β γ:Type}{enc:ae->List ε}
def RS(enc:ae->List ε)(mk:List ε->Bool->β)(k:List ε)(b:Bool)(ws:List Wr)(o:Option β):Prop:=
 k.length+(dz ws).1.length<=1073741824->∃k' b',o=some (mk k' b')/\b'=(b||(dz ws).2)/\(b'=false->k'=k++enc (dz ws).1)/\k'.length<=k.length+(dz ws).1.length
def RK(enc:ae->List ε)(k:List ε)(t:ae)(o:Option (List ε)):Prop:=k.length+t.length<=1073741824->o=some (k++enc t)
variable{mk:List ε->Bool->β}{mk':List ε->Bool->γ}{k:List ε}{b:Bool}{ws:List Wr}{w:Wr}
theorem RS.cast{ws':List Wr}{o:Option β}(h:RS enc mk k b ws o)(e:dz ws=dz ws'):RS enc mk k b ws' o:=by
 unfold RS at *
 rw[<-e]
 exact h
theorem RS.one{o:Option β}(h:RS enc mk k b ws o):RS enc mk k b [dz ws] o:=h.cast (by simp[dz])
theorem RS.of1'{o:Option β}{ws1:List Wr}(h:RS enc mk k b ws1 o):RS enc mk k b ([dz ws1]++[]) o:=h.cast (by simp[dz])
theorem RS.of1{o:Option β}(h:RS enc mk k b [dz ws] o):RS enc mk k b ws o:=h.cast (by simp[dz])
theorem aW(hE:qdM enc){o:Option β}{f:β->Option γ}(h:RS enc mk k b [w] o)(h':∀k' b',RS enc mk' k' b' ws (f (mk k' b'))):RS enc mk' k b (w::ws) (o.bind f):=by
 intro hl
 rw[ik]at hl ⊢
 simp only[vam]at hl
 have e1:dz [w]=w:=by simp[dz]
 unfold RS at h
 rw[e1]at h
 obtain⟨k1,b1,rfl,q1,q2,q3⟩:=h (by omega)
 obtain⟨k2,b2,r0,r1,r2,r3⟩:=h' k1 b1 (by omega)
 refine⟨k2,b2,r0,by rw[r1,q1,vcg],λhb=>?_,by simp only[vam];omega⟩
 have h2:=r2 hb
 rw[r1]at hb
 have hb1:b1=false:=by cases b1<;>simp_all
 rw[h2,q2 hb1,hE.app,vbn]
theorem bU(hE:qdM enc){ws1:List Wr}{o:Option β}{f:β->Option γ}(h:RS enc mk k b ws1 o)(h':∀k' b',RS enc mk' k' b' ws (f (mk k' b'))):RS enc mk' k b (ws1++ws) (o.bind f):=
 (aW hE h.one h').cast (by rw[qJ,ik])
theorem aV(hE:qdM enc){o:Option (List ε)}{f:List ε->Option γ}{t:ae}(h:RK enc k t o)(h':∀k',RS enc mk' k' b ws (f k')):RS enc mk' k b (tW t::ws) (o.bind f):=by
 intro hl
 rw[ik]at hl ⊢
 simp only[vam]at hl
 rw[h (by omega)]
 obtain⟨k2,b2,r0,r1,r2,r3⟩:=h' (k++enc t) (by simp only[vam,hE.len];omega)
 refine⟨k2,b2,r0,by rw[r1];simp,λhb=>?_,?_⟩
 ·rw[r2 hb]
  simp only[hE.app,vbn]
 ·simp only[vam,hE.len]at r3 ⊢
  omega
theorem bM{α:Type}{o:Option α}{a:α}{f:α->Option γ}(e:o=some a)(h:RS enc mk' k b ws (f a)):RS enc mk' k b ws (o.bind f):=by rw[e];exact h
theorem aN(hE:qdM enc):RS enc mk k b [] (some (mk k b)):=λ_=>⟨k,b,rfl,by simp[dz],λ_=>by
 have:=hE.len []
 have:enc []=[]:=vai this
 simp[dz,this],by simp[dz]⟩
theorem TE(h:(dz ws).2=true):RS enc mk k b ws (some (mk k true)):=λ_=>⟨k,true,rfl,by rw[h];simp,(λh=>by cases h),by omega⟩
theorem M3{x:Bool}{o:Option β}(h:RS enc mk k (b||x) ws o):RS enc mk k b (([],x)::ws) o:=by
 intro hl
 rw[ik]at hl ⊢
 obtain⟨k2,b2,r0,r1,r2,r3⟩:=h hl
 exact⟨k2,b2,r0,by rw[r1,vcg],r2,r3⟩
theorem Xz{ws':List Wr}{o:Option β}(h:RS enc mk k b ws' o)(hb:b=true\/(dz ws').2=true/\(dz ws).2=true)(hl:(dz ws').1.length<=(dz ws).1.length):RS enc mk k b ws o:=by
 intro hl2
 obtain⟨k2,b2,r0,r1,r2,r3⟩:=h (by omega)
 have:b2=true:=by rw[r1];rcases hb with rfl|⟨hb,_⟩<;>simp_all
 refine⟨k2,b2,r0,?_,(λh=>by rw[this]at h;cases h),by omega⟩
 rw[this]
 rcases hb with rfl|⟨_,hb⟩<;>simp_all
theorem cM{c:Bool}{x y:Option β}(h:c=true->RS enc mk k b ws x)(h':c=false->RS enc mk k b ws y):RS enc mk k b ws (if c=true then x else y):=by
 cases c with
 |false=>exact h' rfl
 |true=>exact h rfl
theorem qfK(hE:qdM enc):RK enc k [] (some k):=λ_=>by
 have:=hE.len []
 have:enc []=[]:=vai this
 rw[this,vak]
theorem qfJ{t:ae}{o:Option (List ε)}(h:RK enc k t o):RK enc k t (o.bind λr=>some r):=λhl=>by rw[h hl];rfl
theorem ZE{i n:Nat}(h:i<n):decide ((i:Int)<(n:Int))=true:=by simp;omega
theorem ZD(n:Nat):¬decide ((n:Int)<(n:Int))=true:=by simp
def xd(s:ae):List Wr->List Wr
 |[]=>[]
 |w::ws=>w::ws.flatMap λx=>[tW s,x]
theorem TI(s:ae):∀(l:List Wr),(dz (xd s l)).1.length<=(l.map λw=>w.1.length+s.length).sum
 |[]=>by simp[xd,dz]
 | w :: ws => by
  have h:∀l:List Wr,(dz (l.flatMap λx=>[tW s,x])).1.length=(l.map λw=>w.1.length+s.length).sum:=by
   intro l
   induction l with
   |nil=>rfl
   |cons x l ih=>
    rw[vbW,qJ]
    simp only[vam,ih,vae,List.sum_cons,ik]
    simp[dz]
    omega
  rw[xd,ik,vam,h]
  simp
theorem qbL(hE:qdM enc){α:Type}(l:List α)(hn:l.length<9223372036854775808)(g:Nat->α->List Wr){body:Int×List ε×Bool->Option ((Int×List ε×Bool)⊕(List ε×Bool))}
  (hin:∀(i:Nat) (hi:i<l.length) k b,RS enc (λk b=>.inl (dt ((i:Int)+1),k,b)) k b (g i l[i]) (body ((i:Int),k,b))) (hend:∀k b,body ((l.length:Int),k,b)=some (.inr (k,b))):
  RS enc Prod.mk k b ((l.zipIdx.map λx=>g x.2 x.1).flatten) (loop body (0,k,b)):=by
 have key:∀m i k b,m+i=l.length->RS enc Prod.mk k b (((l.drop i).zipIdx i|>.map λx=>g x.2 x.1).flatten) (loop body ((i:Int),k,b)):=by
  intro m
  induction m with
  |zero=>
   intro i k b hi
   have:i=l.length:=by omega
   subst this
   rw[fx (hend k b),vbN]
   exact aN (mk:=Prod.mk) hE
  |succ m ih=>
   intro i k b hi
   have hi':i<l.length:=by omega
   rw[vaH hi',List.zipIdx_cons,vae,List.flatten_cons]
   intro hl
   rw[qJ]at hl ⊢
   simp only[vam]at hl
   obtain⟨k1,b1,r0,r1,r2,r3⟩:=hin i hi' k b (by omega)
   rw[ol r0,cC (by omega) (by omega),show((i:Int)+1)=((i+1:Nat):Int) by omega]
   obtain⟨k2,b2,q0,q1,q2,q3⟩:=ih (i+1) k1 b1 (by omega) (by omega)
   refine⟨k2,b2,q0,by rw[q1,r1,vcg],λhb=>?_,by simp only[vam];omega⟩
   have h2:=q2 hb
   rw[q1]at hb
   have hb1:b1=false:=by cases b1<;>simp_all
   rw[h2,r2 hb1,hE.app,vbn]
 have:=key l.length 0 k b (by omega)
 simpa using this
theorem qhD{α:Type}(s:ae)(f:α->Wr):∀(l:List α),((l.zipIdx.map λx=>(if x.2=0 then[]else[tW s])++[f x.1]).flatten)=xd s (l.map f)
 |[]=>rfl
 | x :: l => by
  have h:∀(l:List α) (i:Nat),0<i->((l.zipIdx i).map λx=>(if x.2=0 then[]else[tW s])++[f x.1]).flatten=(l.map f).flatMap λx=>[tW s,x]:=by
   intro l
   induction l with
   |nil=>intro i _;rfl
   |cons y l ih=>
    intro i hi
    rw[List.zipIdx_cons,vae,List.flatten_cons,ih (i+1) (by omega),vab (by simp only[];omega)]
    rfl
  rw[List.zipIdx_cons,vae,List.flatten_cons,h l (0+1) (by omega)]
  rfl
theorem sC(hE:qdM enc){α:Type}(l:List α)(hn:l.length<9223372036854775808)(s:ae)(f:α->Wr){body:Int×List ε×Bool->Option ((Int×List ε×Bool)⊕(List ε×Bool))}
  (hin:∀(i:Nat) (hi:i<l.length) k b,RS enc (λk b=>.inl (dt ((i:Int)+1),k,b)) k b ((if i=0 then[]else[tW s])++[f l[i]]) (body ((i:Int),k,b))) (hend:∀k b,body ((l.length:Int),k,b)=some (.inr (k,b))):
  RS enc Prod.mk k b (xd s (l.map f)) (loop body (0,k,b)):=by
 rw[<-qhD]
 exact qbL hE l hn (λi x=>(if i=0 then[]else[tW s])++[f x]) hin hend
theorem qfN(hE:qdM enc){α:Type}(l:List α)(hn:l.length<9223372036854775808)(f:α->List Wr){body:Int×List ε×Bool->Option ((Int×List ε×Bool)⊕(List ε×Bool))}
  (hin:∀(i:Nat) (hi:i<l.length) k b,RS enc (λk b=>.inl (dt ((i:Int)+1),k,b)) k b (f l[i]) (body ((i:Int),k,b))) (hend:∀k b,body ((l.length:Int),k,b)=some (.inr (k,b))):
  RS enc Prod.mk k b (l.flatMap f) (loop body (0,k,b)):=by
 have:=qbL (k:=k) (b:=b) hE l hn (λ_ x=>f x) hin hend
 have e:(l.zipIdx.map λx=>f x.1).flatten=l.flatMap f:=by
  rw[show(l.zipIdx.map λx=>f x.1)=(l.zipIdx.map Prod.fst).map f by rw[vbz];rfl,vcX,List.flatMap_def]
 rw[e]at this
 exact this
theorem jL(hE:qdM enc){i:Nat}{s:ae}{o:Option (List ε)}{f:List ε->Option γ}(h:RK enc k (if i=0 then[]else s) o)(h':∀k',RS enc mk' k' b ws (f k')):RS enc mk' k b ((if i=0 then[]else[tW s])++ws) (o.bind f):=by
 refine(aV hE h h').cast ?_
 split<;>simp[dz]
end
theorem qgv(k:List Int)(s:ae):RK fb k s (qdY k s):=λh=>by
 unfold qdY
 rw[vad h]
 rfl
theorem qjw{k:List Int}{b:Bool}{s:ae}(h:k.length+s.length<=1073741824):fa s k b=some ((s.length:Int),(),k++fb s):=by
 unfold fa Ks
 simp only[vaa]
 rw[qgv k s h]
 rfl
theorem qih(l:List ae)(hl:l.length<=100)(k:List Int)(b:Bool):RK fb k l.flatten (al l k b):=λh=>by
 unfold al ph
 have key:=ej l.length (λzz:Int×List Int=>fN l (l.length:Int) b zz.1 zz.2) (λi=>((i:Int),k++fb (l.take i).flatten)) (k++fb l.flatten) (λi hi=>?_) ?_
 ·rw[show((0:Int),k)=(λi:Nat=>((i:Int),k++fb (l.take i).flatten)) 0 by simp[fb],key]
  rfl
 ·simp only[fN]
  rw[vad (by simp;omega),aT _ _ hi]
  simp only[vaa]
  have hs:(l.take (i+1)).flatten.length<=l.flatten.length:=by
   conv=>rhs;rw[<-vbp (i+1) l,vbZ,vam]
   omega
  rw[vav hi,vbZ]at hs ⊢
  simp only[List.flatten_cons,List.flatten_nil,vak,vam]at hs ⊢
  rw[qjw (by simp only[vam,aE.len];omega),cC (by omega) (by omega),aE.app]
  simp only[vaa,vbn]
  rfl
 ·simp only[fN]
  rw[vab (by simp),va1]
theorem fU(s:ae)(k:List Int)(b:Bool):RK fb k s (al ([s]:List ae) k b):=by
 have:=qih [s] (by simp) k b
 simpa using this
theorem qig(s t u:ae)(k:List Int)(b:Bool):RK fb k (s++(t++u)) (al ([s,t,u]:List ae) k b):=by
 have:=qih [s,t,u] (by simp) k b
 simpa using this
theorem KW(s:ae)(i:Nat)(k:List Int)(b:Bool):RK fb k (if i=0 then[]else s) (if decide ((i:Int)>0)=true then(al ([s]:List ae) k b).bind λr=>some r else some k):=by
 by_cases h:i=0
 ·subst h;exact qfK aE
 ·rw[vab h,vad (by simp;omega)]
  exact qfJ (fU s k b)
theorem qim(l:List ae)(hl:l.length<=100)(k:ae)(b:Bool):RK (λs=>s) k l.flatten (ay l k b):=λh=>by
 unfold ay rG
 have key:=ej l.length (λzz:Int×ae=>gU l (l.length:Int) zz.1 zz.2) (λi=>((i:Int),k++(l.take i).flatten)) (k++l.flatten) (λi hi=>?_) ?_
 ·rw[show((0:Int),k)=(λi:Nat=>((i:Int),k++(l.take i).flatten)) 0 by simp,key]
  rfl
 ·simp only[gU]
  rw[vad (by simp;omega),aT _ _ hi]
  simp only[vaa]
  have hs:(l.take (i+1)).flatten.length<=l.flatten.length:=by
   conv=>rhs;rw[<-vbp (i+1) l,vbZ,vam]
   omega
  rw[vav hi,vbZ]at hs ⊢
  simp only[List.flatten_cons,List.flatten_nil,vak,vam]at hs ⊢
  rw[gw (by simp only[vam];omega),cC (by omega) (by omega)]
  simp only[vaa,vbn]
  rfl
 ·simp only[gU]
  rw[vab (by simp),va1]
theorem fZ(s:ae)(k:ae)(b:Bool):RK (λs=>s) k s (ay ([s]:List ae) k b):=by
 have:=qim [s] (by simp) k b
 simpa using this
theorem qil(s t u:ae)(k:ae)(b:Bool):RK (λs=>s) k (s++(t++u)) (ay ([s,t,u]:List ae) k b):=by
 have:=qim [s,t,u] (by simp) k b
 simpa using this
theorem qbH(s:ae)(i:Nat)(k:ae)(b:Bool):RK (λs=>s) k (if i=0 then[]else s) (if decide ((i:Int)>0)=true then(ay ([s]:List ae) k b).bind λr=>some r else some k):=by
 by_cases h:i=0
 ·subst h;exact qfK aG
 ·rw[vab h,vad (by simp;omega)]
  exact qfJ (fZ s k b)
theorem OR(i:Nat)(k:ae)(b:Bool):RK (λs=>s) k (if i=0 then[]else aU) (eU (i:Int) k b):=qbH aU i k b
theorem Ig(x:Bool)(k:ae)(b:Bool):dl x k b=some (b||!x):=by
 unfold dl
 cases x<;>cases b<;>rfl
def J2(cap:Bool)(s:ae):Wr:=(s,!(bS s&&(jd kC s==cap)))
theorem qa1{s:ae}(h:bS s=true):∃c r,s=c::r:=by
 cases s with
 |nil=>rw[KM]at h;cases h
 |cons c r=>exact⟨c,r,rfl⟩
theorem qbz{s:ae}(h:bS s=true):pH s=some (jd kC s):=by
 obtain⟨c,r,rfl⟩:=qa1 h
 unfold pH jd kC
 rw[kz]
 simp only[vaa]
 by_cases h1:65<=(c.toNat:Int)
 ·rw[vad (by simpa using h1)];simp[h1]
 ·rw[vab (by simpa using h1)];simp[h1]
theorem qfv(s:ae):jI s=some (J2 false s).2:=by
 unfold jI J2
 rw[pC]
 simp only[vaa,rO]
 cases h:bS s with
 |false=>rfl
 |true=>
  rw[vab (by simp),qbz h]
  simp only[vaa]
  cases jd kC s<;>rfl
theorem qdh(s:ae):iZ s=some (J2 true s).2:=by
 unfold iZ J2
 rw[pC]
 simp only[vaa,rO]
 cases h:bS s with
 |false=>rfl
 |true=>
  rw[vab (by simp),qbz h]
  simp only[vaa]
  cases jd kC s<;>rfl
abbrev DX{ε:Type}(k:List ε)(b:Bool):Bool×List ε:=(b,k)
theorem gW{w:Wr}:dz [w]=w:=by simp[dz]
theorem PC(s:ae)(k:List Int)(b:Bool):RS fb DX k b [J2 false s] (cU s k b):=by
 unfold cU
 refine bM (qfv s) (cM (λh=>TE (by rw[gW];exact h)) λh=>?_)
 refine RS.cast (ws:=[tW s]) (aV aE (fU s k b) λk'=>aN (mk:=DX) aE) ?_
 rw[gW,gW]
 exact Prod.ext rfl h.symm
theorem qaC(s:ae)(k:List Int)(b:Bool):RS fb DX k b [J2 true s] (fY s k b):=by
 unfold fY
 refine bM (qdh s) (cM (λh=>TE (by rw[gW];exact h)) λh=>?_)
 refine RS.cast (ws:=[tW s]) (aV aE (fU s k b) λk'=>aN (mk:=DX) aE) ?_
 rw[gW,gW]
 exact Prod.ext rfl h.symm
theorem qfM(s:ae)(cap:Bool)(k:ae)(b:Bool):lj s cap k b=some (b||(J2 cap s).2):=by
 unfold lj J2
 rw[mU]
 simp only[vaa,N3]
 cases h:bS s with
 |false=>rw[vab (by simp),Ig];rfl
 | true =>
  obtain⟨c,r,rfl⟩:=qa1 h
  rw[vad rfl,kz]
  simp only[vaa,jd,kC]
  by_cases h1:65<=(c.toNat:Int)
  ·rw[vad (by simpa using h1),Ig];simp[h1]
  ·rw[vab (by simpa using h1),Ig];simp[h1]
theorem If(s:ae)(cap:Bool)(k:ae)(b:Bool):RS (λs=>s) Prod.mk k b [J2 cap s] (cT s cap k b):=by
 unfold cT
 refine bM (qfM s cap k b) ?_
 refine RS.cast (ws:=[([],(J2 cap s).2),tW s]) (M3 (aV aG (fZ s k _) λk'=>aN (mk:=Prod.mk) aG)) ?_
 simp[dz,J2]
mutual
def qf7:af->Prop
 |⟨o,n,as1,ns,p,ps⟩=>ru ⟨o,n,as1,ns,p,ps⟩=some 0/\qcs as1
def qcs:List af->Prop
 |[]=>True
 |t::l=>qf7 t/\qcs l
end
mutual
def qf6:af->Nat
 |⟨_,_,as1,_,_,_⟩=>AD as1+1
def AD:List af->Nat
 |[]=>0
 |t::l=>max (qf6 t) (AD l)
end
theorem IG(t:af):qf7 t↔ru t=some 0/\qcs t.Args:=by obtain⟨o,n,as1,ns,p,ps⟩:=t;rw[qf7];exact Iff.rfl
theorem Mq:∀(l:List af),qcs l↔∀t∈l,qf7 t
 |[]=>by simp[qcs]
 |t::l=>by rw[qcs,Mq l];simp
theorem ZY(t:af):qf6 t=AD t.Args+1:=by obtain⟨o,n,as1,ns,p,ps⟩:=t;rw[qf6];rfl
theorem Pn:∀(a b:List af),AD (a++b)=max (AD a) (AD b)
 |[],b=>by simp[AD]
 |x::a,b=>by rw[vaN,AD,AD,Pn a b];omega
theorem Yu:∀{l:List af} {x:af},x∈l->qf6 x<=AD l
 | y :: l,x,h => by
  rw[AD]
  rcases vaF.1 h with rfl|h
  ·omega
  ·have:=Yu h;omega
mutual
theorem qa2:∀(t:af),qf6 t<=fh t
 |⟨o,n,as1,ns,p,ps⟩=>by rw[qf6,fh];have:=Yt as1;omega
theorem Yt:∀(l:List af),AD l<=BP l
 |[]=>vay _
 |t::l=>by rw[AD,BP];have:=qa2 t;have:=Yt l;omega
end
theorem qju(a b:Nat):(if(b:Int)>(a:Int)then(b:Int)else(a:Int))=((max a b:Nat):Int):=by
 by_cases h:(b:Int)>(a:Int)
 ·rw[vad h];congr 1;omega
 ·rw[vab h];congr 1;omega
theorem qgY(t:af)(ht:fh t<=cW):yU t=some (qf6 t:Int):=by
 refine HE (F:=vT) fh (λx=>fh x<=cW) (λx=>some (qf6 x:Int)) (λR t ht ih=>?_) t ht (lp ht)
 have hB:fh t<=1073741824:=ht
 show qE (λt=>R t) t=_
 have hlen:=lK t
 have hd:=qa2 t
 unfold qE
 have h:=ej t.Args.length (λzz:Int×Int=>ip (λt=>R t) t.Args (t.Args.length:Int) zz.1 zz.2) (λi=>((AD (t.Args.take i):Int),(i:Int))) (AD t.Args:Int) (λi hi=>?_) ?_
 ·have h':rr (λt=>R t) t.Args (t.Args.length:Int) 0 0=some (AD t.Args:Int):=by unfold rr;simpa[AD]using h
  have e1:=ZY t
  rw[h',vaa,cC (by omega) (by omega),e1]
  rfl
 ·show ip (λt=>R t) t.Args _ _ (i:Int)=_
  unfold ip
  have hm:t.Args[i]∈t.Args:=vag hi
  have hlt:=mb hm
  rw[vad (by simpa using hi),aT _ _ hi,vaa]
  show(R _).bind _=_
  rw[ih _ hlt (by unfold cW;omega),vaa]
  dsimp only
  rw[cC (by omega) (by omega),qju,vav hi,Pn]
  have:max (AD (t.Args.take i)) (qf6 t.Args[i])=max (AD (t.Args.take i)) (AD [t.Args[i]]):=by rw[AD,AD];omega
  rw[this]
  rfl
 ·show ip (λt=>R t) t.Args _ _ (t.Args.length:Int)=_
  unfold ip
  rw[vab (by simp),va1]
theorem qg5(t:af)(ht:fh t<=cW):jb (zi t) (λr=>(r !=0)=false->qf7 t):=by
 refine Av (F:=tU) fh (λx=>fh x<=cW) (λx r=>(r !=0)=false->qf7 x) (λR x hx ih=>?_) t ht (lp ht)
 show jb (jM (λt=>R t) x) _
 unfold jM mY
 have h1:=lK x
 obtain⟨q,hq,_⟩:=S6 x
 refine er hq (aP (λh=>am (λh'=>by rw[h]at h';cases h')) λh=>aH (lX x.Args (by unfold cW at hx;omega) _ qf7 (λr=>(r !=0)=true) (λi=>rfl) (λy hy i=>aH (ih _ (mb hy) (by have:=mb hy;omega)) λr hr=>aP (λh=>am h) λh=>am ⟨rfl,hr (by simpa using h)⟩)) λo ho=>?_)
 cases o with
 |inl r=>
  have ho:(r !=0)=true:=ho
  exact am λh'=>by rw[ho]at h';cases h'
 |inr _=>
  have hq0:q=0:=by simpa using h
  exact am λ_=>(IG x).2 ⟨by rw[hq,hq0],(Mq _).2 ho⟩
theorem qg4(t:af)(ht:fh t<=cW)(h:qf7 t):zi t=some 0:=by
 refine HE (F:=tU) fh (λx=>fh x<=cW/\qf7 x) (λx=>some 0) (λR x hx ih=>?_) t ⟨ht,h⟩ (lp ht)
 show jM (λt=>R t) x=_
 have hB:fh x<=1073741824:=hx.1
 have h1:=lK x
 have h2:=(IG x).1 hx.2
 unfold jM
 rw[h2.1]
 simp only[vaa]
 rw[vab (by simp)]
 have hL:mY (λt=>R t) x.Args (x.Args.length:Int) 0=some (.inr ()):=by
  unfold mY
  refine ej x.Args.length _ (λi=>(i:Int)) _ (λi hi=>?_) ?_
  ·simp only[uP]
   have hm:x.Args[i]∈x.Args:=vag hi
   rw[vad (by simpa using hi),aT _ _ hi,vaa]
   rw[ih _ (mb hm) ⟨by have:=mb hm;unfold cW;omega,(Mq _).1 h2.2 _ hm⟩,vaa]
   rw[vab (by simp),cC (by omega) (by omega),show((i:Int)+1)=((i+1:Nat):Int) by omega]
  ·simp only[uP]
   rw[vab (by simp)]
 rw[hL]
 rfl
abbrev qdG(t:af):Prop:=jk t=some 0
theorem MF(t:af)(ht:fh t<=cW):qdG t↔qf6 t<=40/\qf7 t:=by
 unfold qdG jk
 rw[qgY t ht]
 simp only[vaa]
 constructor
 ·intro h
  rcases Lt h with⟨hc,h⟩|⟨hc,h⟩
  ·cases h
  ·obtain⟨r,e,hr⟩:=qg5 t ht
   rw[e]at h
   have h0:r=0:=by simpa using h
   exact⟨by simp at hc;omega,hr (by rw[h0];rfl)⟩
 ·intro⟨h1,h2⟩
  rw[vab (by simp;omega),qg4 t ht h2]
  rfl
theorem qbs{t a:af}(ht:fh t<=cW)(h:qdG t)(ha:a∈t.Args):qdG a:=by
 obtain⟨h1,h2⟩:=(MF t ht).1 h
 have:=mb ha
 refine(MF a (by omega)).2 ⟨?_,(Mq _).1 ((IG t).1 h2).2 a ha⟩
 have:=Yu ha
 rw[ZY]at h1
 omega
abbrev zL(t:af):af:=⟨t.Op,t.Name,t.Args,t.Names,fO,t.Preds⟩
theorem N7(t:af):fh (zL t)=fh t:=by rw[Ey,Ey t];rfl
theorem qe4{t:af}(ht:fh t<=cW)(h:qdG t):qdG (zL t):=by
 obtain⟨h1,h2⟩:=(MF t ht).1 h
 refine(MF _ (by rw[N7];exact ht)).2 ⟨by rw[ZY]at h1 ⊢;exact h1,?_⟩
 exact(IG _).2 ((IG t).1 h2)
def qlS(t:af):Prop:=(1<=t.Op/\t.Op<=6)/\(t.Op=6->2<=t.Args.length/\(t.Names=[]\/t.Names.length=t.Args.length - 1))
theorem qhd(t:af)(ht:fh t<=cW)(h:ru t=some 0):qlS t:=by
 have hlen:=lK t
 have hB:fh t<=1073741824:=ht
 unfold ru at h
 obtain⟨o1,e1,h⟩:=Uh h
 rcases Lt h with⟨c,h⟩|⟨c,h⟩
 ·cases h
 obtain⟨o2,e2,h⟩:=Uh h
 rcases Lt h with⟨c2,h⟩|⟨c2,h⟩
 ·cases h
 obtain⟨o3,e3,h⟩:=Uh h
 rcases Lt h with⟨c3,h⟩|⟨c3,h⟩
 ·cases h
 subst c c3
 refine⟨?_,λh6=>?_⟩
 ·unfold jp at e1
  rcases Lt e1 with⟨c,e1⟩|⟨c,e1⟩
  ·cases e1
  rcases Lt e1 with⟨c',e1⟩|⟨c',e1⟩
  ·cases e1
  simp at c c'
  omega
 ·unfold jq at e3
  rw[vad (by simp[h6])]at e3
  rcases Lt e3 with⟨c,e3⟩|⟨c,e3⟩
  ·cases e3
  rcases Lt e3 with⟨c',e3⟩|⟨c',e3⟩
  ·cases e3
  simp at c c'
  refine⟨by omega,?_⟩
  rcases Lt e3 with⟨d,e3⟩|⟨d,e3⟩
  ·right
   have e3:=vbe e3
   rw[cC (by omega) (by omega)]at e3
   simp at e3
   omega
  ·left
   have:t.Names.length=0:=by simp at d;simp[d]
   exact vai this
theorem qe5{t:af}(ht:fh t<=cW)(h:qdG t):qlS t:=qhd t ht ((IG t).1 ((MF t ht).1 h).2).1
def pW(p:aa):Wr:=((Cb p).1,(Cb p).2 !=0)
def qdv(p:aa):Wr:=if p=fO then tW nR else pW p
def qlQ(a:af):Bool:=decide (a.Pred=fO)&&(a.Op==6||(decide ((a.Args.length:Int)>0)||decide ((a.Preds.length:Int)>0)))
def qdp(f:af->Wr)(a:af):Wr:=if qlQ a=true then dz [tW cE,f a,tW dI]else f a
def qfy(l:List aa):List Wr:=if l=[]then[]else tW DV::(xd aU (l.map λp=>dz [tW jn,qdv p])++[tW VN])
def Yo(f:af->Wr)(t:af):List Wr:=J2 true t.Name::(t.Args.flatMap (λa=>[tW dh,qdp f a])++qfy t.Preds)
def Sc(f:af->Wr)(ns:List ae)(x:af×Nat):Wr:=dz ((if ns=[]then[]else[J2 false (ns.getD x.2 []),tW bX])++[f x.1])
def SS(f:af->Wr)(l:List af):Wr:=((l[l.length - 1]?).map f).getD ([],false)
def YB(f:af->Wr)(t:af):List Wr:=tW cE::(xd aU ((t.Args.take (t.Args.length - 1)).zipIdx.map (Sc f t.Names))++[tW cG,SS f t.Args])
def C8(f:af->Wr)(t:af):List Wr:=if t.Op=1 then[tW VL]else if t.Op=2 then[tW Pa]else if t.Op=3 then[tW Pb]else if t.Op=5 then[J2 false t.Name]else if t.Op=4 then Yo f t else if t.Op=6 then YB f t else[]
def N6(t:af):Bool:=(t.Op==6&&(!decide (t.Pred=fO)||decide ((t.Preds.length:Int)>0)))||(t.Op !=4&&decide ((t.Preds.length:Int)>0))
def uJ(f:af->Wr)(t:af):List Wr:=([],N6 t)::((if t.Pred=fO then[]else[tW fG])++(C8 f t++(if t.Pred=fO then[]else[tW kY,pW t.Pred,tW PL])))
def Ld:Nat->af->Wr
 |0,_=>([],false)
 |n+1,t=>dz (uJ (Ld n) t)
abbrev y3(t:af):Prop:=fP (ai t)<=16777216
theorem PB(t:af):fP (ai t)=1+(t.Name.length+1)+(eu (t.Args.map ai)+1)+(eu (t.Names.map cS)+1)+fP (ac t.Pred)+(eu (t.Preds.map ac)+1):=by
 rw[HY,z7]
 simp only[pm,sl]
 omega
theorem Nb{t a:af}(h:y3 t)(ha:a∈t.Args):y3 a:=by
 have h1:=PB t
 have h2:=Dr (var.2 ⟨a,ha,rfl⟩:ai a∈t.Args.map ai)
 unfold y3 at *
 omega
theorem wy{t:af}(h:y3 t):fP (ac t.Pred)<=16777216:=by have h1:=PB t;unfold y3 at *;omega
theorem I0{t:af}(h:y3 t){p:aa}(hp:p∈t.Preds):fP (ac p)<=16777216:=by
 have h1:=PB t
 have h2:=Dr (var.2 ⟨p,hp,rfl⟩:ac p∈t.Preds.map ac)
 unfold y3 at *
 omega
theorem ou{t:af}(h:y3 t):fh t<=cW:=vax (Q7 t) (vax h (by unfold cW;omega))
theorem qfU{t:af}(h:y3 t):y3 (zL t):=by
 have h1:=PB t
 have h2:fP (ai (zL t))=1+(t.Name.length+1)+(eu (t.Args.map ai)+1)+(eu (t.Names.map cS)+1)+fP (ac fO)+(eu (t.Preds.map ac)+1):=PB (zL t)
 have h3:fP (ac fO)=4:=rfl
 have h4:=z7 t.Pred
 unfold y3 at *
 omega
theorem Ag(p:aa)(h:fP (ac p)<=16777216):nK p=some (decide (p=fO)):=by
 unfold nK
 have:=XB p fO (vax (S1 p) (vax h (by unfold cW;omega)))
 unfold fO at this
 rw[this]
 rfl
theorem E9(p:aa):zE p=some (decide (p=fO)):=by
 unfold zE
 have:=TF p fO qbo
 unfold fO at this
 rw[this]
 rfl
theorem qbE(p:aa)(h:fP (ac p)<=16777216)(k:List Int)(b:Bool):RS fb Prod.mk k b [pW p] (jJ p k b):=by
 unfold jJ
 have hJ:jK (Cb p).2 b=some (b||(pW p).2):=by unfold jK pW;cases b<;>rfl
 refine bM (qls p h) (bM hJ ?_)
 exact RS.cast (ws:=[([],(pW p).2),tW (Cb p).1]) (M3 (aV aE (fU _ k _) λk'=>aN (mk:=Prod.mk) aE)) (by simp[dz,pW])
theorem Xy(p:aa)(h:fP (ac p)<=16777216)(k:ae)(b:Bool):RS (λs=>s) Prod.mk k b [pW p] (lJ p k b):=by
 unfold lJ
 refine bM (qlH p h) (bM (Ig _ k b) ?_)
 refine RS.cast (ws:=[([],(pW p).2),tW (Cb p).1]) (M3 ?_) (by simp[dz,pW])
 have e:(!((Cb p).2==0))=(pW p).2:=rfl
 rw[e]
 exact aV aG (fZ _ k _) λk'=>aN (mk:=Prod.mk) aG
theorem qht(p:aa)(h:fP (ac p)<=16777216)(k:List Int)(b:Bool):RS fb Prod.mk k b [qdv p] (lB p k b):=by
 unfold lB qdv
 refine bM (Ag p h) (cM (λhc=>?_) λhc=>?_)
 ·rw[vad (by simpa using hc)]
  exact aV aE (fU _ k _) λk'=>aN (mk:=Prod.mk) aE
 ·rw[vab (by simpa using hc)]
  exact aW aE (qbE p h k b) λk' b'=>aN (mk:=Prod.mk) aE
theorem qfV:Cb ⟨2,[],1,[]⟩=(nR,0):=by
 have h1:nW ⟨2,[],1,[]⟩=some 0:=by kernel_rfl
 unfold Cb Uk
 rw[h1]
 rw[vad (show(some (0:Int)).getD 0=0 from rfl),TU]
 rfl
theorem qhA(p:aa)(h:fP (ac p)<=16777216)(k:ae)(b:Bool):RS (λs=>s) Prod.mk k b [qdv p] (nX p k b):=by
 unfold nX oP
 have e:(⟨p.Op,p.Name,p.N,p.Kids⟩:aa)=p:=by cases p;rfl
 rw[e,E9]
 simp only[vaa]
 unfold qdv
 by_cases hc:p=fO
 ·rw[vad hc,vad (vaI hc)]
  unfold RB
  simp only[vaa]
  have:=Xy ⟨2,[],1,[]⟩ (by decide) k b
  unfold pW at this
  rw[qfV]at this
  exact aW aG this λk' b'=>aN (mk:=Prod.mk) aG
 ·rw[vab hc,vab (by simpa using hc)]
  simp only[vaa]
  rw[e]
  exact aW aG (Xy p h k b) λk' b'=>aN (mk:=Prod.mk) aG
theorem qdf(a:af)(h:fP (ac a.Pred)<=16777216):iY a=some (qlQ a):=by
 unfold iY qlQ
 rw[Ag _ h]
 simp only[vaa]
 generalize decide (a.Pred=fO)=z
 generalize (a.Op==6)=x
 generalize decide ((a.Args.length:Int)>0)=y
 cases z<;>cases x<;>cases y<;>rfl
theorem qdn(a:af):j7 a=some (qlQ a):=by
 unfold j7 qlQ
 rw[E9]
 simp only[vaa]
 generalize decide (a.Pred=fO)=z
 generalize (a.Op==6)=x
 generalize decide ((a.Args.length:Int)>0)=y
 cases z<;>cases x<;>cases y<;>rfl
theorem Nc(n:Nat)(t:af):Ld (n+1) t=dz (uJ (Ld n) t):=rfl
theorem qbQ{l:List af}{i:Nat}(hi:i<(l.take (l.length - 1)).zipIdx.length):∃h:i<l.length,((l.take (l.length - 1)).zipIdx)[i]=(l[i],i):=by
 rw[vcp,va4]at hi
 refine⟨by omega,?_⟩
 rw[List.getElem_zipIdx]
 simp
section
variable{f:af->Wr}{R:af->List Int->Bool->Option (Bool×List Int)}
theorem qjA(a:af)(h:y3 a)(hR:∀k b,RS fb DX k b [f a] (R a k b))(k:List Int)(b:Bool):RS fb Prod.mk k b [qdp f a] (lA R a k b):=by
 unfold lA qdp
 refine bM (qdf a (wy h)) (cM (λhc=>?_) λhc=>?_)
 ·rw[vad hc]
  exact RS.one (aV aE (fU _ k b) λk1=>aW aE (hR k1 b) λk2 b2=>aV aE (fU _ k2 b2) λk3=>aN (mk:=Prod.mk) aE)
 ·rw[vab (by simp[hc])]
  exact aW aE (hR k b) λk1 b1=>aN (mk:=Prod.mk) aE
theorem Td(l:List af)(hl:l.length<9223372036854775808)(hs:∀a∈l,y3 a)(hR:∀a∈l,∀k b,RS fb DX k b [f a] (R a k b))(k:List Int)(b:Bool):RS fb Prod.mk k b (l.flatMap λa=>[tW dh,qdp f a]) (kk R l (l.length:Int) 0 k b):=by
 unfold kk
 refine qfN aE l hl (λa=>[tW dh,qdp f a]) (λi hi k b=>?_) (λk b=>?_)
 ·show RS _ _ _ _ _ (eM R l (l.length:Int) (i:Int) k b)
  unfold eM
  rw[vad (ZE hi)]
  exact bM (aT _ _ hi) (aV aE (fU _ k b) λk1=>aW aE (qjA _ (hs _ (vag hi)) (hR _ (vag hi)) k1 b) λk2 b2=>aN aE)
 ·show eM R l (l.length:Int) (l.length:Int) k b=_
  unfold eM
  rw[vab (ZD _)]
theorem qjz(t:af)(hl:t.Preds.length<9223372036854775808)(hs:∀p∈t.Preds,fP (ac p)<=16777216)(k:List Int)(b:Bool):RS fb Prod.mk k b (xd aU (t.Preds.map λp=>dz [tW jn,qdv p])) (iW (t.Preds.length:Int) t k b):=by
 unfold iW jP
 have h:=sC (k:=k) (b:=b) aE t.Preds hl aU (λp=>dz [tW jn,qdv p]) (body:=λzz:Int×List Int×Bool=>db t (t.Preds.length:Int) zz.1 zz.2.1 zz.2.2) (λi hi k b=>?_) (λk b=>?_)
 ·exact(bU aE h λk b=>aN (mk:=Prod.mk) aE).cast (by rw[vak])
 ·show RS _ _ _ _ _ (db t (t.Preds.length:Int) (i:Int) k b)
  unfold db
  rw[vad (ZE hi)]
  refine jL aE (KW aU i k b) λk1=>aW aE (mk:=Prod.mk) (w:=dz [tW jn,qdv t.Preds[i]]) (RS.one ?_) λk2 b2=>aN aE
  unfold qt
  exact aV aE (fU _ k1 b) λk2=>bM (aT _ _ hi) (aW aE (qht _ (hs _ (vag hi)) k2 b) λk3 b3=>aN (mk:=Prod.mk) aE)
 ·show db t (t.Preds.length:Int) (t.Preds.length:Int) k b=_
  unfold db
  rw[vab (ZD _)]
theorem qqB(t:af)(h6:2<=t.Args.length/\(t.Names=[]\/t.Names.length=t.Args.length - 1))(hl:t.Args.length<9223372036854775808)(hR:∀a∈t.Args,∀k b,RS fb DX k b [f a] (R a k b))(k:List Int)(b:Bool):RS fb Prod.mk k b (YB f t) (iX R t k b):=by
 unfold iX YB
 have hw:dt ((t.Args.length:Int) - 1)=((t.Args.length - 1:Nat):Int):=by rw[cC (by omega) (by omega)];omega
 rw[hw]
 have hlen:((t.Args.take (t.Args.length - 1)).zipIdx).length=t.Args.length - 1:=by rw[vcp,va4];omega
 have hlast:SS f t.Args=f (t.Args[t.Args.length - 1]'(by omega)):=by
  unfold SS
  rw[vac (by omega)]
  rfl
 rw[hlast]
 refine aV aE (fU _ k b) λk1=>bU aE (mk:=Prod.mk) ?_ λk2 b2=>aV aE (fU _ k2 b2) λk3=>bM (aT _ _ (by omega)) (aW aE (hR _ (vag _) k3 b2) λk4 b4=>aN (mk:=Prod.mk) aE)
 unfold mf jQ
 have h:=sC (k:=k1) (b:=b) aE ((t.Args.take (t.Args.length - 1)).zipIdx) (by omega) aU (Sc f t.Names) (body:=λzz:Int×List Int×Bool=>dc R t ((t.Args.length - 1:Nat):Int) zz.1 zz.2.1 zz.2.2) (λi hi k b=>?_) (λk b=>?_)
 ·exact(bU aE h λk b=>aN (mk:=Prod.mk) aE).cast (by rw[vak])
 ·show RS _ _ _ _ _ (dc R t ((t.Args.length - 1:Nat):Int) (i:Int) k b)
  unfold dc
  obtain⟨hi',e⟩:=qbQ hi
  rw[vad (ZE (by rw[hlen]at hi;exact hi)),e]
  refine jL aE (KW aU i k b) λk1=>aW aE (mk:=Prod.mk) (w:=Sc f t.Names (t.Args[i],i)) (RS.one ?_) λk2 b2=>aN aE
  unfold kH
  refine bU aE (mk:=Prod.mk) ?_ λk2 b2=>bM (aT _ _ hi') (aW aE (hR _ (vag _) k2 b2) λk3 b3=>aN (mk:=Prod.mk) aE)
  unfold iK
  by_cases hn:t.Names=[]
  ·rw[vad hn,vab (by simp[hn])]
   exact aN (mk:=Prod.mk) aE
  ·have hln:=h6.2.resolve_left hn
   have hin:i<t.Names.length:=by rw[hlen]at hi;omega
   rw[vab hn,vad (by simp;omega)]
   have eg:t.Names.getD i []=t.Names[i]:=by simp[List.getD,hin]
   simp only[]
   rw[eg]
   exact bM (aT _ _ hin) (aW aE (PC _ k1 b) λk2 b2=>aV aE (fU _ k2 b2) λk3=>aN (mk:=Prod.mk) aE)
 ·show dc R t ((t.Args.length - 1:Nat):Int) (_:Int) k b=_
  unfold dc
  rw[hlen,vab (ZD _)]
theorem qqC(t:af)(h:y3 t):kh t=some (N6 t):=by
 unfold kh N6
 rw[Ag _ (wy h)]
 simp only[vaa]
 generalize (t.Op==6)=A
 generalize (t.Op !=4)=B
 generalize decide (t.Pred=fO)=C
 generalize decide ((t.Preds.length:Int)>0)=D
 cases A<;>cases B<;>cases C<;>cases D<;>rfl
theorem qif(t:af)(ht:y3 t)(hs:qlS t)(hR:∀a∈t.Args,∀k b,RS fb DX k b [f a] (R a k b))(k:List Int)(b:Bool):RS fb Prod.mk k b (C8 f t) (kj R t k b):=by
 have hlen:=lK t
 have hplen:=Du t
 have hB:fh t<=1073741824:=ou ht
 unfold kj C8
 refine cM (λhc=>?_) λhc=>?_
 ·rw[vad (by simpa using hc)]
  exact aV aE (fU _ k b) λk1=>aN (mk:=Prod.mk) aE
 rw[vab (by simpa using hc)]
 refine cM (λhc=>?_) λhc=>?_
 ·rw[vad (by simpa using hc)]
  exact aV aE (fU _ k b) λk1=>aN (mk:=Prod.mk) aE
 rw[vab (by simpa using hc)]
 refine cM (λhc=>?_) λhc=>?_
 ·rw[vad (by simpa using hc)]
  exact aV aE (fU _ k b) λk1=>aN (mk:=Prod.mk) aE
 rw[vab (by simpa using hc)]
 refine cM (λhc=>?_) λhc=>?_
 ·rw[vad (by simpa using hc)]
  exact aW aE (PC _ k b) λk1 b1=>aN (mk:=Prod.mk) aE
 rw[vab (by simpa using hc)]
 refine cM (λhc=>?_) λhc=>?_
 ·rw[vad (by simpa using hc)]
  unfold Yo
  refine aW aE (qaC _ k b) λk1 b1=>bU aE (Td t.Args (by omega) (λa ha=>Nb ht ha) hR k1 b1) λk2 b2=>?_
  unfold qfy
  refine cM (λhp=>?_) λhp=>?_
  ·rw[vab (λe=>by rw[e]at hp;simp at hp)]
   exact aV aE (fU _ k2 b2) λk3=>bU aE (qjz t (by omega) (λp hp=>I0 ht hp) k3 b2) λk4 b4=>aV aE (fU _ k4 b4) λk5=>aN (mk:=Prod.mk) aE
  ·rw[vad (vai (by simp at hp;simp[hp]))]
   exact aN (mk:=Prod.mk) aE
 rw[vab (by simpa using hc)]
 refine cM (λhc=>?_) λhc=>?_
 ·rw[vad (by simpa using hc)]
  exact(bU aE (qqB t (hs.2 (by simpa using hc)) (by omega) hR k b) λk1 b1=>aN (mk:=Prod.mk) aE).cast (by rw[vak])
 ·rw[vab (by simpa using hc)]
  exact aN (mk:=Prod.mk) aE
theorem qjB(t:af)(ht:y3 t)(hs:qlS t)(hR:∀a∈t.Args,∀k b,RS fb DX k b [f a] (R a k b))(k:List Int)(b:Bool):RS fb DX k b (uJ f t) (lC R t k b):=by
 unfold lC uJ
 refine bM (qqC t ht) (cM (λhc=>TE (by rw[ik,hc];rfl)) λhc=>?_)
 rw[hc]
 refine RS.cast (ws:=(if t.Pred=fO then[]else[tW fG])++(C8 f t++(if t.Pred=fO then[]else[tW kY,pW t.Pred,tW PL]))) (bM (Ag _ (wy ht)) ?_) (by rw[ik];simp)
 by_cases hz:t.Pred=fO
 ·rw[vad hz,vad hz,vaS]
  simp only[hz,decide_true,vcC]
  unfold ki
  simp only[vaq,if_false,vaa]
  exact bU aE (qif t ht hs hR k b) λk1 b1=>aN (mk:=DX) aE
 ·rw[vab hz,vab hz,List.singleton_append]
  simp only[hz,decide_false,Bool.not_false]
  unfold ki
  simp only[if_true]
  refine aV aE (qfJ (fU _ k b)) λk1=>bU aE (qif t ht hs hR k1 b) λk2 b2=>?_
  exact aV aE (fU _ k2 b2) λk3=>aW aE (qbE _ (wy ht) k3 b2) λk4 b4=>aV aE (fU _ k4 b4) λk5=>aN (mk:=DX) aE
end
theorem qqD(t:af)(n:Nat)(hn:fh t<=n)(ht:y3 t)(hc:qdG t)(k:List Int)(b:Bool):RS fb DX k b [Ld n t] (uv t k b):=by
 have key:∀m n t k b,fh t<m->fh t<=n->y3 t->qdG t->RS fb DX k b [Ld n t] (qbf qv m (t,k,b)):=by
  intro m
  induction m with
  |zero=>intro n t k b h;omega
  |succ m ih=>
   intro n t k b hm hn ht hc
   have hp:=ST t
   obtain⟨n,rfl⟩:∃n',n=n'+1:=⟨n - 1,by omega⟩
   rw[Nc]
   exact RS.one (qjB t ht (qe5 (ou ht) hc) (λa ha k b=>ih n a k b (by have:=mb ha;omega) (by have:=mb ha;omega) (Nb ht ha) (qbs (ou ht) hc ha)) k b)
 exact key _ n t k b (Nat.lt_of_le_of_lt (ou ht) (by unfold ZC cW;omega)) hn ht hc
abbrev gh(s:ae):ae:=s
section
variable{f:af->Wr}{R:af->ae->Bool->Option (Bool×ae)}
theorem qjD(a:af)(hR:∀k b,RS gh DX k b [f a] (R a k b))(k:ae)(b:Bool):RS gh Prod.mk k b [qdp f a] (nZ R a k b):=by
 unfold nZ qdp
 refine bM (qdn a) (cM (λhc=>?_) λhc=>?_)
 ·rw[vad hc]
  exact RS.one (aV aG (fZ _ k b) λk1=>aW aG (hR k1 b) λk2 b2=>aV aG (fZ _ k2 b2) λk3=>aN (mk:=Prod.mk) aG)
 ·rw[vab (by simp[hc])]
  exact aW aG (hR k b) λk1 b1=>aN (mk:=Prod.mk) aG
theorem qlz(l:List af)(hl:l.length<9223372036854775808)(hR:∀a∈l,∀k b,RS gh DX k b [f a] (R a k b))(k:ae)(b:Bool):RS gh Prod.mk k b (l.flatMap λa=>[tW dh,qdp f a]) (lh R l (l.length:Int) 0 k b):=by
 unfold lh
 refine qfN aG l hl (λa=>[tW dh,qdp f a]) (λi hi k b=>?_) (λk b=>?_)
 ·show RS _ _ _ _ _ (eV R l (l.length:Int) (i:Int) k b)
  unfold eV
  rw[vad (ZE hi)]
  exact bM (aT _ _ hi) (aV aG (fZ _ k b) λk1=>aW aG (qjD _ (hR _ (vag hi)) k1 b) λk2 b2=>aN aG)
 ·show eV R l (l.length:Int) (l.length:Int) k b=_
  unfold eV
  rw[vab (ZD _)]
theorem qjC(l:List aa)(hl:l.length<9223372036854775808)(hs:∀p∈l,fP (ac p)<=16777216)(k:ae)(b:Bool):RS gh Prod.mk k b (xd aU (l.map λp=>dz [tW jn,qdv p])) (li l (l.length:Int) 0 k b):=by
 unfold li
 refine sC aG l hl aU (λp=>dz [tW jn,qdv p]) (λi hi k b=>?_) (λk b=>?_)
 ·show RS _ _ _ _ _ (eW l (l.length:Int) (i:Int) k b)
  unfold eW
  rw[vad (ZE hi)]
  refine bM (aT _ _ hi) (jL aG (OR i k b) λk1=>RS.one (aV aG (fZ _ k1 b) λk2=>aW aG (qhA _ (hs _ (vag hi)) k2 b) λk3 b3=>aN aG))
 ·show eW l (l.length:Int) (l.length:Int) k b=_
  unfold eW
  rw[vab (ZD _)]
theorem qqN(t:af)(h6:2<=t.Args.length/\(t.Names=[]\/t.Names.length=t.Args.length - 1))(hl:t.Args.length<9223372036854775808)(hR:∀a∈t.Args,∀k b,RS gh DX k b [f a] (R a k b))(k:ae)(b:Bool):RS gh Prod.mk k b (YB f t) (nh R t k b):=by
 unfold nh YB
 have hw:dt ((t.Args.length:Int) - 1)=((t.Args.length - 1:Nat):Int):=by rw[cC (by omega) (by omega)];omega
 rw[hw]
 have hlen:((t.Args.take (t.Args.length - 1)).zipIdx).length=t.Args.length - 1:=by rw[vcp,va4];omega
 have hlen2:(t.Args.take (t.Args.length - 1)).length=t.Args.length - 1:=by rw[va4];omega
 have hlast:SS f t.Args=f (t.Args[t.Args.length - 1]'(by omega)):=by
  unfold SS
  rw[vac (by omega)]
  rfl
 rw[hlast]
 refine aV aG (fZ _ k b) λk1=>bM (XE t.Args (t.Args.length - 1) (by omega)) (bU aG (mk:=Prod.mk) ?_ λk2 b2=>aV aG (fZ _ k2 b2) λk3=>bM (aT _ _ (by omega)) (aW aG (hR _ (vag _) k3 b2) λk4 b4=>aN (mk:=Prod.mk) aG))
 unfold rD
 refine sC aG ((t.Args.take (t.Args.length - 1)).zipIdx) (by omega) aU (Sc f t.Names) (body:=λzz:Int×ae×Bool=>eG R t (t.Args.take (t.Args.length - 1)) ((t.Args.take (t.Args.length - 1)).length:Int) zz.1 zz.2.1 zz.2.2) (λi hi k b=>?_) (λk b=>?_)
 ·show RS _ _ _ _ _ (eG R t (t.Args.take (t.Args.length - 1)) ((t.Args.take (t.Args.length - 1)).length:Int) (i:Int) k b)
  unfold eG
  obtain⟨hi',e⟩:=qbQ hi
  rw[hlen]at hi
  rw[vad (ZE (by rw[hlen2];exact hi)),e]
  have ei:(t.Args.take (t.Args.length - 1))[i]'(by omega)=t.Args[i]:=by simp
  refine bM (aT _ i (by omega)) (jL aG (OR i k b) λk1=>RS.of1' ?_)
  rw[ei]
  refine bU aG (mk:=Prod.mk) ?_ λk2 b2=>aW aG (hR _ (vag _) k2 b2) λk3 b3=>aN aG
  unfold rC
  by_cases hn:t.Names=[]
  ·rw[vad hn,vab (by simp[hn])]
   exact aN (mk:=Prod.mk) aG
  ·have hln:=h6.2.resolve_left hn
   have hin:i<t.Names.length:=by omega
   rw[vab hn,vad (by simp;omega)]
   have eg:t.Names.getD i []=t.Names[i]:=by simp[List.getD,hin]
   simp only[]
   rw[eg]
   exact bM (aT _ _ hin) (aW aG (If _ false k1 b) λk2 b2=>aV aG (fZ _ k2 b2) λk3=>aN (mk:=Prod.mk) aG)
 ·show eG R t (t.Args.take (t.Args.length - 1)) ((t.Args.take (t.Args.length - 1)).length:Int) (_:Int) k b=_
  unfold eG
  rw[hlen,hlen2,vab (ZD _)]
theorem qlC(t:af)(ht:y3 t)(hR:∀a∈t.Args,∀k b,RS gh DX k b [f a] (R a k b))(k:ae)(b:Bool):RS gh Prod.mk k b (Yo f t) (lH R t k b):=by
 have hlen:=lK t
 have hplen:=Du t
 have hB:fh t<=1073741824:=ou ht
 unfold lH Yo
 refine aW aG (If _ true k b) λk1 b1=>bU aG (qlz t.Args (by omega) hR k1 b1) λk2 b2=>?_
 unfold qfy
 refine cM (λhp=>?_) λhp=>?_
 ·rw[vad (vai (by simp at hp;simp[hp]))]
  exact aN (mk:=Prod.mk) aG
 ·rw[vab (λe=>by rw[e]at hp;simp at hp)]
  exact aV aG (fZ _ k2 b2) λk3=>bU aG (qjC t.Preds (by omega) (λp hp=>I0 ht hp) k3 b2) λk4 b4=>aV aG (fZ _ k4 b4) λk5=>aN (mk:=Prod.mk) aG
theorem qlB(t:af)(ht:y3 t)(hR:∀a∈t.Args,∀k b,RS gh DX k b [f a] (R a k b))(h6:t.Op≠6)(k:ae)(b:Bool):RS gh DX k b (C8 f t) (if(t.Op==1)=true then(ay ([VL]:List ae) k b).bind λr25=>some (b,r25)
   else if(t.Op==2)=true then(ay ([Pa]:List ae) k b).bind λr27=>some (b,r27)
   else if(t.Op==3)=true then(ay ([Pb]:List ae) k b).bind λr29=>some (b,r29)
   else if(t.Op==5)=true then(cT t.Name false k b).bind λr31=>some (r31.2,r31.1)
   else if(t.Op==4)=true then(lH R t k b).bind λr33=>some (r33.2,r33.1)
   else some (b,k)):=by
 unfold C8
 refine cM (λhc=>?_) λhc=>?_
 ·rw[vad (by simpa using hc)]
  exact aV aG (fZ _ k b) λk1=>aN (mk:=DX) aG
 rw[vab (by simpa using hc)]
 refine cM (λhc=>?_) λhc=>?_
 ·rw[vad (by simpa using hc)]
  exact aV aG (fZ _ k b) λk1=>aN (mk:=DX) aG
 rw[vab (by simpa using hc)]
 refine cM (λhc=>?_) λhc=>?_
 ·rw[vad (by simpa using hc)]
  exact aV aG (fZ _ k b) λk1=>aN (mk:=DX) aG
 rw[vab (by simpa using hc)]
 refine cM (λhc=>?_) λhc=>?_
 ·rw[vad (by simpa using hc)]
  exact aW aG (If _ false k b) λk1 b1=>aN (mk:=DX) aG
 rw[vab (by simpa using hc)]
 refine cM (λhc=>?_) λhc=>?_
 ·rw[vad (by simpa using hc)]
  exact(bU aG (qlC t ht hR k b) λk1 b1=>aN (mk:=DX) aG).cast (by rw[vak])
 ·rw[vab (by simpa using hc),vab h6]
  exact aN (mk:=DX) aG
theorem qlm(n:Nat):((n:Int)==0)= !decide ((n:Int)>0):=by
 by_cases h:n=0
 ·subst h;rfl
 ·have h1:((n:Int)==0)=false:=by simpa using h
  have h2:decide ((n:Int)>0)=true:=vaI (by omega)
  rw[h1,h2];rfl
theorem qhB(t:af)(k:ae)(b:Bool):my t k b=some (b||(!decide (t.Pred=fO)||decide ((t.Preds.length:Int)>0))):=by
 unfold my
 rw[E9,qlm,Ig,Ig]
 simp only[vaa]
 generalize decide (t.Pred=fO)=x
 generalize decide ((t.Preds.length:Int)>0)=y
 cases x<;>cases y<;>cases b<;>rfl
theorem qhC(t:af)(h6:t.Op≠6)(k:ae)(b:Bool):mz t k b=some (b||N6 t):=by
 unfold mz N6
 have e6:(t.Op==6)=false:=by simpa using h6
 rw[qlm,Ig,Ig,e6]
 simp only[vaa,bne]
 generalize decide (t.Pred=fO)=x
 generalize decide ((t.Preds.length:Int)>0)=y
 generalize (t.Op==4)=z
 cases x<;>cases y<;>cases z<;>cases b<;>rfl
theorem qjE(t:af)(ht:y3 t)(hc:qdG t)(hs:qlS t)(hR:∀a∈t.Args,∀k b,RS gh DX k b [f a] (R a k b))(hbare:t.Op≠6->t.Pred≠fO->∀k b,RS gh DX k b (uJ f (zL t)) (R (zL t) k b))(k:ae)(b:Bool):RS gh DX k b (uJ f t) (ij R t k b):=by
 have hlen:=lK t
 have hB:fh t<=1073741824:=ou ht
 unfold ij
 refine bM hc (bM (Ig _ k b) ?_)
 have eb:(b||!((0:Int)==0))=b:=by simp
 rw[eb]
 refine cM (λhb=>?_) λhb=>?_
 ·subst hb
  exact Xz (ws':=[]) (aN (mk:=DX) aG) (.inl rfl) (by simp[dz])
 refine cM (λh6=>?_) λh6=>?_
 ·have h6:t.Op=6:=by simpa using h6
  refine bM (qhB t k b) ?_
  have hill:N6 t=(!decide (t.Pred=fO)||decide ((t.Preds.length:Int)>0)):=by unfold N6;simp[h6]
  rw[<-hill]
  have hcore:C8 f t=YB f t:=by unfold C8;simp[h6]
  have hmain:RS gh DX k (b||N6 t) (YB f t) ((nh R t k (b||N6 t)).bind λr11=>some (r11.2,r11.1)):=(bU aG (qqN t (hs.2 h6) (by omega) hR k _) λk1 b1=>aN (mk:=DX) aG).cast (by rw[vak])
  unfold uJ
  refine M3 ?_
  by_cases hz:t.Pred=fO
  ·rw[vad hz,vad hz,vaS,vak,hcore]
   exact hmain
  ·refine Xz hmain (.inl (by rw[hill,hb];simp[hz])) ?_
   rw[vab hz,vab hz,qJ,qJ,hcore]
   simp only[vam]
   omega
 have h6:t.Op≠6:=by simpa using h6
 refine bM (E9 _) (cM (λhz=>?_) λhz=>?_)
 ·have hz:t.Pred≠fO:=by simpa using hz
  refine RS.cast (ws:=tW fG::(uJ f (zL t)++[tW kY,pW t.Pred,tW PL])) (aV aG (fZ _ k b) λk1=>bU aG (hbare h6 hz k1 b) λk2 b2=>aV aG (fZ _ k2 b2) λk3=>aW aG (Xy _ (wy ht) k3 b2) λk4 b4=>aV aG (fZ _ k4 b4) λk5=>aN (mk:=DX) aG) ?_
  have e6:(t.Op==6)=false:=by simpa using h6
  have hi:N6 (zL t)=N6 t:=by
   unfold N6
   show((t.Op==6)&&_||_)=((t.Op==6)&&_||_)
   rw[e6,vb7,vb7]
   rfl
  have hco:C8 f (zL t)=C8 f t:=rfl
  have hw:uJ f (zL t)=([],N6 t)::C8 f t:=by
   unfold uJ
   rw[vad (show(zL t).Pred=fO from rfl),vad (show(zL t).Pred=fO from rfl),hi,hco,vaS,vak]
  rw[hw]
  unfold uJ
  rw[vab hz,vab hz]
  simp only[ik,qJ,vaN,vbn,vaS,vbV]
 ·have hz:t.Pred=fO:=by simpa using hz
  refine bM (qhC t h6 k b) ?_
  unfold uJ
  rw[vad hz,vad hz,vaS,vak]
  exact M3 (qlB t ht hR h6 k _)
end
theorem qqP(t:af)(n:Nat)(hn:fh t<=n)(ht:y3 t)(hc:qdG t)(k:ae)(b:Bool):RS gh DX k b [Ld n t] (gu t k b):=by
 have key:∀m n t k b,2 * fh t+(if t.Pred=fO then 0 else 1)<m->fh t<=n->y3 t->qdG t->RS gh DX k b [Ld n t] (qbf kp m (t,k,b)):=by
  intro m
  induction m with
  |zero=>intro n t k b h;omega
  |succ m ih=>
   intro n t k b hm hn ht hc
   have hp:=ST t
   obtain⟨n,rfl⟩:∃n',n=n'+1:=⟨n - 1,by omega⟩
   rw[Nc]
   refine RS.one (qjE (f:=Ld n) t ht hc (qe5 (ou ht) hc) (λa ha k b=>ih n a k b (by have:=mb ha;split<;>split at hm<;>omega) (by have:=mb ha;omega) (Nb ht ha) (qbs (ou ht) hc ha)) (λ_ hz k b=>?_) k b)
   have:=ih (n+1) (zL t) k b (by rw[N7];rw[vab hz]at hm;rw[vad (show(zL t).Pred=fO from rfl)];omega) (by rw[N7];exact hn) (qfU ht) (qe4 (ou ht) hc)
   rw[Nc]at this
   exact this.of1
 exact key _ n t k b (by have:=ou ht;unfold ZC;unfold cW at this;split<;>omega) hn ht hc
def qj1(n:Nat)(t:af):Wr:=if jk t=some 0 then Ld n t else([],true)
theorem qh1(t:af)(ht:y3 t):∃r,jk t=some r/\nO t=some r:=by
 obtain⟨r,e,_⟩:=AU t (ou ht)
 exact⟨r,e,by rw[O2,e]⟩
theorem HV(t:af)(n:Nat)(hn:fh t<=n)(ht:y3 t)(k:List Int)(b:Bool):RS fb DX k b [qj1 n t] (dU t k b):=by
 obtain⟨r,e1,e2⟩:=qh1 t ht
 unfold dU qj1
 refine bM e2 (cM (λh=>?_) λh=>?_)
 ·rw[vab (by rw[e1];simpa using h)]
  exact TE (by simp[dz])
 ·have h0:r=0:=by simpa using h
  subst h0
  rw[vad e1]
  exact aW aE (qqD t n hn ht e1 k b) λk1 b1=>aN (mk:=DX) aE
theorem Ie(t:af)(n:Nat)(hn:fh t<=n)(ht:y3 t)(k:ae)(b:Bool):RS gh DX k b [qj1 n t] (gu t k b):=by
 obtain⟨r,e1,e2⟩:=qh1 t ht
 unfold qj1
 by_cases h0:r=0
 ·subst h0
  rw[vad e1]
  exact qqP t n hn ht e1 k b
 ·rw[vab (by rw[e1];simpa using h0)]
  show RS gh DX k b _ (qbf kp (2 ^ 200) (t,k,b))
  obtain⟨m,hm⟩:∃m,2 ^ 200=m+1:=⟨2 ^ 200 - 1,by omega⟩
  rw[hm]
  show RS gh DX k b _ (ij (λt k b=>qbf kp m (t,k,b)) t k b)
  unfold ij
  refine bM e1 (bM (Ig _ k b) ?_)
  have hx:(b||!(r==0))=true:=by simp[h0]
  rw[hx]
  exact TE (by simp[dz])
theorem QY(e:ag)(s:Int)(he:nE e<=cW):pl e s=Gv (λs x=>iO x s) (cN e) s:=by
 refine qbW (F:=mo) (λs x=>iO x s) (λR e s he=>?_) e s he
 show ja (λe k=>R (e,k)) e s=_
 unfold ja
 congr 1
 funext r
 obtain⟨b,s'⟩:=r
 cases b with
 |false=>rfl
 | true =>
  rw[vab (show ¬((!(true,s').1)=true) by simp)]
  refine VJ (λs x=>R (x,s)) e he s' (λzz=>dG (λe k=>R (e,k)) e.Kids e.Kids.length zz.1 zz.2) (λzz=>dH (λe k=>R (e,k)) e.Alts e.Alts.length zz.1 zz.2) (λi h s=>?_) (λs=>?_) (λi h s=>?_) (λs=>?_) (λ_=>rfl) (λ_=>rfl) (λ_=>rfl) (λ_=>rfl)
  ·show dG (λe k=>R (e,k)) e.Kids e.Kids.length i s=_
   unfold dG
   rw[vad (by simpa using h),aT _ _ h];rfl
  ·show dG (λe k=>R (e,k)) e.Kids e.Kids.length e.Kids.length s=_
   unfold dG
   rw[vab (by simp)]
  ·show dH (λe k=>R (e,k)) e.Alts e.Alts.length i s=_
   unfold dH
   rw[vad (by simpa using h),aT _ _ h];rfl
  ·show dH (λe k=>R (e,k)) e.Alts e.Alts.length e.Alts.length s=_
   unfold dH
   rw[vab (by simp)]
theorem QX(e:ag)(s:Int)(he:nE e<=cW):km e s=Gv (λs x=>iN x s) (cN e) s:=by
 refine qbW (F:=mn) (λs x=>iN x s) (λR e s he=>?_) e s he
 show i8 (λe k=>R (e,k)) e s=_
 unfold i8
 congr 1
 funext r
 obtain⟨b,s'⟩:=r
 cases b with
 |false=>rfl
 | true =>
  rw[vab (show ¬((!(true,s').1)=true) by simp)]
  refine VJ (λs x=>R (x,s)) e he s' (λzz=>dD (λe k=>R (e,k)) e.Kids e.Kids.length zz.1 zz.2) (λzz=>dF (λe k=>R (e,k)) e.Alts e.Alts.length zz.1 zz.2) (λi h s=>?_) (λs=>?_) (λi h s=>?_) (λs=>?_) (λ_=>rfl) (λ_=>rfl) (λ_=>rfl) (λ_=>rfl)
  ·show dD (λe k=>R (e,k)) e.Kids e.Kids.length i s=_
   unfold dD
   rw[vad (by simpa using h),aT _ _ h];rfl
  ·show dD (λe k=>R (e,k)) e.Kids e.Kids.length e.Kids.length s=_
   unfold dD
   rw[vab (by simp)]
  ·show dF (λe k=>R (e,k)) e.Alts e.Alts.length i s=_
   unfold dF
   rw[vad (by simpa using h),aT _ _ h];rfl
  ·show dF (λe k=>R (e,k)) e.Alts e.Alts.length e.Alts.length s=_
   unfold dF
   rw[vab (by simp)]
theorem qdP(e:ag)(he:nE e<=cW):yL e=some ((cN e).length:Int):=by
 have hB:nE e<=1073741824:=he
 have hn:=qbp e
 have key:∀(l:List ag) (k:Nat),k+l.length<=1073741824->Gv (λs x=>iO x s) l (k:Int)=some (true,((k+l.length:Nat):Int)):=by
  intro l
  induction l with
  |nil=>intro k _;rfl
  | cons x l ih =>
   intro k hk
   simp only[vaG]at hk
   have e1:iO x (k:Int)=some (true,((k+1:Nat):Int)):=by
    unfold iO
    rw[cC (by omega) (by omega)];rfl
   rw[Gv,e1]
   show Gv _ l ((k+1:Nat):Int)=_
   rw[ih (k+1) (by omega)]
   simp only[vaG]
   congr 3;omega
 unfold yL
 rw[QY e 0 he]
 have:=key (cN e) 0 (by omega)
 rw[vaQ]at this
 rw[show(0:Int)=((0:Nat):Int)from rfl,this];rfl
theorem NV(e:ag)(he:nE e<=cW):tY e=some (bA e):=by
 have hB:nE e<=1073741824:=he
 have l1:=BC e
 have l2:e.Kids.length+e.Alts.length<nE e:=by simpa[bA]using l1
 unfold tY
 rw[qn (by simp;omega)]
 show(pr e ([]++e.Kids) 0).bind _=_
 have h:=ej e.Alts.length (λzz:(List ag)×Int=>gM e zz.1 zz.2) (λi=>(e.Kids++(e.Alts.take i).map (·.Body),(i:Int))) (bA e) (λi hi=>?_) ?_
 ·rw[vaS]
  have h':pr e e.Kids 0=some (bA e):=by unfold pr;simpa using h
  rw[h'];rfl
 ·show gM e _ (i:Int)=_
  unfold gM
  rw[vad (by simpa using hi),aT _ _ hi,vaa,qn (by simp;omega),vaa,cC (by omega) (by omega),vav hi,vaA,<-vbn]
  rfl
 ·show gM e _ (e.Alts.length:Int)=_
  unfold gM
  rw[vab (by simp),va1];rfl
theorem qjM{l:List ag}{n:Nat}(h:(l.map λx=>(cN x).length).sum<=n)(i:Nat):((l.take i).map λx=>(cN x).length).sum<=n:=by
 have e1:l.take i++l.drop i=l:=vbp i l
 have:(l.map λx=>(cN x).length).sum=((l.take i).map λx=>(cN x).length).sum+((l.drop i).map λx=>(cN x).length).sum:=by rw[<-vaJ,<-vaA,e1]
 omega
theorem OQ(e:ag)(he:nE e<=cW):Iq e=some ((cN e).length:Int):=by
 have hB:nE e<=1073741824:=he
 refine uY (F:=G5) nE (λx=>nE x<=cW) (λx=>((cN x).length:Int)) (λR e he ih=>?_) e he (lp he)
 have hB:nE e<=1073741824:=he
 show Bi (λe=>R e) e=_
 unfold Bi
 rw[NV e he,vaa]
 have hn:=qbp e
 have hlen:=BC e
 have e1:(cN e).length=1+((bA e).map λx=>(cN x).length).sum:=by rw[um,vaG,vcW];omega
 have hs:((bA e).map λx=>(cN x).length).sum<=1073741824:=by omega
 have h:=ej (bA e).length (λzz:Int×Int=>ir (λe=>R e) (bA e) zz.1 zz.2) (λi=>(((1+(((bA e).take i).map λx=>(cN x).length).sum:Nat):Int),(i:Int))) (((cN e).length:Nat):Int) (λi hi=>?_) ?_
 ·have h':ya (λe=>R e) (bA e) 1 0=some ((cN e).length:Int):=by unfold ya;simpa using h
  rw[h'];rfl
 ·show ir (λe=>R e) (bA e) _ (i:Int)=_
  unfold ir
  have hm:(bA e)[i]∈bA e:=vag hi
  have hlt:=Iy hm
  have s1:=qjM hs (i+1)
  have s2:(((bA e).take (i+1)).map λx=>(cN x).length).sum=(((bA e).take i).map λx=>(cN x).length).sum+(cN (bA e)[i]).length:=by
   rw[vav hi,vaA,vaJ];simp
  rw[vad (by simpa using hi),aT _ _ hi,vaa]
  show(R _).bind _=_
  rw[ih _ hlt (by unfold cW;omega),vaa]
  dsimp only
  rw[cC (by omega) (by omega),cC (by omega) (by omega)]
  congr 3;omega
 ·show ir (λe=>R e) (bA e) _ ((bA e).length:Int)=_
  unfold ir
  rw[vab (by simp),va1]
  congr 2;omega
theorem Sr(l:List ag)(i:Nat)(h:i<l.length):IB (l.take (i+1))=max (IB (l.take i)) (dE l[i]):=by
 rw[vav h,Eu];simp[IB]
theorem W8(a b:Nat):(if(b:Int)>(a:Int)then(b:Int)else(a:Int))=((max a b:Nat):Int):=by
 by_cases h:(b:Int)>(a:Int)
 ·rw[vad h];congr 1;omega
 ·rw[vab h];congr 1;omega
theorem Vv(e:ag)(he:nE e<=cW):NF e=some (dE e:Int):=by
 have hB:nE e<=1073741824:=he
 refine uY (F:=G3) nE (λx=>nE x<=cW) (λx=>(dE x:Int)) (λR e he ih=>?_) e he (lp he)
 have hB:nE e<=1073741824:=he
 show Bh (λe=>R e) e=_
 unfold Bh
 rw[NV e he,vaa]
 have hlen:=BC e
 have hd:=qh2 e
 have h:=ej (bA e).length (λzz:Int×Int=>iq (λe=>R e) (bA e) zz.1 zz.2) (λi=>((IB ((bA e).take i):Int),(i:Int))) (IB (bA e):Int) (λi hi=>?_) ?_
 ·have h':xZ (λe=>R e) (bA e) 0 0=some (IB (bA e):Int):=by unfold xZ;simpa[IB]using h
  have e1:=NZ e
  rw[h',vaa,cC (by omega) (by omega),e1];rfl
 ·show iq (λe=>R e) (bA e) _ (i:Int)=_
  unfold iq
  have hm:(bA e)[i]∈bA e:=vag hi
  have hlt:=Iy hm
  rw[vad (by simpa using hi),aT _ _ hi,vaa]
  show(R _).bind _=_
  rw[ih _ hlt (by unfold cW;omega),vaa]
  dsimp only
  rw[cC (by omega) (by omega),W8,Sr _ _ hi]
  rfl
 ·show iq (λe=>R e) (bA e) _ ((bA e).length:Int)=_
  unfold iq
  rw[vab (by simp),va1]
theorem qdL(e:ag)(he:nE e<=cW):Fd e=some (dE e:Int):=by
 have hB:nE e<=1073741824:=he
 refine uY (F:=Ak) nE (λx=>nE x<=cW) (λx=>(dE x:Int)) (λR e he ih=>?_) e he (lp he)
 have hB:nE e<=1073741824:=he
 show sK (λe=>R e) e=_
 unfold sK
 have hk:=y0 e
 have ha:=n9 e
 have hd:=qh2 e
 have h:=ej e.Kids.length (λzz:Int×Int=>fl (λe=>R e) e.Kids (e.Kids.length:Int) zz.1 zz.2) (λi=>((IB (e.Kids.take i):Int),(i:Int))) (IB e.Kids:Int) (λi hi=>?_) ?_
 ·have h':qb (λe=>R e) e.Kids (e.Kids.length:Int) 0 0=some (IB e.Kids:Int):=by unfold qb;simpa[IB]using h
  rw[h',vaa]
  have g:=ej e.Alts.length (λzz:Int×Int=>fm (λe=>R e) e.Alts (e.Alts.length:Int) zz.1 zz.2) (λi=>(((max (IB e.Kids) (IB ((e.Alts.map (·.Body)).take i)):Nat):Int),(i:Int))) ((IB (bA e):Nat):Int) (λi hi=>?_) ?_
  ·have g':qc (λe=>R e) e.Alts (e.Alts.length:Int) (IB e.Kids:Int) 0=some (IB (bA e):Int):=by unfold qc;simpa[IB]using g
   have e1:=NZ e
   rw[g',vaa,cC (by omega) (by omega),e1];rfl
  ·show fm (λe=>R e) e.Alts (e.Alts.length:Int) _ (i:Int)=_
   unfold fm
   have hm:e.Alts[i]∈e.Alts:=vag hi
   have hlt:=L2 hm
   have hi':i<(e.Alts.map (·.Body)).length:=by simpa using hi
   rw[vad (by simpa using hi),aT _ _ hi,vaa]
   show(R _).bind _=_
   rw[ih _ hlt (by unfold cW;omega),vaa]
   dsimp only
   rw[cC (by omega) (by omega),W8,Sr _ _ hi',vbM,Nat.max_assoc]
   rfl
  ·show fm (λe=>R e) e.Alts (e.Alts.length:Int) _ (e.Alts.length:Int)=_
   unfold fm
   rw[vab (by simp),bA,Eu,List.take_of_length_le (by simp)]
 ·show fl (λe=>R e) e.Kids (e.Kids.length:Int) _ (i:Int)=_
  unfold fl
  have hm:e.Kids[i]∈e.Kids:=vag hi
  have hlt:=oh hm
  rw[vad (by simpa using hi),aT _ _ hi,vaa]
  show(R _).bind _=_
  rw[ih _ hlt (by unfold cW;omega),vaa]
  dsimp only
  rw[cC (by omega) (by omega),W8,Sr _ _ hi]
  rfl
 ·show fl (λe=>R e) e.Kids (e.Kids.length:Int) _ (e.Kids.length:Int)=_
  unfold fl
  rw[vab (by simp),va1]
noncomputable instance decT:DecidableEq af:=λa b=>Classical.propDecidable _
theorem qb4{a b:Bool}:(if a=true then some b else some false)=some (a&&b):=by cases a<;>rfl
theorem qie{a b:Bool}:(if a=true then some true else some b)=some (a||b):=by cases a<;>rfl
theorem Mk{α:Type}[DecidableEq α]{a b:List α}(ha:a.length<=cW)(body:Int->Option (Int⊕(Unit⊕Unit)))
  (hin:∀(i:Nat) (h1:i<a.length) (h2:i<b.length),body (i:Int)=some (if decide (a[i]=b[i])=true then .inl (dt ((i:Int)+1))else .inr (.inl ()))) (hend:body (a.length:Int)=some (.inr (.inr ()))) {k:Unit⊕Unit->Option Bool} (g1:k (.inl ())=some false) (g2:k (.inr ())=some true):
  (if((a.length:Int)!=(b.length:Int))=true then some false else(loop body 0).bind k)=some (decide (a=b)):=by
 by_cases hl:a.length=b.length
 ·rw[vab (by simp[hl]),Ms hl (by unfold cW at ha;omega) body (.inl ()) (.inr ()) hin hend]
  by_cases he:a=b
  ·simp only[he,decide_true,if_true,vaa];exact g2
  ·simp only[he,decide_false,vaq,if_false,vaa];exact g1
 ·rw[vad (by simp;omega),decide_eq_false (λhe=>hl (by rw[he]))]
theorem qcT{a b:List ae}(ha:a.length<=cW):yI a b=some (decide (a=b)):=by
 unfold yI xf
 refine Mk ha _ (λi h1 h2=>?_) ?_ rfl rfl
 ·show gL a b (a.length:Int) (i:Int)=_
  unfold gL
  rw[vad (by simpa using h1),aT a i h1]
  simp only[vaa]
  rw[aT b i h2]
  simp only[vaa]
  by_cases he:a[i]=b[i]<;>simp[he]
 ·show gL a b (a.length:Int) (a.length:Int)=_
  unfold gL
  rw[vab (by simp)]
theorem qdi{a b:List ae}(ha:a.length<=cW):uQ a b=some (decide (a=b)):=by
 unfold uQ tV
 refine Mk ha _ (λi h1 h2=>?_) ?_ rfl rfl
 ·show fQ a b (i:Int)=_
  unfold fQ
  rw[vad (by simpa using h1),aT a i h1]
  simp only[vaa]
  rw[aT b i h2]
  simp only[vaa]
  by_cases he:a[i]=b[i]<;>simp[he]
 ·show fQ a b (a.length:Int)=_
  unfold fQ
  rw[vab (by simp)]
theorem qcU{a b:List aa}(ha:a.length<=cW)(h:∀x∈a,nP x<=cW):oq a b=some (decide (a=b)):=by
 unfold oq pk
 refine Mk ha _ (λi h1 h2=>?_) ?_ rfl rfl
 ·show eN b a (a.length:Int) (i:Int)=_
  unfold eN
  rw[vad (by simpa using h1),aT a i h1]
  simp only[vaa]
  rw[aT b i h2]
  simp only[vaa]
  rw[XB _ _ (h _ (vag h1))]
  simp only[vaa]
  by_cases he:a[i]=b[i]<;>simp[he]
 ·show eN b a (a.length:Int) (a.length:Int)=_
  unfold eN
  rw[vab (by simp)]
theorem qcV{R:af->af->Option Bool}{a b:List af}(ha:a.length<=cW)(h:∀x∈a,∀y∈b,R x y=some (decide (x=y))):fH R a b=some (decide (a=b)):=by
 unfold fH gR
 refine Mk ha _ (λi h1 h2=>?_) ?_ rfl rfl
 ·show cR R b a (a.length:Int) (i:Int)=_
  unfold cR
  rw[vad (by simpa using h1),aT a i h1]
  simp only[vaa]
  rw[aT b i h2]
  simp only[vaa]
  rw[h _ (vag h1) _ (vag h2)]
  simp only[vaa]
  by_cases he:a[i]=b[i]<;>simp[he]
 ·show cR R b a (a.length:Int) (a.length:Int)=_
  unfold cR
  rw[vab (by simp)]
theorem qdj{R:af->af->Option Bool}{a b:List af}(ha:a.length<=cW)(h:∀x∈a,∀y∈b,R x y=some (decide (x=y))):uR R a b=some (decide (a=b)):=by
 unfold uR tX
 refine Mk ha _ (λi h1 h2=>?_) ?_ rfl rfl
 ·show fR R a b (i:Int)=_
  unfold fR
  rw[vad (by simpa using h1),aT a i h1]
  simp only[vaa]
  rw[aT b i h2]
  simp only[vaa]
  rw[h _ (vag h1) _ (vag h2)]
  simp only[vaa]
  by_cases he:a[i]=b[i]<;>simp[he]
 ·show fR R a b (a.length:Int)=_
  unfold fR
  rw[vab (by simp)]
theorem DP{a b:af}:a=b↔a.Op=b.Op/\a.Name=b.Name/\a.Names=b.Names/\a.Pred=b.Pred/\a.Preds=b.Preds/\a.Args=b.Args:=by
 obtain⟨o,n,xs,ns,p,ps⟩:=a
 obtain⟨o',n',xs',ns',p',ps'⟩:=b
 constructor
 ·rintro h;cases h;exact⟨rfl,rfl,rfl,rfl,rfl,rfl⟩
 ·rintro⟨h1,h2,h3,h4,h5,h6⟩
  cases h1;cases h2;cases h3;cases h4;cases h5;cases h6;rfl
abbrev Y3(t:af):Prop:=fh t<=cW/\Wj (λp=>nP p<=cW) t
theorem Xd{t a:af}(h:Y3 t)(ha:a∈t.Args):Y3 a:=⟨vax (vbH (mb ha)) h.1,qdX h.2 ha⟩
theorem qde(a b:af)(ha:Y3 a):xk a b=some (decide (a=b)):=by
 refine uY (F:=sV) (λx=>fh x.1) (λx=>Y3 x.1) (λx=>decide (x.1=x.2)) (λR x hx ih=>?_) (a,b) ha (lp ha.1)
 obtain⟨u,v⟩:=x
 have hu:Y3 u:=hx
 obtain⟨p1,p2,_⟩:=(L1 _ u).1 hu.2
 have l1:=lK u
 have l2:=Vl u
 have l3:=Du u
 have l0:=hu.1
 show mQ (λa a2=>R (a,a2)) u v=some (decide (u=v))
 unfold mQ
 rw[qcT (by omega),XB _ _ p1,qcU (by omega) p2,qcV (R:=λa a2=>R (a,a2)) (a:=u.Args) (b:=v.Args) (by omega) (λx hx y _=>ih (x,y) (mb hx) (Xd hu hx))]
 simp only[vaa,qb4,vaz]
 rw[vcj]
 simp[DP (a:=u) (b:=v)]
theorem qdm(a b:af)(ha:Y3 a)(hb:Y3 b):Eb a b=some (decide (a=b)):=by
 refine uY (F:=zn) (λx=>fh x.1) (λx=>Y3 x.1/\Y3 x.2) (λx=>decide (x.1=x.2)) (λR x hx ih=>?_) (a,b) ⟨ha,hb⟩ (lp ha.1)
 obtain⟨u,v⟩:=x
 obtain⟨hu,hv⟩:Y3 u/\Y3 v:=hx
 obtain⟨q1,q2,_⟩:=(L1 _ v).1 hv.2
 have l1:=lK u
 have l2:=Vl u
 have l3:=Du u
 have l0:=hu.1
 show rv (λa a2=>R (a,a2)) u v=some (decide (u=v))
 unfold rv wI
 rw[qdi (by omega),TF _ _ q1,qdj (R:=λa a2=>R (a,a2)) (a:=u.Args) (b:=v.Args) (by omega) (λx hx y hy=>ih (x,y) (mb hx) ⟨Xd hu hx,Xd hv hy⟩)]
 simp only[vaa,qie]
 by_cases hl:u.Preds.length=v.Preds.length
 ·unfold wJ
  rw[Ms hl (by unfold cW at l0;omega) (λzz=>ff u v zz) (.inl ()) (.inr ()) (λi h1 h2=>?_) ?_]
  ·by_cases h5:u.Preds=v.Preds
   ·simp only[h5,decide_true,if_true,vaa]
    by_cases h0:(u.Op !=v.Op||(!(u.Name==v.Name)||(!decide (u.Names=v.Names)||(!decide (u.Pred=v.Pred)||((v.Preds.length:Int)!=(v.Preds.length:Int))))))=true
    ·rw[vad h0]
     congr 1;symm
     rw[vbs,DP]
     rintro⟨e1,e2,e3,e4,_⟩
     simp[e1,e2,e3,e4]at h0
    ·rw[vab h0]
     congr 1
     simp only[va8,vc7,vaX,bne_iff_ne,ne_eq,Decidable.not_not,Bool.not_eq_false,va7,vat]at h0
     obtain⟨e1,e2,e3,e4,_⟩:=h0
     rw[vcj]
     simp[DP (a:=u) (b:=v),e1,e2,e3,e4,h5]
   ·simp only[h5,decide_false,vaq,if_false,vaa,ite_self]
    congr 1;symm
    rw[vbs,DP]
    rintro⟨_,_,_,_,e5,_⟩
    exact h5 e5
  ·show ff u v (u.Preds.length:Int)=_
   unfold ff
   rw[vab (by simp)]
  ·show ff u v (i:Int)=_
   unfold ff
   rw[vad (by simpa using h1),aT _ i h1]
   simp only[vaa]
   rw[aT _ i h2]
   simp only[vaa]
   rw[TF _ _ (q2 _ (vag h2))]
   simp only[vaa]
   by_cases he:u.Preds[i]=v.Preds[i]<;>simp[he]
 ·have hx:((u.Preds.length:Int)!=(v.Preds.length:Int))=true:=by simp;omega
  rw[vad (by simp[hx])]
  congr 1;symm
  rw[vbs,DP]
  rintro⟨_,_,_,_,e5,_⟩
  exact hl (by rw[e5])
theorem wm(e:ag):fP (ah e)=1+(e.Name.length+1+(1+(eu (e.Kids.map ah)+1+(eu (e.Params.map bw)+1+(eu (e.Alts.map bE)+1+(eu (e.Types.map ai)+1+0)))))):=by
 rw[cp];simp only[fP,pm,sl]
theorem Xq(a:cK):fP (bE a)=a.Con.length+1+(eu (a.Names.map cS)+1+fP (ah a.Body)):=by
 obtain⟨c,ns,b⟩:=a
 rw[bE]
 show fP (PVal.str c::sl cS ns::ah b)=_
 simp only[fP,pm,sl];rfl
theorem IU(p:cP):fP (bw p)=p.Name.length+1+fP (ai p.Type_):=by
 show fP (PVal.str p.Name::ai p.Type_)=_
 simp only[fP,pm]
theorem qda(p:cP):1<=fP (bw p):=by rw[IU];omega
theorem Rd{α:Type}(c:α->List PVal){l:List α}{x:α}(h:x∈l):fP (c x)<=eu (l.map c):=Dr (var.2 ⟨x,h,rfl⟩)
theorem qft{e x:ag}(h:x∈e.Kids):fP (ah x)<fP (ah e):=by have:=Rd ah h;rw[wm e];omega
theorem qjy{e:ag}{a:cK}(h:a∈e.Alts):fP (bE a)<fP (ah e):=by have:=Rd bE h;rw[wm e];omega
theorem Zf{e:ag}{a:cK}(h:a∈e.Alts):fP (ah a.Body)<fP (ah e):=by have:=qjy h;have:=Xq a;omega
theorem Zg{e:ag}{p:cP}(h:p∈e.Params):fP (bw p)<fP (ah e):=by have:=Rd bw h;rw[wm e];omega
theorem qbB{e:ag}{t:af}(h:t∈e.Types):fP (ai t)<fP (ah e):=by have:=Rd ai h;rw[wm e];omega
theorem qbA{e x:ag}(h:x∈bA e):fP (ah x)<fP (ah e):=by
 rcases vaR.1 h with h|h
 ·exact qft h
 ·obtain⟨a,ha,rfl⟩:=var.1 h
  exact Zf ha
theorem qhn{e x:ag}(h:x∈cN e):fP (ah x)<=fP (ah e):=by
 revert x
 refine qeI (Q:=λe=>∀{x},x∈cN e->fP (ah x)<=fP (ah e)) (λe ih x h=>?_) e
 rw[um]at h
 rcases vaF.1 h with rfl|h
 ·exact vay _
 ·obtain⟨y,hy,hx⟩:=vc6.1 h
  have:=ih y hy hx
  have:=qbA hy
  omega
mutual
theorem HR:∀(e:ag),nE e<=fP (ah e)
 |⟨o,n,k,ks,ps,as1,ts⟩=>by
  have h1:=qeZ ks
  have h2:=qeX as1
  have h3:=OH bw qda ps
  have h4:=OH ai qfu ts
  rw[nE,wm]
  show _<=1+(n.length+1+(1+(eu (ks.map ah)+1+(eu (ps.map bw)+1+(eu (as1.map bE)+1+(eu (ts.map ai)+1+0))))))
  omega
theorem qll:∀(a:cK),nA a<=fP (bE a)
 |⟨c,ns,b⟩=>by
  have h1:=HR b
  have h2:=qib ns
  rw[nA,Xq]
  show _<=c.length+1+(eu (ns.map cS)+1+fP (ah b))
  omega
theorem qeZ:∀(l:List ag),qbk l<=eu (l.map ah)
 |[]=>by simp[qbk]
 |e::l=>by
  have:=HR e
  have:=qeZ l
  rw[qbk]
  simp only[vae,eu]
  omega
theorem qeX:∀(l:List cK),SZ l<=eu (l.map bE)
 |[]=>by simp[SZ]
 |a::l=>by
  have:=qll a
  have:=qeX l
  rw[SZ]
  simp only[vae,eu]
  omega
end
theorem qap{t:af}(h:fP (ai t)<=cW):Y3 t:=⟨vax (Q7 t) h,qaR cW t h⟩
abbrev UB(e:ag):Prop:=fP (ah e)<=cW
theorem tI{e:ag}(h:UB e):nE e<=cW:=vax (HR e) h
theorem qe6{e x:ag}(h:UB e)(hx:x∈bA e):UB x:=vax (vbH (qbA hx)) h
theorem Y2{e x:ag}(h:UB e)(hx:x∈cN e):UB x:=vax (qhn hx) h
theorem qe7{e:ag}{t:af}(h:UB e)(hx:t∈e.Types):Y3 t:=qap (vax (vbH (qbB hx)) h)
theorem Vp{e:ag}{p:cP}(h:UB e)(hx:p∈e.Params):Y3 p.Type_:=qap (by have:=Zg hx;have:=IU p;have:fP (ah e)<=cW:=h;omega)
theorem Lr{A:Type}(n:Nat)(hn:n<9223372036854775808){body:Int->Option (Int⊕(A⊕Unit))}(P:Nat->Prop)(B:A->Prop)
  (hin:∀i:Nat,i<n->jb (body (i:Int)) (λr=>r.elim (λt=>t=dt ((i:Int)+1)/\P i) (λy=>y.elim B (λ_=>False)))) (hend:body (n:Int)=some (.inr (.inr ()))):jb (loop body 0) (λr=>r.elim B (λ_=>∀i,i<n->P i)):=by
 have key:∀k i,k+i=n->(∀j,j<i->P j)->jb (loop body (i:Int)) (λr=>r.elim B (λ_=>∀i,i<n->P i)):=by
  intro k
  induction k with
  |zero=>
   intro i hi hP
   have:i=n:=by omega
   subst this
   rw[fx hend]
   exact am hP
  | succ k ih =>
   intro i hi hP
   obtain⟨r,e,hr⟩:=hin i (by omega)
   rw[ke,e]
   cases r with
   | inl t =>
    obtain⟨rfl,hp⟩:=hr
    simp only
    rw[cC (by omega) (by omega),show((i:Int)+1)=((i+1:Nat):Int) by omega]
    exact ih (i+1) (by omega) λj hj=>by
     by_cases he:j=i
     ·subst he;exact hp
     ·exact hP j (by omega)
   |inr y=>
    cases y with
    |inl a=>exact⟨_,rfl,hr⟩
    |inr u=>exact hr.elim
 exact key n 0 (by omega) λj hj=>absurd hj (va3 _)
theorem qez{l:List ae}{i:Nat}(h:i<l.length)(hf:JX l l[i]=(i:Int)):∀k (hk:k<l.length),k<i->l[i]≠l[k]:=by
 intro k hk hki he
 unfold JX at hf
 cases hx:l.findIdx? (λx=>x==l[i])with
 |none=>
  rw[vbw]at hx
  have:=hx _ (vag h)
  simp at this
 | some j =>
  obtain⟨hj,_,hj3⟩:=va9.1 hx
  rw[hx]at hf
  have hji:j=i:=by
   have:(j:Int)=(i:Int):=by simpa using hf
   omega
  subst hji
  have:=hj3 k hki
  rw[he]at this
  simp at this
theorem qcK{l:List ae}(h:∀i (hi:i<l.length),∀k (hk:k<l.length),k<i->l[i]≠l[k]):l.Nodup:=by
 unfold List.Nodup
 rw[vcs]
 intro i j hi hj hij he
 exact h j hj i hi hij he.symm
theorem Yy{l:List ae}(h:l.Nodup){i:Nat}(hi:i<l.length):JX l l[i]=(i:Int):=by
 have hx:l.findIdx? (λx=>x==l[i])=some i:=by
  rw[va9]
  refine⟨hi,by simp,λk hk=>?_⟩
  unfold List.Nodup at h
  rw[vcs]at h
  simpa using h k i (by omega) hi hk
 unfold JX
 rw[hx]
theorem E7(l:List ae)(hl:l.length<9223372036854775808):la l=some (decide l.Nodup):=by
 have:jb (la l) (λr=>r=decide l.Nodup):=by
  unfold la wH
  refine aH (Lr l.length hl (λi=>∀(hi:i<l.length),JX l l[i]=(i:Int)) (λ_=>¬l.Nodup) (λi hi=>?_) ?_) (λo ho=>?_)
  ·unfold ms
   rw[vad (vaI (by omega)),aT _ i hi]
   simp only[vaa]
   refine er (GP l _ hl) (aP (λhne=>am (λhd=>?_)) (λhne=>am ⟨rfl,λ_=>by simpa using hne⟩))
   rw[Yy hd hi]at hne
   simp at hne
  ·unfold ms
   rw[vab (by simp)]
  ·cases o with
   |inl _=>
    have ho:¬l.Nodup:=ho
    exact am (decide_eq_false ho).symm
   |inr _=>
    have ho:∀i,i<l.length->∀(hi:i<l.length),JX l l[i]=(i:Int):=ho
    exact am (vaI (qcK (λi hi=>qez hi (ho i hi hi)))).symm
 exact qhP.1 this
def Lb(l:List ae):List (ae×Bool):=l.foldl (λm x=>Qy m x true) []
theorem VB(l:List ae)(x:ae):Lb (l++[x])=Qy (Lb l) x true:=by unfold Lb;rw[vcx];rfl
theorem Zs(x:ae):∀(n:Nat) (l:List ae),l.length=n->(HP (Lb l) x).getD false=decide (x∈l)
 |0,l,h=>by
  have:l=[]:=List.length_eq_zero_iff.1 h
  subst this
  simp[Lb,HP]
 | n + 1,l,h => by
  obtain⟨l',y,rfl⟩:∃l' y,l=l'++[y]:=by
   have hne:l≠[]:=λhc=>by rw[hc]at h;cases h
   exact⟨l.dropLast,l.getLast hne,(vbr hne).symm⟩
  rw[VB,Vk]
  have ih:=Zs x n l' (by simpa using h)
  by_cases hxy:x=y
  ·subst hxy;simp
  ·have:(x==y)=false:=by simpa using hxy
   rw[this]
   simp only[vaq,if_false]
   rw[ih]
   simp[hxy]
theorem Xg(l:List ae)(hl:l.length<9223372036854775808):rV l=some (decide l.Nodup):=by
 unfold rV rW
 have key:∀k i:Nat,k+i=l.length->(l.take i).Nodup->jb (loop (λ(zz:Int×(List (ae×Bool)))=>cm l (l.length:Int) zz.1 zz.2) ((i:Int),Lb (l.take i))) (λo=>o.elim (λ_=>¬l.Nodup) (λ_=>l.Nodup)):=by
  intro k
  induction k with
  | zero =>
   intro i hi hn
   have hi:i=l.length:=by omega
   subst hi
   rw[va1]at hn ⊢
   have hb:(λ(zz:Int×(List (ae×Bool)))=>cm l (l.length:Int) zz.1 zz.2) ((l.length:Int),Lb l)=some (.inr (.inr (Lb l))):=by
    show cm l (l.length:Int) (l.length:Int) (Lb l)=_
    unfold cm
    rw[vab (by simp)]
   rw[fx hb]
   exact am hn
  | succ k ihk =>
   intro i hi hn
   have hil:i<l.length:=by omega
   have hg:=Zs l[i] _ (l.take i) rfl
   have ht:=vav hil
   by_cases hm:l[i]∈l.take i
   ·have hb:(λ(zz:Int×(List (ae×Bool)))=>cm l (l.length:Int) zz.1 zz.2) ((i:Int),Lb (l.take i))=some (.inr (.inl (Lb (l.take i)))):=by
     show cm l (l.length:Int) (i:Int) (Lb (l.take i))=_
     unfold cm
     rw[vad (vaI (by omega)),aT _ i hil]
     simp only[vaa]
     rw[hg,vaI hm,vad rfl]
    rw[fx hb]
    refine am (λhd=>?_)
    have h2:=(List.take_sublist (i+1) l).nodup hd
    rw[ht,vcu]at h2
    exact h2.2.2 _ hm _ (vbR.2 rfl) rfl
   ·have hb:(λ(zz:Int×(List (ae×Bool)))=>cm l (l.length:Int) zz.1 zz.2) ((i:Int),Lb (l.take i))=some (.inl (((i+1:Nat):Int),Lb (l.take (i+1)))):=by
     show cm l (l.length:Int) (i:Int) (Lb (l.take i))=_
     unfold cm
     rw[vad (vaI (by omega)),aT _ i hil]
     simp only[vaa]
     rw[hg,decide_eq_false hm,vab (by simp),cC (by omega) (by omega),ht,VB,show((i:Int)+1)=((i+1:Nat):Int) by omega]
    rw[ol hb]
    refine ihk (i+1) (by omega) ?_
    rw[ht,vcu]
    exact⟨hn,by simp,λa ha b hb he=>hm (by rw[vbR.1 hb]at he;exact he▸ha)⟩
 obtain⟨o,e,ho⟩:=key l.length 0 (by omega) (by simp)
 rw[List.take_zero]at e
 have e':loop (λ(zz:Int×(List (ae×Bool)))=>cm l (l.length:Int) zz.1 zz.2) (0,[])=some o:=e
 rw[e']
 simp only[vaa]
 cases o with
 |inl _=>
  have ho:¬l.Nodup:=ho
  simp[ho]
 |inr _=>
  have ho:l.Nodup:=ho
  simp[ho]
theorem qcF{X:Type}(n:Nat)(hn:n<9223372036854775808){b1 b2:Int->Option (Int⊕X)}(h:∀i:Nat,i<n->b1 (i:Int)=b2 (i:Int)/\∀t,b2 (i:Int)=some (.inl t)->t=dt ((i:Int)+1))(he:b1 (n:Int)=b2 (n:Int))(hx:∀t,b2 (n:Int)≠some (.inl t)):loop b1 0=loop b2 0:=by
 have key:∀k i:Nat,k+i=n->loop b1 (i:Int)=loop b2 (i:Int):=by
  intro k
  induction k with
  | zero =>
   intro i hi
   have hi:i=n:=by omega
   subst hi
   rw[ke b1,ke b2,he]
   cases hb:b2 (i:Int)with
   |none=>rfl
   |some y=>
    cases y with
    |inl t=>exact absurd hb (hx t)
    |inr _=>rfl
  | succ k ihk =>
   intro i hi
   obtain⟨h1,h2⟩:=h i (by omega)
   rw[ke b1,ke b2,h1]
   cases hb:b2 (i:Int)with
   |none=>rfl
   | some y =>
    cases y with
    |inl t=>
     have ht:=h2 t hb
     simp only
     rw[ht,cC (by omega) (by omega),show((i:Int)+1)=((i+1:Nat):Int) by omega]
     exact ihk (i+1) (by omega)
    |inr _=>rfl
 exact key n 0 (by omega)
theorem qa0{a b r:Bool}:(if a=true then some (b||r)else some r)=some ((a&&b)||r):=by cases a<;>rfl
structure qqZ(op:Int)(sh:aA)(ok:Bool)(u:aj):Prop where
 p:pO op=some (sh,ok)
 r:zA op=some u
 n:sh.n=u.n
 name:sh.name=u.name
 least:sh.least=u.least
 most:sh.most=u.most
 params:sh.params=u.params
 alts:sh.alts=u.alts
 types:sh.types=u.types
 ok:ok=u.ok
 t:∀k:Int,0<=k->k<=1073741824->(u.types=false->k=0)->(decide (k<sh.typesLeast)||decide (k>sh.typesMost))= !((!u.exactly||k==1)&&(op !=7||decide (k<=1)))
theorem qdq(op:Int):∃sh ok u,qqZ op sh ok u:=by
 by_cases h:1<=op/\op<=26
 ·have:op=1\/op=2\/op=3\/op=4\/op=5\/op=6\/op=7\/op=8\/op=9\/op=10\/op=11\/op=12\/op=13\/op=14\/op=15\/op=16\/op=17\/op=18\/op=19\/op=20\/op=21\/op=22\/op=23\/op=24\/op=25\/op=26:=by omega
  rcases this with h|h|h|h|h|h|h|h|h|h|h|h|h|h|h|h|h|h|h|h|h|h|h|h|h|h<;>subst h<;>
   exact⟨_,_,_,rfl,rfl,rfl,rfl,rfl,rfl,rfl,rfl,rfl,rfl,λk h0 h1 h2=>by
    rw[vcj]
    simp at h2 ⊢
    omega⟩
 ·have hb:∀k:Int,1<=k->k<=26->(op==k)=false:=λk h1 h2=>by rw[beq_eq_false_iff_ne];omega
  have e1:pO op=some ((⟨false,false,0,0,false,false,0,0,false⟩:aA),false):=by
   unfold pO uE uF uG
   simp[hb]
  have e2:zA op=some (⟨false,false,0,0,false,false,false,false,false⟩:aj):=by
   unfold zA Bp Bq Br
   simp[hb]
  refine⟨_,_,_,e1,e2,rfl,rfl,rfl,rfl,rfl,rfl,rfl,rfl,λk h0 h1 h2=>?_⟩
  have:=h2 rfl
  subst this
  simp
theorem qb5(l:List cK)(hl:l.length<9223372036854775808):eQ l=some (l.any λa=>decide ((a.Names.length:Int)>6)):=by
 unfold eQ ji gS
 rw[SX l hl (λi=>i) (λzz=>dS l (l.length:Int) zz) (λa=>decide ((a.Names.length:Int)>6)) (λi=>.inl (i:Int)) (.inr ()) (λi h=>?_) ?_]
 ·cases hf:l.findIdx? (λa=>decide ((a.Names.length:Int)>6))with
  |none=>
   simp only[Option.elim,vaa]
   rw[vbw]at hf
   congr 1
   have:l.any (λa=>decide ((a.Names.length:Int)>6))=false:=by rw[vbh];exact λx hx=>by simpa using hf x hx
   rw[this];rfl
  |some j=>
   simp only[Option.elim,vaa]
   obtain⟨h1,h2,_⟩:=va9.1 hf
   congr 1
   have:l.any (λa=>decide ((a.Names.length:Int)>6))=true:=by rw[vcF];exact⟨_,vag h1,h2⟩
   rw[this,decide_eq_true_iff];omega
 ·unfold dS
  rw[vab (by simp)]
 ·unfold dS xh
  rw[vad (by simpa using h),aT _ _ h]
  simp only[vaa]
  by_cases hc:((l[i].Names.length:Int)>6)<;>simp[hc]
theorem qci(e:ag)(he:UB e){sh:aA}{ok:Bool}{u:aj}(hS:qqZ e.Op sh ok u)(ht:u.types=false->(e.Types.length:Int)=0):∃b,vC e sh=some b/\zr e u=some b:=by
 have hB:nE e<=1073741824:=tI he
 have l2:=n9 e
 have l4:=uI e
 have hT:=hS.t (e.Types.length:Int) (by omega) (by omega) ht
 have hL:uT e 0=some (if(e.Alts.any λa=>decide ((a.Names.length:Int)>6))=true then .inl ()else .inr ()):=by
  unfold uT
  refine nu e.Alts (by omega) (λzz=>lG e zz) (λa=>decide ((a.Names.length:Int)>6)) (.inl ()) (.inr ()) (λi h=>?_) ?_ 0 (va0 _)
  ·unfold lG
   rw[vad (by simpa using h),aT _ _ h]
   simp only[vaa]
   by_cases hc:((e.Alts[i].Names.length:Int)>6)<;>simp[hc]
  ·unfold lG
   rw[vab (by simp)]
 unfold vC uz uA zr uS Cr Cs
 rw[qb5 _ (by omega),hL,hS.least,hS.most,hS.params,hS.alts]
 simp only[qie,vaa]
 generalize (e.Alts.any λa=>decide ((a.Names.length:Int)>6))=nb at *
 rw[hT]
 generalize u.exactly=ex at *
 generalize ((e.Types.length:Int)==1)=t1 at *
 generalize (e.Op !=7)=o7 at *
 generalize decide ((e.Types.length:Int)<=1)=t2 at *
 generalize decide ((e.Kids.length:Int)<u.least)=k1 at *
 generalize decide ((e.Kids.length:Int)>u.most)=k2 at *
 generalize decide ((e.Params.length:Int)<1)=p1 at *
 generalize decide ((e.Params.length:Int)>6)=p2 at *
 generalize decide ((e.Alts.length:Int)<1)=a1 at *
 generalize decide ((e.Alts.length:Int)>8)=a2 at *
 clear hT hL
 generalize u.params=up
 generalize u.alts=ua
 cases k1<;>cases k2<;>cases up<;>cases ua<;>cases nb<;>cases ex<;>cases t1<;>cases o7<;>cases t2<;>simp<;>(try (cases p1<;>cases p2<;>simp))<;>(try (cases a1<;>cases a2<;>simp))
end Go.Proofs.YtibglelmlnfojaaGreatDoor
