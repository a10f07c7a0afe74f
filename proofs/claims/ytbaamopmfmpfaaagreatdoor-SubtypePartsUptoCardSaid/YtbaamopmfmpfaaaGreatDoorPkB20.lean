/- PROVED: a part of the proof. Conditions: none. -/
import Derived.Test.YtbaamopmfmpfaaaGreatDoorPkB19
noncomputable section
namespace Go.Proofs.YtbaamopmfmpfaaaGreatDoor
open Go
set_option linter.unusedVariables false
set_option linter.unusedSimpArgs false
theorem Ks{σ τ X:Type}(n:Nat)(hn:n<9223372036854775808)(mk:Int->σ->τ)(body:τ->Option (τ⊕X))(F:Nat->σ)(y:X)
  (hin:∀i,i<n->body (mk (i:Int) (F i))=some (.inl (mk (aS ((i:Int)+1)) (F (i+1))))) (hend:body (mk (n:Int) (F n))=some (.inr y)):loop body (mk 0 (F 0))=some y:=by
 have key:∀k i,k+i=n->loop body (mk (i:Int) (F i))=some y:=by
  intro k
  induction k with
  |zero=>
   intro i hi
   have:i=n:=by omega
   subst this
   exact jZ hend
  |succ k ih=>
   intro i hi
   rw[qw (hin i (by omega)),dE (by omega) (by omega),show((i:Int)+1)=((i+1:Nat):Int) by omega]
   exact ih (i+1) (by omega)
 exact key n 0 (by omega)
abbrev Sb:Type:=List (af×aa)
abbrev kN(c:Sb):List af:=c.map (·.1)
abbrev kB(c:Sb):List aa:=c.map (·.2)
def lT(x:af):aa:=⟨3,x,0,[]⟩
def db(x:af)(c:Sb):Sb:=c.filter (fun e=>!(e.1==x))
def xP(x:af)(c:Sb):Bool:=c.any (fun e=>decide (x∈OK e.2))
abbrev S3:Type:=List af×Sb×List af
def Da(o:Int)(ns:List af)(i:Nat)(s:S3):S3:=
 if o=6/\i<ns.length then
  if xP (ns.getD i []) (db (ns.getD i []) s.2.1)=true then
   (s.1++[eQ s.1 (ns.getD i [])],db (ns.getD i []) s.2.1++[(ns.getD i [],lT (eQ s.1 (ns.getD i [])))],s.2.2.set i (eQ s.1 (ns.getD i [])))
  else(s.1,db (ns.getD i []) s.2.1,s.2.2)
 else s
mutual
def AR:ae->Sb->ae
 |⟨o,n,xs,ns,p,ps⟩,c=>
  ⟨o,n,(N9 o ns 0 xs (((kB c).flatMap ec++freeT ⟨o,n,xs,ns,p,ps⟩)++ns,c,ns)).1,(N9 o ns 0 xs (((kB c).flatMap ec++freeT ⟨o,n,xs,ns,p,ps⟩)++ns,c,ns)).2,G6 (pu (kN c) (kB c)) p,ps.map (G6 (pu (kN c) (kB c)))⟩
def N9(o:Int)(ns:List af):Nat->List ae->S3->List ae×List af
 |_,[],s=>([],s.2.2)
 |i,a::xs,s=>(AR a s.2.1::(N9 o ns (i+1) xs (Da o ns i s)).1,(N9 o ns (i+1) xs (Da o ns i s)).2)
end
def jy(o:Int)(ns:List af)(s:S3):Nat->S3
 |0=>s
 |i+1=>Da o ns i (jy o ns s i)
def bP(t:ae)(c:Sb):S3:=(((kB c).flatMap ec++freeT t)++t.Names,c,t.Names)
theorem qcP(o:Int)(ns:List af)(s:S3):∀(xs:List ae) (i:Nat),N9 o ns i xs (jy o ns s i)=((xs.zipIdx i).map (fun y=>AR y.1 (jy o ns s y.2).2.1),(jy o ns s (i+xs.length)).2.2)
 |[],i=>by rw[N9];rfl
 |a::xs,i=>by
  have ih:=qcP o ns s xs (i+1)
  rw[N9,show Da o ns i (jy o ns s i)=jy o ns s (i+1)from rfl,ih,List.zipIdx_cons,vay,vaP,show i+1+xs.length=i+(xs.length+1) by omega]
theorem Vd(t:ae)(c:Sb):AR t c=⟨t.Op,t.Name,(t.Args.zipIdx).map (fun y=>AR y.1 (jy t.Op t.Names (bP t c) y.2).2.1),(jy t.Op t.Names (bP t c) t.Args.length).2.2,G6 (pu (kN c) (kB c)) t.Pred,t.Preds.map (G6 (pu (kN c) (kB c)))⟩:=by
 obtain⟨o,n,xs,ns,p,ps⟩:=t
 have h:=qcP o ns (bP ⟨o,n,xs,ns,p,ps⟩ c) xs 0
 rw[show jy o ns (bP ⟨o,n,xs,ns,p,ps⟩ c) 0=(((kB c).flatMap ec++freeT ⟨o,n,xs,ns,p,ps⟩)++ns,c,ns)from rfl,vaK]at h
 rw[AR,h]
 rfl
def YQ(t:ae)(c:Sb)(i:Nat):List ae:=((t.Args.take i).zipIdx).map (fun y=>AR y.1 (jy t.Op t.Names (bP t c) y.2).2.1)
theorem W8(t:ae)(c:Sb)(i:Nat)(h:i<t.Args.length):YQ t c (i+1)=YQ t c i++[AR t.Args[i] (jy t.Op t.Names (bP t c) i).2.1]:=by
 unfold YQ
 rw[vaM h,List.zipIdx_append,vbH,vaO]
 rw[show min i t.Args.length=i by omega]
 simp[List.zipIdx_cons]
theorem ZT(t:ae)(c:Sb)(i:Nat)(h:i<=t.Args.length):(YQ t c i).length=i:=by
 unfold YQ
 rw[vaF,List.length_zipIdx,vaO]
 omega
theorem ZS(t:ae)(c:Sb):YQ t c t.Args.length=(t.Args.zipIdx).map (fun y=>AR y.1 (jy t.Op t.Names (bP t c) y.2).2.1):=by
 unfold YQ
 rw[vbr (vah _)]
theorem VH(x:af):∀(c:Sb),kN (db x c)=(kN c).filter (fun n=>!(n==x))
 |[]=>rfl
 | e :: c => by
  have ih:=VH x c
  unfold db kN at ih ⊢
  rw[vbd,vay,vbd]
  split
  ·rw[vay,ih]
  ·exact ih
theorem qc3(x:af)(c:Sb):x∉kN (db x c):=by rw[VH];simp
theorem Iy{x:af}{c:Sb}(h:(kN c).Nodup):(kN (db x c)).Nodup:=by rw[VH];exact h.filter _
theorem Y2(x:af)(c:Sb):db x (db x c)=db x c:=by
 unfold db
 rw[vcc]
 congr 1
 funext e
 cases(e.1==x)<;>rfl
theorem OH(x:af):∀(c:Sb),nL (kB (db x c))<=nL (kB c)
 |[]=>by simp[db,kB]
 | e :: c => by
  have ih:=OH x c
  unfold db kB at ih ⊢
  rw[vbd]
  split
  ·rw[vay,vay,nL,nL];omega
  ·rw[vay,nL];omega
theorem QA(c:Sb):c.length<=nL (kB c):=by
 have:=CM (kB c)
 rwa[vaF]at this
theorem Fo(x:af):nP (lT x)=1:=by simp[lT,nP,nL]
theorem qfp(c:Sb)(e:af×aa):nL (kB (c++[e]))=nL (kB c)+nP e.2:=by
 unfold kB
 rw[vbH,A2];simp[nL]
theorem Gj(o:Int)(ns:List af)(s:S3)(h:(kN s.2.1).Nodup):∀i,(kN (jy o ns s i).2.1).Nodup
 |0=>h
 | i + 1 => by
  have ih:=Gj o ns s h i
  show(kN (Da o ns i (jy o ns s i)).2.1).Nodup
  unfold Da
  split
  ·split
   ·unfold kN
    rw[vbH]
    simp only[vay,vbY]
    rw[List.nodup_append]
    refine⟨Iy ih,by simp,fun a ha b hb=>?_⟩
    rw[va4]at hb
    subst hb
    exact fun e=>qc3 _ _ (e▸ha)
   ·exact Iy ih
  ·exact ih
theorem ZU(o:Int)(ns:List af)(s:S3):∀i,nL (kB (jy o ns s i).2.1)<=nL (kB s.2.1)+min i ns.length
 |0=>by simp[jy]
 | i + 1 => by
  have ih:=ZU o ns s i
  show nL (kB (Da o ns i (jy o ns s i)).2.1)<=_
  have hd:=OH (ns.getD i []) (jy o ns s i).2.1
  unfold Da
  split
  ·rename_i hc
   split
   ·show nL (kB (db (ns.getD i []) (jy o ns s i).2.1++[(ns.getD i [],lT (eQ (jy o ns s i).1 (ns.getD i [])))]))<=_
    rw[qfp,Fo]
    omega
   ·show nL (kB (db (ns.getD i []) (jy o ns s i).2.1))<=_
    omega
  ·omega
theorem ZV(o:Int)(ns:List af)(s:S3):∀i,(jy o ns s i).1.length<=s.1.length+i
 |0=>by simp[jy]
 | i + 1 => by
  have ih:=ZV o ns s i
  show(Da o ns i (jy o ns s i)).1.length<=_
  unfold Da
  split
  ·split
   ·simp only[vag,List.length_singleton];omega
   ·simp only;omega
  ·omega
theorem W9(o:Int)(ns:List af)(s:S3):∀i,(jy o ns s i).2.2.length=s.2.2.length
 |0=>rfl
 | i + 1 => by
  have ih:=W9 o ns s i
  show(Da o ns i (jy o ns s i)).2.2.length=_
  unfold Da
  split
  ·split
   ·simp only[vbq];exact ih
   ·exact ih
  ·exact ih
theorem Gq:∀(l:List aa),(l.flatMap ec).length<=nL l
 |[]=>by simp[nL]
 |p::l=>by
  have:=Gq l
  have:=lG p
  rw[vcp,vag,nL];omega
theorem Wf(t:ae)(c:Sb):(bP t c).1.length<=nL (kB c)+wT t+ch t:=by
 have h1:=Gq (kB c)
 have h2:=qt t
 have h3:=iP t
 unfold bP
 simp only[vag]
 omega
theorem YW(x:af)(c:Sb):decide (x∈(kB c).flatMap ec)=xP x c:=by
 unfold xP
 rw[vbQ,van,vbx,vcu]
 simp only[AX,van,kB,vaq]
 constructor
 ·rintro⟨p,⟨e,he,rfl⟩,h⟩;exact⟨e,he,h⟩
 ·rintro⟨e,he,h⟩;exact⟨e.2,⟨e,he,rfl⟩,h⟩
theorem L4{α:Type}(n:Nat)(l:List α)(i:Nat)(h:i<n)(h2:i<l.length):Yu n l (i:Int)=some l[i]:=by
 unfold Yu
 rw[vad ⟨by omega,by omega⟩]
 simp[h2]
theorem Wj{α:Type}(l:List α)(i:Nat)(x:α)(h:i<l.length):qfP l (i:Int) x=some (l.set i x):=by
 unfold qfP
 rw[vad ⟨by omega,by omega⟩]
 rfl
theorem L3{α:Type}(n:Nat)(l:List α)(h:n=l.length):qdc n l=some l:=vad h
theorem CB(ns:List af)(i:Nat)(h:i<ns.length):ns.getD i []=ns[i]:=by simp[h]
theorem Tx:∀(k u:Nat),u<10 ^ (k+1)->(Lib.decDigits u).length<=k+1
 |0,u,h=>by
  rw[Lib.decDigits,dif_pos (by omega)];simp
 | k + 1,u,h => by
  rw[Lib.decDigits]
  by_cases h10:u<10
  ·rw[dif_pos h10];simp
  ·rw[dif_neg h10]
   have:=Tx k (u / 10) (by
    have:10 ^ (k+1+1)=10 ^ (k+1) * 10:=Nat.pow_succ ..
    omega)
   simp only[vag,List.length_singleton]
   omega
theorem Qn(used:List af)(base:af):∀(k n:Nat),n+k<=100000002->(mT used base k n).length<=base.length+10
 |0,n,_=>by rw[mT];simp
 | k + 1,n,h => by
  rw[mT]
  split
  ·exact Qn used base k (n+1) (by omega)
  ·rw[vag]
   have:=Tx 8 n (by omega)
   omega
theorem Y7(used:List af)(base:af):(eQ used base).length<=base.length+10:=by
 unfold eQ
 split
 ·exact Qn used base 100000001 1 (by omega)
 ·omega
mutual
def yu(L:Nat):ae->Prop
 |⟨_,_,xs,ns,_,_⟩=>(∀s∈ns,s.length<=L)/\vM L xs
def vM(L:Nat):List ae->Prop
 |[]=>True
 |a::xs=>yu L a/\vM L xs
end
theorem AK(L:Nat)(t:ae):yu L t↔(∀s∈t.Names,s.length<=L)/\vM L t.Args:=by obtain⟨o,n,xs,ns,p,ps⟩:=t;rw[yu];rfl
theorem Gf(L:Nat):∀(l:List ae),vM L l↔∀t∈l,yu L t
 |[]=>by simp[vM]
 |a::l=>by rw[vM,Gf L l];simp
theorem qcB{L:Nat}{t a:ae}(h:yu L t)(ha:a∈t.Args):yu L a:=(Gf L _).1 ((AK L t).1 h).2 a ha
mutual
theorem Gg{L M:Nat}(h:L<=M):∀(t:ae),yu L t->yu M t
 |⟨_,_,xs,ns,_,_⟩,ht=>by
  rw[yu]at ht ⊢
  exact⟨fun s hs=>vaI (ht.1 s hs) h,PW h xs ht.2⟩
theorem PW{L M:Nat}(h:L<=M):∀(l:List ae),vM L l->vM M l
 |[],_=>trivial
 |a::xs,hl=>by
  rw[vM]at hl ⊢
  exact⟨Gg h a hl.1,PW h xs hl.2⟩
end
theorem qfK{ns:List af}{s:af}(h:s∈ns):s.length<=ce (ns.map cS):=by
 have h2:=yf (vaq.2 ⟨s,h,rfl⟩:cS s∈ns.map cS)
 simp only[cS,gi,pm]at h2
 omega
mutual
theorem JU(B:Nat):∀(t:ae),gi (ag t)<=B->yu B t
 |⟨o,n,xs,ns,p,ps⟩,h=>by
  rw[Ba]at h
  have h:1+(pm (.str n)+(pm (sl ag xs)+(pm (sl cS ns)+(1+(pm (.str p.Name)+(1+(pm (sl ac p.Kids)+(pm (sl ac ps)+0))))))))<=B:=h
  simp only[pm,sl]at h
  rw[yu]
  exact⟨fun s hs=>by have:=qfK hs;omega,W0 B xs (by omega)⟩
theorem W0(B:Nat):∀(l:List ae),ce (l.map ag)<=B->vM B l
 |[],_=>trivial
 |a::xs,h=>by
  simp only[vay,ce]at h
  rw[vM]
  exact⟨JU B a (by omega),W0 B xs (by omega)⟩
end
theorem yt:∀(c:Sb),(kN c).zip (kB c)=c
 |[]=>rfl
 |e::c=>by
  have ih:=yt c
  unfold kN kB at ih ⊢
  rw[vay,vay,List.zip_cons_cons,ih]
def K5(hid:List af)(c:Sb):Sb:=c.foldl (fun o e=>if e.1∈hid\/e.1∈kN o then o else o++[e]) []
theorem qew(hid:List af)(c:Sb)(i:Nat)(h:i<c.length):K5 hid (c.take (i+1))=if c[i].1∈hid\/c[i].1∈kN (K5 hid (c.take i))then K5 hid (c.take i)else K5 hid (c.take i)++[c[i]]:=by
 unfold K5
 rw[vaM h,vcm]
 rfl
theorem qfV(hid:List af):∀(c:Sb),(K5 hid c).length<=c.length:=by
 have key:∀(c o:Sb),(c.foldl (fun o e=>if e.1∈hid\/e.1∈kN o then o else o++[e]) o).length<=o.length+c.length:=by
  intro c
  induction c with
  |nil=>intro o;simp
  | cons e c ih =>
   intro o
   rw[List.foldl_cons,vaP]
   refine vaI (ih _) ?_
   split
   ·omega
   ·rw[vag,List.length_singleton];omega
 intro c
 have:=key c []
 simpa[K5]using this
theorem qfW{x:af}{c:Sb}(h:(kN c).Nodup):K5 [x] c=db x c:=by
 have key:∀(c o:Sb),(kN c).Nodup->(∀e∈c,e.1∉kN o)->c.foldl (fun o e=>if e.1∈[x]\/e.1∈kN o then o else o++[e]) o=o++db x c:=by
  intro c
  induction c with
  |nil=>intro o _ _;simp[db]
  | cons e c ih =>
   intro o hn ho
   unfold kN at hn
   rw[vay,vbN]at hn
   have h1:=ho e (by simp)
   rw[List.foldl_cons]
   by_cases hx:e.1=x
   ·rw[vad (.inl (by simp[hx])),ih o hn.2 (fun e' he'=>ho e' (by simp[he']))]
    unfold db
    rw[vbd,vae (by simp[hx])]
   ·rw[vae (by simp only[va4];rintro(h|h);exact hx h;exact h1 h)]
    rw[ih (o++[e]) hn.2 (fun e' he' hm=>by
     unfold kN at hm
     rw[vbH,vaE]at hm
     rcases hm with hm|hm
     ·exact ho e' (by simp[he']) hm
     ·simp only[vay,vbY,va4]at hm
      exact hn.1 (vaq.2 ⟨e',he',hm⟩))]
    unfold db
    rw[vbd,vad (by simpa using hx),vba]
    rfl
 have:=key c [] h (fun e _=>by simp)
 simpa[K5]using this
theorem M0(hid:List af)(c:Sb)(hh:hid.length<9223372036854775808)(hc:c.length<=1000000000):cn ⟨kN c,kB c⟩ hid=some ⟨kN (K5 hid c),kB (K5 hid c)⟩:=by
 unfold cn fw
 have hl:(kN c).length=c.length:=vaF ..
 have:=Ks c.length (by omega) (fun i (s:List af×List aa)=>(i,s.1,s.2)) (fun(zz:Int×(List af)×(List aa))=>bS hid ⟨kN c,kB c⟩ (kN c) ((kN c).length:Int) zz.1 zz.2.1 zz.2.2)
  (fun i=>(kN (K5 hid (c.take i)),kB (K5 hid (c.take i)))) (kN (K5 hid c),kB (K5 hid c)) (fun i hi=>?_) ?_
 ·rw[show(K5 hid (c.take 0))=[]from rfl]at this
  rw[show(((0:Int),([]:List af),([]:List aa)):Int×(List af)×(List aa))=(0,kN [],kB [])from rfl,this]
  rfl
 ·show bS hid ⟨kN c,kB c⟩ (kN c) ((kN c).length:Int) (i:Int) (kN (K5 hid (c.take i))) (kB (K5 hid (c.take i)))=_
  unfold bS fu
  have hw:=qfV hid (c.take i)
  rw[vaO]at hw
  have hkl:(kN (K5 hid (c.take i))).length=(K5 hid (c.take i)).length:=vaF ..
  have hkb:(kB (K5 hid (c.take i))).length=(K5 hid (c.take i)).length:=vaF ..
  rw[vad (by simp;omega),bp (kN c) i (by omega)]
  simp only[vaa]
  rw[y4 hid _ hh,y4 (kN (K5 hid (c.take i))) _ (by omega)]
  simp only[vaa]
  have hg:(kN c)[i]'(by omega)=c[i].1:=by simp[kN]
  have hb:(kB c)[i]'(by simp[kB];omega)=c[i].2:=by simp[kB]
  rw[hg,qew hid c i hi]
  by_cases h1:c[i].1∈hid
  ·simp only[h1,decide_true,vbP,va5,if_false,vaa,true_or,if_true]
  ·by_cases h2:c[i].1∈kN (K5 hid (c.take i))
   ·simp only[h1,h2,decide_false,decide_true,vbV,vbP,va5,if_false,vaa,or_true,if_true]
   ·simp only[h1,h2,decide_false,vbV,if_true,vaa,or_self,if_false]
    rw[cQ (by simp;omega)]
    simp only[vaa]
    rw[bp (kB c) i (by simp[kB];omega)]
    simp only[vaa,hb]
    rw[cQ (by simp;omega)]
    simp[kN,kB]
 ·show bS hid ⟨kN c,kB c⟩ (kN c) ((kN c).length:Int) (c.length:Int) (kN (K5 hid (c.take c.length))) (kB (K5 hid (c.take c.length)))=_
  unfold bS
  rw[vae (by simp),vbr (vah _)]
theorem qd8(x:af)(c:Sb)(hn:(kN c).Nodup)(hc:c.length<=1000000000):cn ⟨kN c,kB c⟩ [x]=some ⟨kN (db x c),kB (db x c)⟩:=by
 rw[M0 [x] c (by simp) hc,qfW hn]
theorem qd7(x:af)(q:aa)(c:Sb)(hn:(kN c).Nodup)(hc:c.length<=1000000000):fA ⟨kN (db x c),kB (db x c)⟩ x q=some ⟨kN (db x c++[(x,q)]),kB (db x c++[(x,q)])⟩:=by
 unfold fA
 have hd:(db x c).length<=c.length:=vaW ..
 rw[qd8 x _ (Iy hn) (by omega),Y2]
 simp only[vaa]
 have h1:(kN (db x c)).length=(db x c).length:=vaF ..
 have h2:(kB (db x c)).length=(db x c).length:=vaF ..
 rw[cQ (by simp;omega)]
 simp only[vaa]
 rw[cQ (by simp;omega)]
 simp[kN,kB]
theorem TZ(ns:List af)(bs:List aa)(h:nL bs<=400000000):ek ⟨ns,bs⟩=some (bs.flatMap ec):=by
 unfold ek gG
 have hl:=CM bs
 show(loop (fun(zz:(List af)×Int)=>fO bs (bs.length:Int) zz.1 zz.2) ([],0)).bind _=_
 rw[io bs (by omega) (fun i s=>(s,i)) _ (fun i s x=>(tp x).bind fun r3=>(app s r3).bind fun l4=>some (.inl (l4,aS (i+1)))) (fun i s=>s.length<=nL (bs.take i)) (fun x s=>s++ec x) id [] (by simp[nL]) (fun i s=>rfl) (fun i hi s hs=>?_),Qr]
 ·rfl
 ·have h1:=ze bs i hi
  have h2:=qd bs (i+1)
  have h3:=lG bs[i]
  refine⟨?_,by rw[vag];omega⟩
  rw[XS _ (by omega)]
  simp only[vaa]
  rw[cQ (by omega)]
  rfl
structure qbC(t:ae)(c:Sb):Prop where
 nd:(kN c).Nodup
 sz:nL (kB c)+ch t<=20000000
 w:wT t<=20000000
 n:yu 1000000000000000 t
theorem qhc{c:Sb}{q:aa}(h:q∈kB c):nP q<=nL (kB c):=CN h
theorem qgj{t:ae}:nP t.Pred<=wT t:=by rw[pF];omega
theorem Rh{t:ae}{q:aa}(h:q∈t.Preds):nP q<=wT t:=by rw[pF];have:=CN h;omega
theorem VS{t:ae}{c:Sb}(h:qbC t c)(i:Nat)(hi:i<t.Args.length):qbC t.Args[i] (jy t.Op t.Names (bP t c) i).2.1 where
 nd:=Gj _ _ _ h.nd i
 sz:=by
  have h1:=ZU t.Op t.Names (bP t c) i
  have h2:=tV t
  have h3:=L5 (vak hi)
  have h4:=h.sz
  show nL (kB (jy t.Op t.Names (bP t c) i).2.1)+ch t.Args[i]<=20000000
  have h5:nL (kB (bP t c).2.1)=nL (kB c):=rfl
  omega
 w:=vaI (qcH (vak hi)) h.w
 n:=qcB h.n (vak hi)
theorem Mn(c:Sb)(p:aa)(hp:nP p<=bm)(hc:nL (kB c)<=bm):di ⟨kN c,kB c⟩ p=some (G6 (pu (kN c) (kB c)) p):=by
 unfold di
 have:=QA c
 have h1:(kN c).length=c.length:=vaF ..
 rw[V5 p (kN c) (kB c) hp (by unfold bm at hc;omega) (fun q hq=>vaI (qhc hq) hc)]
 rfl
theorem Rd(c:Sb)(l:List aa)(hl:l.length<=1073741824)(hp:∀p∈l,nP p<=bm)(hc:nL (kB c)<=bm):mZ l ⟨kN c,kB c⟩=some (l.map (G6 (pu (kN c) (kB c)))):=by
 unfold mZ rY
 rw[qv l hl (fun i s=>(s,i)) _ (fun y=>di ⟨kN c,kB c⟩ y) (G6 (pu (kN c) (kB c))) id (fun i s=>rfl) (fun y hy=>Mn c y (hp y hy) hc)]
 rfl
theorem qcQ{o:Int}(ho:o≠6)(ns:List af)(s:S3):∀i,jy o ns s i=s
 |0=>rfl
 |i+1=>by
  show Da o ns i (jy o ns s i)=s
  rw[qcQ ho ns s i]
  unfold Da
  rw[vae (fun h=>ho h.1)]
theorem HH{α β:Type}(f:α->β):∀(l:List α) (i:Nat),(l.zipIdx i).map (fun y=>f y.1)=l.map f
 |[],i=>rfl
 |x::l,i=>by rw[List.zipIdx_cons,vay,vay,HH f l (i+1)]
theorem qfB(t:ae)(c:Sb)(h:qbC t c):jt ⟨kN c,kB c⟩ t=some (AR t c):=by
 have hbig:ch t<qeD:=eg (by have:=h.sz;unfold bm;omega)
 refine(eP (F:=iu) (fun x=>ch x.2) (fun x=>∃c,x.1=⟨kN c,kB c⟩/\qbC x.2 c) (fun x=>AR x.2 (x.1.names.zip x.1.by_)) (fun R x hx ih=>?_) (⟨kN c,kB c⟩,t) ⟨c,rfl,h⟩ hbig).trans (by
  show some (AR t ((kN c).zip (kB c)))=_
  rw[yt])
 obtain⟨s,t⟩:=x
 obtain⟨c,hs,h⟩:=hx
 have hs:s=⟨kN c,kB c⟩:=hs
 have h:qbC t c:=h
 subst hs
 show fc (fun s t=>R (s,t)) ⟨kN c,kB c⟩ t=some (AR t ((kN c).zip (kB c)))
 rw[yt]
 have hR:∀(i:Nat) (hi:i<t.Args.length),R (⟨kN (jy t.Op t.Names (bP t c) i).2.1,kB (jy t.Op t.Names (bP t c) i).2.1⟩,t.Args[i])=some (AR t.Args[i] (jy t.Op t.Names (bP t c) i).2.1):=fun i hi=>by
  have:=ih (⟨kN (jy t.Op t.Names (bP t c) i).2.1,kB (jy t.Op t.Names (bP t c) i).2.1⟩,t.Args[i]) (gB (vak hi)) ⟨_,rfl,VS h i hi⟩
  rw[this]
  show some (AR t.Args[i] ((kN (jy t.Op t.Names (bP t c) i).2.1).zip (kB (jy t.Op t.Names (bP t c) i).2.1)))=_
  rw[yt]
 have l1:=fD t
 have l2:=iP t
 have l3:=Be t
 have hsz:nL (kB c)+ch t<=20000000:=h.sz
 have hw:wT t<=20000000:=h.w
 have hnd:=h.nd
 have hp:=qgj (t:=t)
 have hcl:=QA c
 unfold fc
 by_cases ho:t.Op=6
 ·rw [vad (by simpa using ho)]
  unfold gj
  rw[AT _ (by omega),Mn c _ (by unfold bm;omega) (by unfold bm;omega),Rd c _ (by omega) (fun q hq=>by have:=Rh hq;unfold bm;omega) (by unfold bm;omega),TZ _ _ (by omega),qbX t (by omega) (by omega)]
  simp only[vaa]
  have f1:=Gq (kB c)
  have f2:=qt t
  rw[cQ (by omega)]
  simp only[vaa]
  rw[cQ (by rw[vag];omega)]
  simp only[vaa]
  unfold fb
  have hloop:=Ks t.Args.length (by omega) (fun i (s:List af×List af×List ae×List af×List aa)=>(s.1,i,s.2.1,s.2.2.1,s.2.2.2.1,s.2.2.2.2)) (fun(zz:(List af)×Int×List af×(List ae)×(List af)×(List aa))=>bI (fun s t=>R (s,t)) t t.Args (t.Args.length:Int) t.Names.length zz.1 zz.2.1 zz.2.2.1 zz.2.2.2.1 zz.2.2.2.2.1 zz.2.2.2.2.2)
   (fun i=>((jy t.Op t.Names (bP t c) i).1,(jy t.Op t.Names (bP t c) i).2.2,YQ t c i,kN (jy t.Op t.Names (bP t c) i).2.1,kB (jy t.Op t.Names (bP t c) i).2.1))
   ((jy t.Op t.Names (bP t c) t.Args.length).2.2,YQ t c t.Args.length,kN (jy t.Op t.Names (bP t c) t.Args.length).2.1,kB (jy t.Op t.Names (bP t c) t.Args.length).2.1) (fun i hi=>?_) ?_
  ·have hloop':loop (fun(zz:(List af)×Int×List af×(List ae)×(List af)×(List aa))=>bI (fun s t=>R (s,t)) t t.Args (t.Args.length:Int) t.Names.length zz.1 zz.2.1 zz.2.2.1 zz.2.2.2.1 zz.2.2.2.2.1 zz.2.2.2.2.2) (((kB c).flatMap ec++freeT t)++t.Names,0,t.Names,[],kN c,kB c)=_:=hloop
   rw[hloop']
   simp only[vaa]
   rw[L3 _ _ (by rw[W9];rfl)]
   simp only[vaa]
   rw[Vd,ZS]
  ·show bI (fun s t=>R (s,t)) t t.Args (t.Args.length:Int) t.Names.length (jy t.Op t.Names (bP t c) i).1 (i:Int) (jy t.Op t.Names (bP t c) i).2.2 (YQ t c i) (kN (jy t.Op t.Names (bP t c) i).2.1) (kB (jy t.Op t.Names (bP t c) i).2.1)=_
   unfold bI
   rw[vad (by simp;omega),bp _ i hi]
   simp only[vaa]
   rw[hR i hi]
   simp only[vaa]
   have hal:=ZT t c i (by omega)
   rw[cQ (by simp;omega)]
   simp only[vaa]
   rw[W8 t c i hi]
   have hq:jy t.Op t.Names (bP t c) (i+1)=Da t.Op t.Names i (jy t.Op t.Names (bP t c) i):=rfl
   have hQn:=ZU t.Op t.Names (bP t c) i
   have hQu:=ZV t.Op t.Names (bP t c) i
   have hQw:=W9 t.Op t.Names (bP t c) i
   have hQd:=Gj t.Op t.Names (bP t c) hnd i
   have hu0:=Wf t c
   have hn0:nL (kB (bP t c).2.1)=nL (kB c):=rfl
   have hw0:(bP t c).2.2=t.Names:=rfl
   rw[hw0]at hQw
   generalize jy t.Op t.Names (bP t c) i=S at hq hQn hQu hQw hQd ⊢
   obtain⟨u,cc,w⟩:=S
   simp only at hQn hQu hQw hQd ⊢
   have hccl:=QA cc
   by_cases hi2:i<t.Names.length
   ·rw[vae (by simp;omega),bp _ i hi2]
    simp only[vaa]
    rw[qd8 _ cc hQd (by omega)]
    simp only[vaa]
    have hd:=OH t.Names[i] cc
    rw[TZ _ _ (by omega)]
    simp only[vaa]
    have f3:=Gq (kB (db t.Names[i] cc))
    rw[y4 _ _ (by omega),YW]
    simp only[vaa]
    have hnl:t.Names[i].length<=1000000000000000:=((AK _ t).1 h.n).1 _ (vak hi2)
    unfold Da at hq
    rw[vad ⟨ho,hi2⟩,CB _ i hi2]at hq
    by_cases hcm:xP t.Names[i] (db t.Names[i] cc)=true
    ·rw[vad hcm]at hq ⊢
     rw[(Aw u t.Names[i] (by omega) (by omega)).1]
     simp only[vaa]
     rw[L4 _ w i (by omega) (by omega)]
     simp only[vaa]
     rw[Wj w i _ (by omega)]
     simp only[vaa]
     rw[L4 _ (w.set i (eQ u t.Names[i])) i (by omega) (by rw[vbq];omega),vbZ]
     simp only[vaa]
     rw[cQ (by simp;omega)]
     simp only[vaa]
     have hpw:=qd7 t.Names[i] (⟨3,eQ u t.Names[i],0,[]⟩:aa) cc hQd (by omega)
     rw[hpw]
     simp only[vaa]
     rw[hq]
     rfl
    ·rw[vae hcm]at hq ⊢
     rw[hq]
   ·rw[vad (by simp;omega),hq]
    unfold Da
    rw[vae (fun h=>hi2 h.2)]
  ·show bI (fun s t=>R (s,t)) t t.Args (t.Args.length:Int) t.Names.length (jy t.Op t.Names (bP t c) t.Args.length).1 (t.Args.length:Int) (jy t.Op t.Names (bP t c) t.Args.length).2.2 (YQ t c t.Args.length) (kN (jy t.Op t.Names (bP t c) t.Args.length).2.1) (kB (jy t.Op t.Names (bP t c) t.Args.length).2.1)=_
   unfold bI
   rw[vae (by simp)]
 ·rw[vae (by simpa using ho),AT _ (by omega),Mn c _ (by unfold bm;omega) (by unfold bm;omega),Rd c _ (by omega) (fun q hq=>by have:=Rh hq;unfold bm;omega) (by unfold bm;omega)]
  simp only[vaa]
  have hQ:=qcQ ho t.Names (bP t c)
  unfold tx og
  rw[qv t.Args (by omega) (fun i s=>(s,i)) _ (fun y=>R (⟨kN c,kB c⟩,y)) (fun y=>AR y c) id (fun i s=>rfl) (fun y hy=>by
   obtain⟨i,hi,rfl⟩:=vcK hy
   have:=hR i hi
   rw[hQ i]at this
   exact this)]
  simp only[vaa,id]
  rw[Vd]
  simp only[hQ]
  congr 2
  exact(HH (fun y=>AR y c) t.Args 0).symm
def sn(x:af)(q:aa):Sb:=if x=[118]then[]else[(x,q)]
theorem ZF(x:af)(q:aa):(kN (sn x q)).Nodup:=by unfold sn;split<;>simp[kN]
theorem qhm(x:af)(q:aa):nL (kB (sn x q))<=nP q:=by
 unfold sn
 split
 ·simp[kB,nL]
 ·simp[kB,nL]
theorem qbN(t:ae)(x:af)(q:aa)(h:qbC t (sn x q)):ua t x q=some (AR t (sn x q)):=by
 unfold ua tw
 rw[show Ot ([x]:List af) none (some (if(([q]:List aa).length:Int)<(([x]:List af).length:Int)then(([q]:List aa).length:Int)else(([x]:List af).length:Int)))=some [x]from rfl,show Ot ([q]:List aa) none (some (if(([q]:List aa).length:Int)<(([x]:List af).length:Int)then(([q]:List aa).length:Int)else(([x]:List af).length:Int)))=some [q]from rfl]
 simp only[vaa]
 have hw:=M0 [([118]:af)] [(x,q)] (by simp) (by simp)
 have he:K5 [([118]:af)] [(x,q)]=sn x q:=by
  unfold K5 sn
  simp only[List.foldl_cons,List.foldl_nil,va4,kN,vbY,vaH,or_false,vaC]
 rw[he]at hw
 have hw':cn ⟨[x],[q]⟩ [([118]:af)]=some ⟨kN (sn x q),kB (sn x q)⟩:=hw
 rw[hw']
 simp only[vaa]
 rw[qfB t _ h]
 rfl
theorem ZA(x:af)(c:Sb)(i:Nat)(h:i<c.length):db x (c.take (i+1))=if c[i].1=x then db x (c.take i)else db x (c.take i)++[c[i]]:=by
 unfold db
 rw[vaM h,List.filter_append,vbd]
 by_cases hx:c[i].1=x
 ·rw[vad hx,vae (by simp[hx]),List.filter_nil,va1]
 ·rw[vae hx,vad (by simpa using hx),List.filter_nil]
theorem qb7(x:af)(c:Sb)(hc:c.length<=1000000000):JB ⟨kN c,kB c⟩ x=some ⟨kN (db x c),kB (db x c)⟩:=by
 unfold JB EJ
 have hl:(kN c).length=c.length:=vaF ..
 have hlb:(kB c).length=c.length:=vaF ..
 have:=Ks c.length (by omega) (fun i (s:List af×List aa)=>(i,s.1,s.2)) (fun(zz:Int×(List af)×(List aa))=>jk x ⟨kN c,kB c⟩ (kN c) ((kN c).length:Int) zz.1 zz.2.1 zz.2.2)
  (fun i=>(kN (db x (c.take i)),kB (db x (c.take i)))) (kN (db x c),kB (db x c)) (fun i hi=>?_) ?_
 ·rw[show(db x (c.take 0))=[]from rfl]at this
  rw[show(((0:Int),([]:List af),([]:List aa)):Int×(List af)×(List aa))=(0,kN [],kB [])from rfl,this]
  rfl
 ·show jk x ⟨kN c,kB c⟩ (kN c) ((kN c).length:Int) (i:Int) (kN (db x (c.take i))) (kB (db x (c.take i)))=_
  unfold jk EI
  have hw:(db x (c.take i)).length<=(c.take i).length:=vaW ..
  rw[vaO]at hw
  have hkl:(kN (db x (c.take i))).length=(db x (c.take i)).length:=vaF ..
  have hkb:(kB (db x (c.take i))).length=(db x (c.take i)).length:=vaF ..
  rw[vad (by simp;omega),bp (kN c) i (by omega)]
  simp only[vaa]
  rw[vad (vbk (show(i:Int)<((kB c).length:Int) by omega))]
  simp only[vaa]
  have hg:(kN c)[i]'(by omega)=c[i].1:=by simp[kN]
  have hb:(kB c)[i]'(by omega)=c[i].2:=by simp[kB]
  rw[hg,ZA x c i hi]
  by_cases h1:c[i].1=x
  ·have h1':(c[i].1==x)=true:=by simpa using h1
   rw[vad h1,vae (by rw[h1'];decide)]
  ·have h1':(c[i].1==x)=false:=by simpa using h1
   simp only[h1',h1,vbV,if_true,if_false]
   rw[cQ (by simp;omega)]
   simp only[vaa]
   rw[bp (kB c) i (by omega)]
   simp only[vaa,hb]
   rw[cQ (by simp;omega)]
   simp[kN,kB]
 ·show jk x ⟨kN c,kB c⟩ (kN c) ((kN c).length:Int) (c.length:Int) (kN (db x (c.take c.length))) (kB (db x (c.take c.length)))=_
  unfold jk
  rw[vae (by simp),vbr (vah _)]
theorem qb6(x:af)(c:Sb)(h:nL (kB c)<=200000000):F7 ⟨kN c,kB c⟩ x=some (xP x c):=by
 unfold F7 B6
 have hl:=CM (kB c)
 rw[qbx (kB c) (by omega) (fun zz=>xy x (kB c) ((kB c).length:Int) zz) (fun i y=>(ui y).bind fun r3=>(gM r3 x).bind fun r4=>if(decide (r4>=0))=true then some (.inr (.inl ()))else some (.inl (aS (i+1)))) (fun y=>decide (x∈OK y)) (.inl ()) (.inr ()) (fun i=>rfl) (fun y hy i=>by
  have h1:=CN hy
  have h2:=lG y
  rw[Rr y (by omega)]
  simp only[vaa]
  obtain⟨r,e1,_,e2⟩:=Yc (l:=ec y) (v:=x) (by omega)
  rw[e1]
  simp only[vaa,e2,AX]
  by_cases hx:x∈OK y<;>simp[hx])]
 simp only[vaa]
 have he:(kB c).any (fun y=>decide (x∈OK y))=xP x c:=by
  unfold xP kB
  rw[List.any_map]
  rfl
 rw[he]
 cases xP x c<;>rfl
theorem qb9(l:List aa)(h:nL l<=200000000):∃k,F8 l=some k/\k.length<=nL l/\∀x,x∈k↔x∈l.flatMap ec:=by
 unfold F8 B8
 have hl:=CM l
 rw[io l (by omega) (fun i s=>(s,i)) _ (fun i s y=>(ui y).bind fun r3=>(gn s r3).bind fun r4=>some (.inl (r4,aS (i+1)))) (fun i s=>s.length<=nL (l.take i)) (fun y s=>kv s (ec y)) id [] (by simp[nL]) (fun i s=>rfl) (fun i hi s hs=>?_)]
 ·obtain⟨f1,f2⟩:=y8 ec l [] VD
  refine⟨_,rfl,?_,fun x=>?_⟩
  ·have key:∀(l:List aa) (a:List af),(l.foldl (fun s y=>kv s (ec y)) a).length<=a.length+nL l:=by
    intro l
    induction l with
    |nil=>intro a;simp
    |cons y l ih=>
     intro a
     have g2:=lG y
     have g3:=ih (kv a (ec y))
     have g4:=ng a (ec y)
     rw[List.foldl_cons,nL]
     omega
   have:=key l []
   simpa using this
  ·show x∈l.foldl (fun s y=>kv s (ec y)) []↔_
   rw[f2,vcu]
   simp
 ·have h1:=ze l i hi
  have h2:=qd l (i+1)
  have h3:=lG l[i]
  have h4:=ng s (ec l[i])
  refine⟨?_,by omega⟩
  rw[Rr _ (by omega)]
  simp only[vaa]
  rw[ki _ _ (by omega) (by omega)]
  rfl
theorem qcm(u w:List af)(i:Nat)(hi:i<w.length)(hu:u.length<=400000000):yF u (i:Int) 1 w=some (kv u [w[i]]):=by
 have h:=ki u [w[i]] hu (by simp)
 unfold gn at h
 unfold yF
 have e1:wP u (u.length:Int) [] 0=qO u (u.length:Int) [] 0:=rfl
 rw[e1]
 cases h1:qO u (u.length:Int) [] 0 with
 |none=>rw[h1]at h;cases h
 | some o =>
  rw[h1]at h
  simp only[vaa]at h ⊢
  have hb:∀s (k:Nat),hO (i:Int) 1 (((1:Nat):Int)) w s (k:Int)=dz [w[i]] (([w[i]]:List af).length:Int) s (k:Int):=by
   intro s k
   unfold hO dz
   by_cases hk:k=0
   ·subst hk
    rw[vad (by simp),vad (by simp)]
    have hm:qha (i:Int) 1 w ((0:Nat):Int)=some w[i]:=by
     unfold qha
     rw[vad ⟨by omega,by omega,by simp⟩]
     simp[hi]
    rw[hm,show cz [w[i]] ((0:Nat):Int)=some w[i]from rfl]
   ·rw[vae (by simp;omega),vae (by simp;omega)]
  have e2:qN (i:Int) 1 (((1:Nat):Int)) w o 0=qP [w[i]] (([w[i]]:List af).length:Int) o 0:=by
   unfold qN qP
   have h0:=hb o 0
   rw[show((0:Nat):Int)=0 from rfl]at h0
   have e3:=kq (fun(zz:(List af)×Int)=>hO (i:Int) 1 (((1:Nat):Int)) w zz.1 zz.2) (o,0)
   have e4:=kq (fun(zz:(List af)×Int)=>dz [w[i]] (([w[i]]:List af).length:Int) zz.1 zz.2) (o,0)
   rw[e3,e4,h0]
   cases hr:dz [w[i]] (([w[i]]:List af).length:Int) o 0 with
   |none=>rfl
   | some r =>
    cases r with
    |inr y=>rfl
    | inl s =>
     simp only
     have hs:s.2=((1:Nat):Int):=by
      unfold dz at hr
      rw[vad (by simp),show cz [w[i]] 0=some w[i]from rfl]at hr
      simp only[vaa]at hr
      cases hp:yH o w[i]with
      |none=>rw[hp]at hr;cases hr
      |some q=>rw[hp]at hr;cases hr;rfl
     obtain⟨s1,s2⟩:=s
     simp only at hs
     subst hs
     have h1:=hb s1 1
     have e5:=kq (fun(zz:(List af)×Int)=>hO (i:Int) 1 (((1:Nat):Int)) w zz.1 zz.2) (s1,((1:Nat):Int))
     have e6:=kq (fun(zz:(List af)×Int)=>dz [w[i]] (([w[i]]:List af).length:Int) zz.1 zz.2) (s1,((1:Nat):Int))
     rw[e5,e6,h1]
     have hz:dz [w[i]] (([w[i]]:List af).length:Int) s1 ((1:Nat):Int)=some (.inr s1):=by
      unfold dz
      rw[vae (by simp)]
     rw[hz]
  rw[e2]
  exact h
def YR(o:Int)(ns:List af)(s:S3)(u:List af):Nat->List af
 |0=>u
 |i+1=>if(o=6/\i<ns.length)/\xP (ns.getD i []) (db (ns.getD i []) (jy o ns s i).2.1)=true then kv (YR o ns s u i) [eQ (jy o ns s i).1 (ns.getD i [])]else YR o ns s u i
theorem ZX(o:Int)(ns:List af)(s:S3)(u:List af)(h:∀x,x∈u↔x∈s.1):∀i x,x∈YR o ns s u i↔x∈(jy o ns s i).1
 |0,x=>h x
 | i + 1,x => by
  have ih:=ZX o ns s u h i
  show x∈YR o ns s u (i+1)↔x∈(Da o ns i (jy o ns s i)).1
  rw[YR]
  unfold Da
  by_cases h1:o=6/\i<ns.length
  ·by_cases h2:xP (ns.getD i []) (db (ns.getD i []) (jy o ns s i).2.1)=true
   ·rw[vad ⟨h1,h2⟩,vad h1,vad h2,pD,ih]
    simp
   ·rw[vae (fun h=>h2 h.2),vad h1,vae h2,ih]
  ·rw[vae (fun h=>h1 h.1),vae h1,ih]
theorem ZW(o:Int)(ns:List af)(s:S3)(u:List af):∀i,(YR o ns s u i).length<=u.length+i
 |0=>by simp[YR]
 | i + 1 => by
  have ih:=ZW o ns s u i
  rw[YR]
  split
  ·have:=ng (YR o ns s u i) [eQ (jy o ns s i).1 (ns.getD i [])]
   simp only[List.length_singleton]at this
   omega
  ·omega
theorem X7(c:Sb)(l:List aa)(hl:l.length<=1073741824)(hp:∀p∈l,nP p<=bm)(hc:c.length<=bm):rb l (l.length:Int) (kN c) (kB c) 0 []=some (l.map (G6 (pu (kN c) (kB c)))):=by
 unfold rb
 have h1:(kN c).length=c.length:=vaF ..
 rw[qv l hl (fun i s=>(i,s)) _ (fun y=>nq y (kN c) (kB c)) (G6 (pu (kN c) (kB c))) id (fun i s=>rfl) (fun y hy=>V9 y _ _ (hp y hy) (by unfold bm at hc;omega))]
 rfl
theorem X8(t:ae)(c:Sb)(h:qbC t c):EH t ⟨kN c,kB c⟩=some (AR t c):=by
 have hbig:ch t<qeD:=eg (by have:=h.sz;unfold bm;omega)
 refine(eP (F:=zV) (fun x=>ch x.1) (fun x=>∃c,x.2=⟨kN c,kB c⟩/\qbC x.1 c) (fun x=>AR x.1 (x.2.Names.zip x.2.By)) (fun R x hx ih=>?_) (t,⟨kN c,kB c⟩) ⟨c,rfl,h⟩ hbig).trans (by
  show some (AR t ((kN c).zip (kB c)))=_
  rw[yt])
 obtain⟨t,s⟩:=x
 obtain⟨c,hs,h⟩:=hx
 have hs:s=⟨kN c,kB c⟩:=hs
 have h:qbC t c:=h
 subst hs
 show tM (fun t c=>R (t,c)) t ⟨kN c,kB c⟩=some (AR t ((kN c).zip (kB c)))
 rw[yt]
 have hR:∀(i:Nat) (hi:i<t.Args.length),R (t.Args[i],⟨kN (jy t.Op t.Names (bP t c) i).2.1,kB (jy t.Op t.Names (bP t c) i).2.1⟩)=some (AR t.Args[i] (jy t.Op t.Names (bP t c) i).2.1):=fun i hi=>by
  have:=ih (t.Args[i],⟨kN (jy t.Op t.Names (bP t c) i).2.1,kB (jy t.Op t.Names (bP t c) i).2.1⟩) (gB (vak hi)) ⟨_,rfl,VS h i hi⟩
  rw[this]
  show some (AR t.Args[i] ((kN (jy t.Op t.Names (bP t c) i).2.1).zip (kB (jy t.Op t.Names (bP t c) i).2.1)))=_
  rw[yt]
 have l1:=fD t
 have l2:=iP t
 have l3:=Be t
 have hsz:nL (kB c)+ch t<=20000000:=h.sz
 have hw:wT t<=20000000:=h.w
 have hnd:=h.nd
 have hp:=qgj (t:=t)
 have hcl:=QA c
 have hknl:(kN c).length=c.length:=vaF ..
 unfold tM
 rw[V9 _ _ _ (by unfold bm;omega) (show(kN c).length<9223372036854775808 by omega)]
 simp only[vaa]
 rw[X7 c _ (by omega) (fun q hq=>by have:=Rh hq;unfold bm;omega) (by unfold bm;omega)]
 simp only[vaa]
 rw[cQ (by simp;omega)]
 simp only[vaa,vaC]
 obtain⟨kn,hk1,hk2,hk3⟩:=qb9 (kB c) (by omega)
 rw[hk1,qb8 t (by omega) (by omega)]
 simp only[vaa]
 have f2:=qt t
 have f3:=ng kn (freeT t)
 rw[ki _ _ (by omega) (by omega)]
 simp only[vaa]
 rw[ki _ _ (by omega) (by omega)]
 simp only[vaa]
 have hu0:∀x,x∈kv (kv kn (freeT t)) t.Names↔x∈(bP t c).1:=fun x=>by
  unfold bP
  rw[pD,pD,hk3,vaE,vaE]
 have hul0:=ng (kv kn (freeT t)) t.Names
 generalize kv (kv kn (freeT t)) t.Names=u0 at hu0 hul0
 unfold xx
 have hloop:=Ks t.Args.length (by omega) (fun i (s:List af×List af×List aa×List ae×List af)=>(s.1,i,s.2.1,s.2.2.1,s.2.2.2.1,s.2.2.2.2)) (fun(zz:(List af)×Int×(List af)×(List aa)×(List ae)×List af)=>eK (fun t c=>R (t,c)) t t.Args (t.Args.length:Int) t.Names.length zz.1 zz.2.1 zz.2.2.1 zz.2.2.2.1 zz.2.2.2.2.1 zz.2.2.2.2.2)
  (fun i=>(YR t.Op t.Names (bP t c) u0 i,kN (jy t.Op t.Names (bP t c) i).2.1,kB (jy t.Op t.Names (bP t c) i).2.1,YQ t c i,(jy t.Op t.Names (bP t c) i).2.2))
  (kN (jy t.Op t.Names (bP t c) t.Args.length).2.1,kB (jy t.Op t.Names (bP t c) t.Args.length).2.1,YQ t c t.Args.length,(jy t.Op t.Names (bP t c) t.Args.length).2.2) (fun i hi=>?_) ?_
 ·have hloop':loop (fun(zz:(List af)×Int×(List af)×(List aa)×(List ae)×List af)=>eK (fun t c=>R (t,c)) t t.Args (t.Args.length:Int) t.Names.length zz.1 zz.2.1 zz.2.2.1 zz.2.2.2.1 zz.2.2.2.2.1 zz.2.2.2.2.2) (u0,0,kN c,kB c,[],t.Names)=_:=hloop
  rw[hloop']
  simp only[vaa]
  rw[L3 _ _ (by rw[W9];rfl)]
  simp only[vaa]
  rw[Vd,ZS]
 ·show eK (fun t c=>R (t,c)) t t.Args (t.Args.length:Int) t.Names.length (YR t.Op t.Names (bP t c) u0 i) (i:Int) (kN (jy t.Op t.Names (bP t c) i).2.1) (kB (jy t.Op t.Names (bP t c) i).2.1) (YQ t c i) (jy t.Op t.Names (bP t c) i).2.2=_
  unfold eK
  rw[vad (by simp;omega),bp _ i hi]
  simp only[vaa]
  rw[hR i hi]
  simp only[vaa]
  have hal:=ZT t c i (by omega)
  rw[cQ (by simp;omega)]
  simp only[vaa]
  rw[W8 t c i hi]
  have hq:jy t.Op t.Names (bP t c) (i+1)=Da t.Op t.Names i (jy t.Op t.Names (bP t c) i):=rfl
  have hU:YR t.Op t.Names (bP t c) u0 (i+1)=_:=YR.eq_2 t.Op t.Names (bP t c) u0 i
  have hUm:=ZX t.Op t.Names (bP t c) u0 hu0 i
  have hUl:=ZW t.Op t.Names (bP t c) u0 i
  have hQn:=ZU t.Op t.Names (bP t c) i
  have hQu:=ZV t.Op t.Names (bP t c) i
  have hQw:=W9 t.Op t.Names (bP t c) i
  have hQd:=Gj t.Op t.Names (bP t c) hnd i
  have hst:=Wf t c
  have hn0:nL (kB (bP t c).2.1)=nL (kB c):=rfl
  have hw0:(bP t c).2.2=t.Names:=rfl
  rw[hw0]at hQw
  generalize YR t.Op t.Names (bP t c) u0 i=U at hU hUm hUl ⊢
  generalize jy t.Op t.Names (bP t c) i=S at hq hU hUm hQn hQu hQw hQd ⊢
  obtain⟨u,cc,w⟩:=S
  simp only at hQn hQu hQw hQd hUm hU ⊢
  have hccl:=QA cc
  unfold xw
  by_cases ho:t.Op=6
  ·rw [vae (by simpa using ho)]
   simp only[vaa]
   by_cases hi2:i<t.Names.length
   ·rw[vae (by simp;omega),bp _ i hi2]
    simp only[vaa]
    rw[qb7 _ cc (by omega)]
    simp only[vaa]
    have hd:=OH t.Names[i] cc
    rw[qb6 _ _ (by omega)]
    simp only[vaa]
    have hnl:t.Names[i].length<=1000000000000000:=((AK _ t).1 h.n).1 _ (vak hi2)
    unfold Da at hq
    rw[vad ⟨ho,hi2⟩,CB _ i hi2]at hq
    rw[CB _ i hi2]at hU
    by_cases hcm:xP t.Names[i] (db t.Names[i] cc)=true
    ·rw[vad hcm]at hq ⊢
     rw[vad ⟨⟨ho,hi2⟩,hcm⟩]at hU
     rw[(Aw U t.Names[i] (by omega) (by omega)).2.1,Kg hUm]
     simp only[vaa]
     rw[L4 _ w i (by omega) (by omega)]
     simp only[vaa]
     rw[Wj w i _ (by omega)]
     simp only[vaa]
     rw[show qeo t.Names.length (i:Int) (aS ((i:Int)+1))=some 1 by
      rw[dE (by omega) (by omega)]
      unfold qeo
      rw[vad ⟨by omega,by omega,by omega⟩]
      congr 1;omega]
     simp only[vaa]
     rw[qcm U (w.set i (eQ u t.Names[i])) i (by rw[vbq];omega) (by omega),vbZ]
     simp only[vaa]
     have k1:(kN (db t.Names[i] cc)).length=(db t.Names[i] cc).length:=vaF ..
     have k2:(kB (db t.Names[i] cc)).length=(db t.Names[i] cc).length:=vaF ..
     have k3:(db t.Names[i] cc).length<=cc.length:=vaW ..
     rw[cQ (by simp;omega)]
     simp only[vaa]
     rw[L4 _ (w.set i (eQ u t.Names[i])) i (by omega) (by rw[vbq];omega),vbZ]
     simp only[vaa]
     rw[cQ (by simp;omega)]
     simp only[vaa]
     rw[hq,hU]
     simp[kN,kB,lT]
    ·rw[vae hcm]at hq ⊢
     rw[vae (fun h=>hcm h.2)]at hU
     rw[hq,hU]
   ·rw[vad (by simp;omega),hq,hU,vae (fun h=>hi2 h.1.2)]
    unfold Da
    rw[vae (fun h=>hi2 h.2)]
  ·rw[vad (by simpa using ho)]
   simp only[vaa,if_true]
   rw[hq,hU,vae (fun h=>ho h.1.1)]
   unfold Da
   rw[vae (fun h=>ho h.1)]
 ·show eK (fun t c=>R (t,c)) t t.Args (t.Args.length:Int) t.Names.length (YR t.Op t.Names (bP t c) u0 t.Args.length) (t.Args.length:Int) (kN (jy t.Op t.Names (bP t c) t.Args.length).2.1) (kB (jy t.Op t.Names (bP t c) t.Args.length).2.1) (YQ t c t.Args.length) (jy t.Op t.Names (bP t c) t.Args.length).2.2=_
  unfold eK
  rw[vae (by simp)]
theorem qb4(t:ae)(x:af)(q:aa)(h:qbC t (sn x q)):F6 t x q=some (AR t (sn x q)):=by
 unfold F6 B5 va
 have hb:er [q] [x] (([x]:List af).length:Int) 0 [] []=some (.inl (aS (0+1),kN (sn x q),kB (sn x q))):=by
  unfold er u9 sn
  rw[vad (by simp),show cz [x] 0=some x from rfl]
  simp only[vaa]
  rw[vad (by simp)]
  by_cases hx:x=[118]
  ·have hx':(x==([118]:af))=true:=by simpa using hx
   simp only[hx',vbP,va5,if_false,vaa]
   rw[vad hx]
   rfl
  ·have hx':(x==([118]:af))=false:=by simpa using hx
   simp only[hx',vbV,if_true]
   rw[Rq [] x (by simp)]
   rw[vae hx]
   rfl
 have he:er [q] [x] (([x]:List af).length:Int) (aS (0+1)) (kN (sn x q)) (kB (sn x q))=some (.inr (kN (sn x q),kB (sn x q))):=by
  unfold er
  rw[show(([x]:List af).length:Int)=1 from rfl,vae (by decide)]
 rw[qw (body:=fun(zz:Int×(List af)×(List aa))=>er [q] [x] (([x]:List af).length:Int) zz.1 zz.2.1 zz.2.2) (s:=(0,[],[])) (s':=(aS (0+1),kN (sn x q),kB (sn x q))) hb]
 rw[jZ (body:=fun(zz:Int×(List af)×(List aa))=>er [q] [x] (([x]:List af).length:Int) zz.1 zz.2.1 zz.2.2) he]
 simp only[vaa]
 rw[X8 t _ h]
 rfl
mutual
def nC:ai->Nat
 |⟨_,_,_,p,_,ks⟩=>nP p+wG ks+1
def wG:List ai->Nat
 |[]=>0
 |c::cs=>nC c+wG cs
end
theorem QU(c:ai):nC c=nP c.Pred+wG c.Kids+1:=by obtain⟨o,n,s,p,t,ks⟩:=c;rw[nC];rfl
theorem qhe(c:ai):1<=nC c:=by rw[QU];omega
theorem OG:∀{l:List ai} {x:ai},x∈l->nC x<=wG l
 | y :: l,x,h => by
  rw[wG]
  rcases vaw.1 h with rfl|h
  ·omega
  ·have:=OG h;omega
theorem Kv:∀(l:List ai),l.length<=wG l
 |[]=>by simp[wG]
 |p::l=>by rw[wG];have:=Kv l;have:=qhe p;simp only[vaP];omega
theorem QT:∀(a b:List ai),wG (a++b)=wG a+wG b
 |[],b=>by simp[wG]
 |p::a,b=>by rw[vaG,wG,QT a b,wG];omega
theorem Fm:∀(l:List ai) (i:Nat),wG (l.take i)<=wG l
 |[],i=>by simp
 |x::l,0=>by simp[wG]
 |x::l,i+1=>by rw[List.take_succ_cons,wG,wG];have:=Fm l i;omega
theorem Oy{c x:ai}(h:x∈c.Kids):nC x<nC c:=by rw[QU c];have:=OG h;omega
theorem Tn(c:ai):c.Kids.length<nC c:=by rw[QU];have:=Kv c.Kids;omega
theorem qbj(c:ai):(⟨c.Op,c.Name,c.Sort_,c.Pred,c.Tag,c.Kids⟩:ai)=c:=by obtain⟨o,n,s,p,t,ks⟩:=c;rfl
theorem IA(c:ai):(⟨c.Op,c.Name,c.Sort_,⟨c.Pred.Op,c.Pred.Name,c.Pred.N,c.Pred.Kids⟩,c.Tag,c.Kids⟩:ai)=c:=by obtain⟨o,n,s,p,t,ks⟩:=c;rw[wE];rfl
mutual
theorem qaG:∀(p:aa),G6 (pu [] []) p=p
 |⟨o,n,k,ks⟩=>by
  rw[G6,Yj ks]
  split<;>rfl
theorem Yj:∀(l:List aa),qaE (pu [] []) l=l
 |[]=>by rw[qaE]
 |p::l=>by rw[qaE,qaG p,Yj l]
end
theorem P8(c:ai)(h:nC c<=bm):mb c=some c:=by
 refine eP (F:=od) nC (fun c=>nC c<=bm) id (fun R c hc ih=>?_) c h (eg h)
 show jC (fun c=>R c) c=some c
 unfold jC mO
 have h1:=QU c
 have h2:=Tn c
 unfold bm at hc
 rw[V5 c.Pred [] [] (by unfold bm;omega) (by simp) (by simp),qaG]
 simp only[vaa]
 rw[qv c.Kids (by omega) (fun i s=>(i,s)) _ R id id (fun i s=>rfl) (fun x hx=>ih x (Oy hx) (by have:=Oy hx;unfold bm;omega)),List.map_id]
 simp only[vaa,id]
 rw[qbj]
abbrev RC:ai:=⟨0,[],[],gU,0,[]⟩
abbrev AJ(ks:List ai):ai:=⟨1,[],[],gU,0,ks⟩
abbrev Dh(p:aa)(tag:Int):ai:=⟨3,[],[],p,tag,[]⟩
abbrev SN(x s:af)(p:aa)(c:ai):ai:=⟨2,x,s,p,0,[c]⟩
mutual
def JW:ai->List ai
 |⟨o,n,s,p,t,ks⟩=>if o=2\/o=3 then[⟨o,n,s,p,t,ks⟩]else fo ks
def fo:List ai->List ai
 |[]=>[]
 |c::cs=>JW c++fo cs
end
theorem W2(c:ai):JW c=if c.Op=2\/c.Op=3 then[c]else fo c.Kids:=by obtain⟨o,n,s,p,t,ks⟩:=c;rw[JW];rfl
mutual
theorem qeV:∀(c:ai),wG (JW c)<=nC c
 | ⟨o,n,s,p,t,ks⟩ => by
  have:=JY ks
  rw[JW]
  split
  ·simp[wG]
  ·rw[nC];omega
theorem JY:∀(l:List ai),wG (fo l)<=wG l
 |[]=>by simp[fo]
 |c::l=>by
  have:=qeV c
  have:=JY l
  rw[fo,QT,wG];omega
end
theorem JX:∀(a b:List ai),fo (a++b)=fo a++fo b
 |[],b=>by simp[fo]
 |c::a,b=>by rw[vaG,fo,JX a b,fo,vba]
theorem PY(l:List ai)(i:Nat)(h:i<l.length):fo (l.take (i+1))=fo (l.take i)++JW l[i]:=by
 rw[vaM h,JX]
 simp[fo]
theorem Qq:∀(l s:List ai),l.foldl (fun s x=>s++JW x) s=s++fo l
 |[],s=>by simp[fo]
 |c::l,s=>by rw[List.foldl_cons,Qq l,fo,vba]
theorem Tk(l:List ai):(fo l).length<=wG l:=vaI (Kv _) (JY l)
theorem Vc(l:List ai)(h:wG l<=bm):mN l=some (AJ (fo l)):=by
 refine eP (F:=td) wG (fun l=>wG l<=bm) (fun l=>AJ (fo l)) (fun R l hl ih=>?_) l h (eg h)
 show nG (fun a=>R a) l=some (AJ (fo l))
 unfold nG rC
 have h2:=Kv l
 unfold bm at hl
 rw[io l (by omega) (fun i s=>(i,s)) _ (fun i s x=>(ma x.Op).bind fun o4=>if o4=true then(mb x).bind fun r7=>(app s ([r7]:List ai)).bind fun l8=>some (.inl (aS (i+1),l8))else(R x.Kids).bind fun r9=>(app s r9.Kids).bind fun l10=>some (.inl (aS (i+1),l10))) (fun i s=>s=fo (l.take i)) (fun x s=>s++JW x) id [] (by simp[fo]) (fun i s=>rfl) (fun i hi s hs=>?_),Qq]
 ·rfl
 ·have h3:=OG (vak hi)
  have h4:=QU l[i]
  have h5:=PY l i hi
  have h6:=Tk (l.take (i+1))
  have h7:=Fm l (i+1)
  rw[h5,vag,<-hs]at h6
  refine⟨?_,by rw[hs,h5]⟩
  have e:=W2 l[i]
  unfold ma
  by_cases c2:l[i].Op=2
  ·rw[vad (by simpa using c2)]
   rw[vad (.inl c2)]at e
   simp only[vaa,if_true]
   rw[P8 _ (by unfold bm;omega)]
   simp only[vaa]
   rw[e]at h6 ⊢
   rw[cQ (by omega)]
   rfl
  ·rw[vae (by simpa using c2)]
   simp only[vaa]
   by_cases c3:l[i].Op=3
   ·rw[vad (by simpa using c3),P8 _ (by unfold bm;omega)]
    rw[vad (.inr c3)]at e
    simp only[vaa]
    rw[e]at h6 ⊢
    rw[cQ (by omega)]
    rfl
   ·rw[vae (by simpa using c3),ih l[i].Kids (by omega) (by unfold bm;omega)]
    rw[vae (by simp[c2,c3])]at e
    simp only[vaa]
    rw[e]at h6 ⊢
    show(app s (fo l[i].Kids)).bind _=_
    rw[cQ (by omega)]
    rfl
theorem Mq(l:List ai)(h:wG l<=bm):JG l=some (AJ (fo l)):=by
 refine eP (F:=LN) wG (fun l=>wG l<=bm) (fun l=>AJ (fo l)) (fun R l hl ih=>?_) l h (eg h)
 show F9 (fun a=>R a) l=some (AJ (fo l))
 unfold F9 If
 have h2:=Kv l
 unfold bm at hl
 rw[io l (by omega) (fun i s=>(i,s)) _ (fun i s x=>(Ca x).bind fun o4=>if o4=true then(app s ([x]:List ai)).bind fun l8=>some (.inl (aS (i+1),l8))else(R x.Kids).bind fun r9=>(app s r9.Kids).bind fun l10=>some (.inl (aS (i+1),l10))) (fun i s=>s=fo (l.take i)) (fun x s=>s++JW x) id [] (by simp[fo]) (fun i s=>rfl) (fun i hi s hs=>?_),Qq]
 ·rfl
 ·have h3:=OG (vak hi)
  have h4:=QU l[i]
  have h5:=PY l i hi
  have h6:=Tk (l.take (i+1))
  have h7:=Fm l (i+1)
  rw[h5,vag,<-hs]at h6
  refine⟨?_,by rw[hs,h5]⟩
  have e:=W2 l[i]
  unfold Ca
  by_cases c2:l[i].Op=2
  ·rw[vad (by simpa using c2)]
   rw[vad (.inl c2)]at e
   simp only[vaa,if_true]
   rw[e]at h6 ⊢
   rw[cQ (by omega)]
   rfl
  ·rw[vae (by simpa using c2)]
   simp only[vaa]
   by_cases c3:l[i].Op=3
   ·rw[vad (by simpa using c3)]
    rw[vad (.inr c3)]at e
    rw[e]at h6 ⊢
    rw[cQ (by omega)]
    rfl
   ·rw[vae (by simpa using c3),ih l[i].Kids (by omega) (by unfold bm;omega)]
    rw[vae (by simp[c2,c3])]at e
    simp only[vaa]
    rw[e]at h6 ⊢
    show(app s (fo l[i].Kids)).bind _=_
    rw[cQ (by omega)]
    rfl
theorem Rv(c:ai)(h:nC c<=bm):wj c c=some true:=by
 refine eP (F:=xB) (fun x=>nC x.1) (fun x=>nC x.1<=bm/\x.2=x.1) (fun _=>true) (fun R x hx ih=>?_) (c,c) ⟨h,rfl⟩ (eg h)
 obtain⟨c,d⟩:=x
 obtain⟨hc,hd⟩:=hx
 have hd:d=c:=hd
 subst hd
 have hc:nC d<=bm:=hc
 have h1:=QU d
 have h2:=Tn d
 show rf (fun a a2=>R (a,a2)) d d=some true
 unfold rf vb vd
 rw[vae (by simp),vae (by simp),vae (by simp),vae (by simp),Rt _ _ (by unfold bm at hc ⊢;omega)]
 simp only[vaa,decide_true,vbP,va5,if_false]
 have e:loop (fun zz=>iX (fun a a2=>R (a,a2)) d d zz) 0=some (Sum.inr ():Unit⊕Unit):=by
  refine qdx d.Kids (by unfold bm at hc;omega) _ (Sum.inr ():Unit⊕Unit) (fun i hi=>?_) ?_
  ·unfold iX
   rw[vad (by simp;omega),bp _ i hi]
   simp only[vaa]
   rw[ih (d.Kids[i],d.Kids[i]) (Oy (vak hi)) ⟨by have:=Oy (vak hi);show nC d.Kids[i]<=bm;omega,rfl⟩]
   rfl
  ·unfold iX
   rw[vae (by simp)]
 rw[vae (by simp),e]
 rfl
theorem Yo{X:Type}(n:Nat)(hn:n<9223372036854775808){body:Int->Option (Int⊕X)}(k:Int->Option (Int⊕X))(e:X)(hb:∀i:Int,body i=if decide (i<(n:Int))=true then k i else some (.inr e))
  (hk:∀i:Nat,i<n->fC (k (i:Int)) (fun r=>match r with|.inl t=>t=aS ((i:Int)+1)|.inr _=>True)):fC (loop body 0) (fun _=>True):=by
 have e1:(List.replicate n ()).length=n:=List.length_replicate
 refine Bk (List.replicate n ()) (by omega) (fun i (_:Unit)=>i) (fun _ _=>True) (fun i hi s _=>?_) (fun s _=>?_) () trivial
 ·rw[e1]at hi
  rw[hb,vad (vbk (by omega))]
  exact(hk i hi).mono fun r hr=>by
   cases r with
   |inl t=>exact⟨(),hr,trivial⟩
   |inr _=>trivial
 ·rw[hb,vae (by rw[e1];simp)]
  exact aq trivial
theorem wH(c:Int):fC (nn c) (fun _=>True):=by unfold nn;exact aU (fun _=>aq trivial) (fun _=>aq trivial)
theorem Gp(c:Int):fC (sO c) (fun _=>True):=by unfold sO;exact aU (fun _=>aq trivial) (fun _=>aq trivial)
theorem E8(c:Int):fC (qo c) (fun _=>True):=by unfold qo;exact aU (fun _=>aq trivial) (fun _=>aq trivial)
theorem i8{s:af}{i:Nat}(h:i<s.length):fC (wr s (i:Int)) (fun _=>True):=Wi (qde s i h) trivial
theorem AY{s:af}(h:0<s.length):fC (wr s 0) (fun _=>True):=i8 (i:=0) h
theorem Xt(s:af):fC (yE s) (fun _=>True):=by
 unfold yE
 exact ax (R:=fun l=>l.length<9223372036854775808) ⟨_,rfl,by decide⟩ (fun l hl=>cW (qn l s hl) (aq trivial))
theorem YS{s:af}{i:Nat}(h:i<s.length):fC (qJ s i) (fun _=>True):=by
 unfold qJ
 exact ax (i8 h) fun _ _=>ax (wH _) fun _ _=>aU (fun _=>ax (i8 h) fun _ _=>ax (Gp _) fun _ _=>aU (fun _=>ax (i8 h) fun _ _=>aq trivial) fun _=>aq trivial) fun _=>aq trivial
theorem Tb(s:af):fC (sK s) (fun _=>True):=by
 unfold sK
 refine ax (R:=fun o=>o=true\/s.length<=24) ?_ fun o ho=>aU (fun _=>aq trivial) fun hn=>?_
 ·unfold Br
  refine aU (fun _=>aq (.inl rfl)) fun h1=>aU (fun _=>aq (.inl rfl)) fun h2=>?_
  rw[van]at h1 h2
  exact ax (AY (by omega)) fun _ _=>ax (wH _) fun _ _=>aU (fun _=>aq (.inl rfl)) fun _=>ax (Xt s) fun _ _=>aq (.inr (by omega))
 ·have hs:s.length<=24:=ho.resolve_left hn
  unfold Bt
  refine ax (Yo s.length (by omega) (fun i=>(qJ s i).bind fun o=>if o=true then some (.inr (.inl ()))else some (.inl (aS (i+1)))) (.inr ()) (fun i=>rfl) fun i hi=>ax (YS hi) fun _ _=>aU (fun _=>aq trivial) fun _=>aq rfl) fun o _=>?_
  cases o<;>exact aq trivial
theorem ZG{s:af}{i:Nat}(h:i<s.length):fC (qL s i) (fun _=>True):=by
 unfold qL
 exact ax (i8 h) fun _ _=>ax (wH _) fun _ _=>aU (fun _=>ax (i8 h) fun _ _=>ax (E8 _) fun _ _=>aU (fun _=>ax (i8 h) fun _ _=>ax (Gp _) fun _ _=>aq trivial) fun _=>aq trivial) fun _=>aq trivial
theorem qaX(s:af):fC (F0 s) (fun _=>True):=by
 unfold F0
 refine ax (R:=fun o=>o=true\/s.length<=24) ?_ fun o ho=>aU (fun _=>aq trivial) fun hn=>?_
 ·unfold Bv
  refine aU (fun _=>aq (.inl rfl)) fun h1=>aU (fun _=>aq (.inl rfl)) fun h2=>?_
  rw[van]at h1 h2
  have h3:s.length<=24:=by omega
  exact ax (AY (by omega)) fun _ _=>ax (E8 _) fun _ _=>aU (fun _=>aq (.inl rfl)) fun _=>aU (fun _=>aq (.inl rfl)) fun _=>aU (fun _=>aq (.inl rfl)) fun _=>aU (fun _=>aq (.inl rfl)) fun _=>aq (.inr h3)
 ·have hs:s.length<=24:=ho.resolve_left hn
  unfold Bw
  refine ax (Yo s.length (by omega) (fun i=>(qL s i).bind fun o=>if o=true then some (.inr (.inl ()))else some (.inl (aS (i+1)))) (.inr ()) (fun i=>rfl) fun i hi=>ax (ZG hi) fun _ _=>aU (fun _=>aq trivial) fun _=>aq rfl) fun o _=>?_
  cases o<;>exact aq trivial
theorem qbO{s:af}(b:Bool){i:Nat}(h:i<s.length):fC (yG s b i) (fun _=>True):=by
 unfold yG
 exact aU (fun _=>ax (i8 h) fun _ _=>ax (wH _) fun _ _=>aU (fun _=>aq trivial) fun _=>ax (i8 h) fun _ _=>ax (E8 _) fun _ _=>aU (fun _=>aq trivial) fun _=>ax (i8 h) fun _ _=>ax (Gp _) fun _ _=>aq trivial) fun _=>aq trivial
theorem qdL(s:af):fC (Jh s) (fun _=>True):=by
 unfold Jh
 refine ax (R:=fun o=>o=true\/(0<s.length/\s.length<=24)) ?_ fun o ho=>aU (fun _=>aq trivial) fun hn=>?_
 ·unfold DW
  refine aU (fun _=>aq (.inl rfl)) fun h1=>aq ?_
  rw[van]at h1
  by_cases h2:(s.length:Int)>24
  ·exact .inl (vbk h2)
  ·exact .inr ⟨by omega,by omega⟩
 ·obtain⟨h0,hs⟩:=ho.resolve_left hn
  refine ax (AY h0) fun _ _=>ax (wH _) fun r6 _=>?_
  unfold DX
  refine ax (R:=fun _=>True) (Bk s (by omega) (fun i (z:Bool×Bool)=>(z.1,z.2,i)) (fun _ _=>True) (fun i hi z _=>?_) (fun z _=>?_) (true,r6) trivial) fun o _=>aU (fun _=>aq trivial) fun _=>aq trivial
  ·show fC (lk s s.length z.1 z.2 i) _
   unfold lk
   rw[vad (vbk (by omega))]
   exact ax (qbO _ hi) fun o _=>aU (fun _=>ax (i8 hi) fun _ _=>ax (wH _) fun _ _=>aU (fun _=>aq ⟨(o,true),rfl,trivial⟩) fun _=>ax (i8 hi) fun _ _=>ax (Gp _) fun _ _=>aU (fun _=>aq ⟨(o,true),rfl,trivial⟩) fun _=>ax (i8 hi) fun c _=>aq ⟨(o,c==95),rfl,trivial⟩) fun _=>aq ⟨(o,false),rfl,trivial⟩
  ·show fC (lk s s.length z.1 z.2 s.length) _
   unfold lk
   rw[vae (by simp)]
   exact aq trivial
theorem Yl{α:Type}(l:List α)(a b:Nat)(h:a<=b)(h2:b<=l.length):Ot l (some (a:Int)) (some (b:Int))=some ((l.take b).drop a):=by
 simp[Ot,bd,h,h2]
theorem qbP(s:af)(hs:s.length<=120):fC (F1 s) (fun l=>l≠[]/\l.length<=121):=by
 unfold F1 Bx
 refine ax (R:=fun o=>o.1.length<=s.length/\∃b:Nat,o.2=(b:Int)/\b<=s.length) (Bk s (by omega) (fun i (z:List af×Int)=>(z.1,z.2,i)) (fun i z=>z.1.length<=i/\∃b:Nat,z.2=(b:Int)/\b<=i) (fun i hi z hz=>?_) (fun z hz=>?_) ([],0) ⟨vah _,0,rfl,vah _⟩) fun o ho=>?_
 ·obtain⟨out,bg⟩:=z
  obtain⟨h1,b,hb,hbi⟩:=hz
  simp only at h1 hb
  subst hb
  show fC (jM s s.length out b i) _
  unfold jM
  rw[vad (vbk (by omega))]
  refine ax (i8 hi) fun c _=>aU (fun _=>?_) fun _=>aq ⟨(out,b),rfl,by simp only;omega,b,rfl,by omega⟩
  refine cW (Yl s b i hbi (by omega)) (cW (cQ (by simp;omega)) (aq ⟨(_,aS ((i:Int)+1)),rfl,by simp;omega,i+1,?_,vah _⟩))
  simp only
  rw[dE (by omega) (by omega)]
  omega
 ·obtain⟨out,bg⟩:=z
  show fC (jM s s.length out bg s.length) _
  unfold jM
  rw[vae (by simp)]
  exact aq hz
 ·obtain⟨h1,b,hb,hbi⟩:=ho
  rw[hb]
  exact cW (FP s b hbi) (cW (cQ (by simp;omega)) (aq ⟨by simp,by simp;omega⟩))
theorem qbe{v:List af}(h:v≠[]):fC (yB v) (fun _=>True):=by
 obtain⟨x,r,rfl⟩:=List.exists_cons_of_ne_nil h
 unfold yB
 exact cW (Ki x r) (ax (Tb x) fun _ _=>aU (fun _=>cW (Ki x r) (ax (qaX x) fun _ _=>aU (fun _=>cW (Ki x r) (aU (fun _=>aq trivial) fun _=>aq trivial)) fun _=>aq trivial)) fun _=>aq trivial)
theorem qcW:ug []=some 3:=by kernel_rfl
theorem Wy(s:af):fC (ug s) (fun r=>(r==0)=true->0<s.length):=by
 by_cases hs:s=[]
 ·subst hs
  exact Wi qcW fun h=>by simp at h
 have hp:0<s.length:=vcL.2 hs
 unfold ug
 refine aU (fun _=>aq fun _=>hp) fun h1=>?_
 rw[van]at h1
 refine ax (qbP s (by omega)) fun l hl=>ax (qbe hl.1) fun _ _=>aU (fun _=>aq fun _=>hp) fun _=>?_
 have h2:1<=l.length:=vcL.2 hl.1
 refine cW (FP l 1 h2) ?_
 unfold DS
 refine ax (tD (l.drop 1) (by simp;omega) _ (fun _=>True) (fun _=>True) (fun i=>rfl) (fun x hx i=>ax (qdL x) fun _ _=>aU (fun _=>aq trivial) fun _=>aq ⟨rfl,trivial⟩)) fun o _=>?_
 cases o<;>exact aq fun _=>hp
theorem Ut(l:List af)(hl:l.length<9223372036854775808):fC (vW l) (fun _=>True):=by
 unfold vW uT
 refine ax (tD l hl _ (fun _=>True) (fun _=>True) (fun i=>rfl) (fun x hx i=>cW (qn l x hl) (aU (fun _=>aq trivial) fun _=>aq ⟨rfl,trivial⟩))) fun o _=>?_
 cases o<;>exact aq trivial
theorem qcV(s:af)(b:Bool):fC (Az s b) (fun _=>True):=by
 unfold Az
 exact ax (Wy s) fun r hr=>aU (fun h=>ax (AY (hr h)) fun _ _=>aU (fun _=>ax (AY (hr h)) fun _ _=>aq trivial) fun _=>aq trivial) fun _=>aq trivial
theorem YY(t:ae)(ht:ch t<=bm):fC (Lk t) (fun _=>True):=by
 refine pE (F:=Ed) ch (fun x=>ch x<=bm) (fun _ _=>True) (fun R x hx ih=>?_) t ht (eg ht)
 show fC (yP (fun t=>R t) x) _
 unfold yP BL
 have h1:=fD x
 refine ax (R:=fun _=>True) (Uj x.Args (by unfold bm at hx;omega) (fun i s=>(s,i)) (fun i s y=>(R y).bind fun r=>some (.inl ((if r>s then r else s),aS (i+1)))) id (fun _ _=>True) (fun i s=>rfl) (fun i hi s _=>?_) (fun _ _=>trivial) 0 trivial) (fun a _=>aq trivial)
 exact ax (ih _ (gB (vak hi)) (by have:=gB (vak hi);omega)) (fun a _=>aq ⟨_,rfl,trivial⟩)
theorem Zl(t:ae):fC (Jm t) (fun _=>True):=by
 unfold Jm
 refine ax (R:=fun _=>True) ?_ fun _ _=>aU (fun _=>aq trivial) fun _=>ax (R:=fun _=>True) ?_ fun _ _=>aU (fun _=>aq trivial) fun _=>ax (R:=fun _=>True) ?_ fun _ _=>aU (fun _=>aq trivial) fun _=>ax (R:=fun _=>True) ?_ fun _ _=>aU (fun _=>aq trivial) fun _=>aq trivial
 ·unfold En
  repeat' first|exact aq trivial|refine aU (fun _=>?_) (fun _=>?_)
 ·unfold Eo
  repeat' first|exact aq trivial|refine aU (fun _=>?_) (fun _=>?_)
 ·unfold Ep
  repeat' first|exact aq trivial|refine aU (fun _=>?_) (fun _=>?_)
 ·unfold Er
  repeat' first|exact aq trivial|refine aU (fun _=>?_) (fun _=>?_)|refine ax (qcV _ _) fun _ _=>?_
theorem Y6(t:ae)(ht:ch t<=bm):fC (Pj t) (fun _=>True):=by
 refine pE (F:=HZ) ch (fun x=>ch x<=bm) (fun _ _=>True) (fun R x hx ih=>?_) t ht (eg ht)
 show fC (BO (fun t=>R t) x) _
 unfold BO El
 have h1:=fD x
 refine ax (Zl x) fun _ _=>aU (fun _=>aq trivial) fun _=>ax (tD x.Args (by unfold bm at hx;omega) _ (fun _=>True) (fun _=>True) (fun i=>rfl) (fun y hy i=>ax (ih _ (gB hy) (by have:=gB hy;omega)) fun _ _=>aU (fun _=>aq trivial) fun _=>aq ⟨rfl,trivial⟩)) fun o _=>?_
 cases o<;>exact aq trivial
theorem Wx(t:ae)(ht:ch t<=bm):fC (F4 t) (fun _=>True):=by
 unfold F4
 exact ax (YY t ht) fun _ _=>aU (fun _=>aq trivial) fun _=>ax (Y6 t ht) fun _ _=>aq trivial
theorem qdp(op n:Int):fC (qX op n) (fun r=>r=true->op=8->n=2):=by
 by_cases h:op=8
 ·subst h
  refine Wi (a:=n==2) ?_ fun h _=>by simpa using h
  simp[qX,yL,yM,yN]
 ·unfold qX
  refine ax (R:=fun _=>True) ?_ fun _ _=>aU (fun _=>aq fun _ e=>absurd e h) fun _=>ax (R:=fun _=>True) ?_ fun _ _=>aU (fun _=>aU (fun _=>aq fun _ e=>absurd e h) fun _=>aq fun _ e=>absurd e h) fun _=>ax (R:=fun _=>True) ?_ fun _ _=>aU (fun _=>aq fun _ e=>absurd e h) fun _=>aq fun _ e=>absurd e h
  ·unfold yL
   repeat' first|exact aq trivial|refine aU (fun _=>?_) (fun _=>?_)
  ·unfold yM
   repeat' first|exact aq trivial|refine aU (fun _=>?_) (fun _=>?_)
  ·unfold yN
   repeat' first|exact aq trivial|refine aU (fun _=>?_) (fun _=>?_)
theorem YP(p:aa):fC (BJ p) (fun _=>True):=by
 unfold BJ
 have hc:=fun s=>(Wy s).mono (R:=fun _=>True) fun _ _=>trivial
 repeat' first|exact aq trivial|refine aU (fun _=>?_) (fun _=>?_)|refine ax (hc _) fun _ _=>?_
theorem Zk(p:aa):fC (Jl p) (fun _=>True):=by
 unfold Jl
 have hk:fC (qX p.Op (p.Kids.length:Int)) (fun r=>r=true->p.Op=8->0<p.Kids.length):=(qdp _ _).mono fun r hr h1 h2=>by have:=hr h1 h2;omega
 have hn:∀r:Bool,(r=true->p.Op=8->0<p.Kids.length)->fC (some (!r)) (fun o=>o=true\/(p.Op=8->0<p.Kids.length)):=fun r hr=>by
  cases r with
  |false=>exact aq (.inl rfl)
  |true=>exact aq (.inr (hr rfl))
 refine ax (R:=fun _=>True) ?_ fun o3 _=>ax (R:=fun o=>o=true\/(p.Op=8->0<p.Kids.length)) ?_ fun o ho=>aU (fun _=>aq trivial) fun hno=>ax (R:=fun _=>True) ?_ fun _ _=>aU (fun _=>aq trivial) fun _=>ax (YP p) fun _ _=>aU (fun _=>aq trivial) fun _=>ax (R:=fun _=>True) ?_ fun _ _=>aU (fun _=>aq trivial) fun _=>aq trivial
 ·unfold D9
  repeat' first|exact aq trivial|refine aU (fun _=>?_) (fun _=>?_)
 ·unfold Ea
  have hm:fC (F3 p.Op) (fun _=>True):=by
   unfold F3
   repeat' first|exact aq trivial|refine aU (fun _=>?_) (fun _=>?_)
  repeat' first|exact aq (.inl rfl)|refine aU (fun _=>?_) (fun _=>?_)|refine ax hm fun _ _=>?_|exact ax hk hn
 ·have hi:fC (Uw p.N) (fun _=>True):=by
   unfold Uw
   repeat' first|exact aq trivial|refine aU (fun _=>?_) (fun _=>?_)
  unfold Eb
  repeat' first|exact aq trivial|refine aU (fun _=>?_) (fun _=>?_)|refine ax hi fun _ _=>?_
 ·unfold Ec
  refine aU (fun h=>?_) fun _=>aq trivial
  exact cW (bp p.Kids 0 (ho.resolve_left hno (by simpa using h))) (aq trivial)
theorem Y5(p:aa)(hp:nP p<=bm):fC (O7 p) (fun _=>True):=by
 refine pE (F:=HX) nP (fun x=>nP x<=bm) (fun _ _=>True) (fun R x hx ih=>?_) p hp (eg hp)
 show fC (BK (fun t=>R t) x) _
 unfold BK D7
 have h1:=rK x
 refine ax (Zk x) fun _ _=>aU (fun _=>aq trivial) fun _=>ax (tD x.Kids (by unfold bm at hx;omega) _ (fun _=>True) (fun _=>True) (fun i=>rfl) (fun y hy i=>ax (ih _ (qc hy) (by have:=qc hy;omega)) fun _ _=>aU (fun _=>aq trivial) fun _=>aq ⟨rfl,trivial⟩)) fun o _=>?_
 cases o<;>exact aq trivial
theorem Ww(p:aa)(hp:nP p<=bm):fC (F2 p) (fun _=>True):=by
 unfold F2
 exact cW (qdF p hp) (aU (fun _=>aq trivial) fun _=>cW (qc1 p hp) (aU (fun _=>aq trivial) fun _=>ax (Y5 p hp) fun _ _=>aq trivial))
theorem MB(p:aa):AF p=some (decide (p=gU)):=by
 unfold AF
 have h1:qT p (⟨0,([]:af),0,([]:List aa)⟩:aa)=some (decide (p=gU)):=Rt p gU qam
 rw[h1];rfl
mutual
def lR:ae->ae->Bool
 |⟨o,n,xs,ns,p,ps⟩,⟨o',n',xs',ns',p',ps'⟩=>decide (o=o')&&(decide (n=n')&&Dl xs xs')
def Dl:List ae->List ae->Bool
 |[],[]=>true
 |a::xs,b::bs=>lR a b&&Dl xs bs
 |_,_=>false
end
theorem Uc:∀(a b:List ae),Dl a b=Du lR a b
 |[],[]=>by rw[Dl,Du]
 |a::xs,b::bs=>by rw[Dl,Du,Uc xs bs]
 |[],b::bs=>by simp[Dl,Du]
 |a::xs,[]=>by simp[Dl,Du]
theorem qaD(a b:ae):lR a b=(decide (a.Op=b.Op)&&(decide (a.Name=b.Name)&&Du lR a.Args b.Args)):=by
 obtain⟨o,n,xs,ns,p,ps⟩:=a
 obtain⟨o',n',xs',ns',p',ps'⟩:=b
 rw[lR,Uc];rfl
theorem Ue(a b:ae)(ht:ch a<=bm):Pf a b=some (lR a b):=by
 refine eP (F:=HY) (fun x=>ch x.1) (fun x=>ch x.1<=bm) (fun x=>lR x.1 x.2) (fun R x hx ih=>?_) (a,b) ht (eg ht)
 obtain⟨a,b⟩:=x
 have hl:ch a<=bm:=hx
 show BN (fun a a2=>R (a,a2)) a b=some (lR a b)
 unfold BN Eh Ei
 have h1:=fD a
 rw[qaD]
 by_cases e1:a.Op=b.Op
 ·by_cases e2:a.Name=b.Name
  ·by_cases e3:a.Args.length=b.Args.length
   ·rw[vae (by simp[e1]),vae (by simp[e2])]
    simp only[vaa]
    rw[vae (by simp[e3]),TL (X:=Unit⊕Unit) e3 (by unfold bm at hl;omega) (fun zz=>zG (fun a a2=>R (a,a2)) a b (a.Args.length:Int) zz) (fun i y z=>(R (y,z)).bind fun r11=>if(!r11)=true then some (.inr (.inl ()))else some (.inl (aS (i+1)))) lR (.inl ()) (.inr ()) (fun i=>rfl) (fun y hy z hz i=>by
     have he:=ih (y,z) (gB hy) (by have:=gB hy;show ch y<=bm;omega)
     rw[he]
     show(if(!lR y z)=true then _ else _)=_
     cases lR y z<;>rfl)]
    simp only[vaa,e1,e2,decide_true,Bool.true_and]
    cases Du lR a.Args b.Args<;>rfl
   ·rw[vae (by simp[e1]),vae (by simp[e2])]
    simp only[vaa]
    rw[vad (by simp;omega),ZM e3]
    simp
  ·rw[vae (by simp[e1]),vad (by simp[e2])]
   simp[e2]
 ·rw[vad (by simp[e1])]
  simp[e1]
theorem QR{α σ τ X:Type}(l:List α)(hl:l.length<9223372036854775808)(mk:Int->σ->τ)(body:τ->Option (τ⊕X))(I:Nat->σ->Prop)(g:Nat->α->σ->σ)(e:σ->X)(s0:σ)(h0:I 0 s0)
  (hin:∀(i:Nat) (h:i<l.length) s,I i s->body (mk (i:Int) s)=some (.inl (mk (aS ((i:Int)+1)) (g i l[i] s)))/\I (i+1) (g i l[i] s)) (hend:∀s,I l.length s->body (mk (l.length:Int) s)=some (.inr (e s))):loop body (mk 0 s0)=some (e (rI g l 0 s0)):=by
 have:=kQ l hl mk body I (fun i x s=>.inl (g i x s)) e (fun i h s hs=>⟨(hin i h s hs).1,fun s' hs'=>by cases hs';exact(hin i h s hs).2⟩) hend 0 s0 (vaN _) h0
 rw[vaV,show((0:Nat):Int)=0 from rfl]at this
 rw[this]
 have key:∀(l:List α) (i:Nat) (s:σ),nc (fun i x (s:σ)=>(Sum.inl (g i x s):σ⊕X)) e l i s=e (rI g l i s):=by
  intro l
  induction l with
  |nil=>intro i s;rfl
  |cons x l ih=>intro i s;unfold nc;simp only;rw[ih];rfl
 rw[key]
mutual
def vQ:ae->ae
 |⟨o,n,xs,_,_,_⟩=>⟨o,n,Fw xs,[],gU,[]⟩
def Fw:List ae->List ae
 |[]=>[]
 |t::l=>vQ t::Fw l
end
theorem XT:∀(l:List ae),Fw l=l.map vQ
 |[]=>by rw[Fw];rfl
 |t::l=>by rw[Fw,XT l];rfl
theorem IR(t:ae):vQ t=⟨t.Op,t.Name,t.Args.map vQ,[],gU,[]⟩:=by obtain⟨o,n,xs,ns,p,ps⟩:=t;rw[vQ,XT];rfl
theorem TX(t:ae)(h:ch t<=bm):zp t=some (vQ t):=by
 refine eP (F:=Ar) ch (fun t=>ch t<=bm) vQ (fun R t ht ih=>?_) t h (eg h)
 show ue (fun t=>R t) t=some (vQ t)
 unfold ue yr
 have h1:=fD t
 unfold bm at ht
 rw[qv t.Args (by omega) (fun i s=>(i,s)) _ R vQ id (fun i s=>rfl) (fun x hx=>ih x (gB hx) (by have:=gB hx;unfold bm;omega)),IR]
 rfl
theorem qca(t:ae)(h:ch t<=bm):Lm t=some (vQ t):=by
 refine eP (F:=Ef) ch (fun t=>ch t<=bm) vQ (fun R t ht ih=>?_) t h (eg h)
 show yQ (fun t=>R t) t=some (vQ t)
 unfold yQ BM
 have h1:=fD t
 unfold bm at ht
 rw[qv t.Args (by omega) (fun i s=>(i,s)) _ R vQ id (fun i s=>rfl) (fun x hx=>ih x (gB hx) (by have:=gB hx;unfold bm;omega)),IR]
 rfl
def FQ(t:ae):af×Bool:=(GI t).getD ([],false)
theorem Ri(t:ae):GI t=some (FQ t):=by
 unfold FQ GI
 by_cases h1:(t.Op==1)=true
 ·rw[vad h1];rfl
 ·rw [vae h1]
  by_cases h2:(t.Op==2)=true
  ·rw[vad h2];rfl
  ·rw [vae h2]
   by_cases h3:(t.Op==3)=true
   ·rw[vad h3];rfl
   ·rw[vae h3]
    by_cases h4:(t.Op==4)=true
    ·rw[vad h4]
     by_cases h5:((t.Args.length:Int)==0)=true
     ·rw[vad h5];rfl
     ·rw[vae h5];rfl
    ·rw[vae h4];rfl
theorem qei(t:ae):YB t=some (FQ t):=by
 rw[<-Ri];rfl
def W4(t:ae)(q:aa):aa:=if t.Op=6\/t.Pred=gU then qC else G6 (M1 [118] q) t.Pred
theorem Zq(t:ae)(q:aa)(h:nP t.Pred<=bm)(hq:nP q<=bm):tv t q=some (W4 t q):=by
 unfold tv Ao CX W4
 by_cases h6:t.Op=6
 ·rw[vad (by simpa using h6),vad (.inl h6)];rfl
 ·rw[vae (by simpa using h6),show j3 t.Pred (⟨0,[],0,[]⟩:aa)=some (decide (t.Pred=gU))from KZ t.Pred gU h]
  simp only[vaa]
  by_cases hz:t.Pred=gU
  ·rw[vad (by simpa using hz),vad (.inr hz)];rfl
  ·rw[vae (by simpa using hz),vae (by simp[h6,hz]),T0 _ _ _ h hq];rfl
theorem qec(t:ae)(q:aa)(h:nP t.Pred<=bm):PF t q=some (W4 t q):=by
 unfold PF LI W4
 by_cases h6:t.Op=6
 ·rw[vad (by simpa using h6),vad (.inl h6)];rfl
 ·rw[vae (by simpa using h6),MB]
  simp only[vaa]
  by_cases hz:t.Pred=gU
  ·rw[vad (by simpa using hz),vad (.inr hz)];rfl
  ·rw[vae (by simpa using hz),vae (by simp[h6,hz]),T6 _ _ _ h];rfl
theorem qaF(f:af->Option aa)(hf:∀n q,f n=some q->nP q=1):∀(p:aa),nP (G6 f p)<=nP p:=fun p=>by
 have:=qgm f 1 (vah 1) (fun n q h=>by rw[hf n q h];exact vah 1) p
 omega
theorem T2{v x n:af}{q:aa}(h:M1 v (lT x) n=some q):nP q=1:=by
 unfold M1 at h
 split at h
 ·cases h;rfl
 ·cases h
theorem qcI(t:ae)(x:af):nP (W4 t (lT x))<=nP t.Pred:=by
 unfold W4
 split
 ·rename_i h
  have:=VP t.Pred
  show 1<=_
  omega
 ·exact qaF _ (fun n q h=>T2 h) _
def iE(m:aG)(name:af):ed×Bool:=(m.Datas.find? (fun d=>d.Name==name)).elim (⟨[],[],[],[]⟩,false) (fun d=>(d,true))
abbrev T4:Type:=af×List af×List cM×List eh
theorem L1{α β:Type}(p:α->Bool)(f:α->β):∀(l:List α),l.findSome? (fun x=>if p x=true then some (f x)else none)=(l.find? p).map f
 |[]=>rfl
 |x::l=>by
  rw[List.findSome?_cons,List.find?_cons]
  cases h:p x with
  |true=>rfl
  |false=>simpa using L1 p f l
theorem qdR(m:aG)(name:af)(h1:m.Datas.length<9223372036854775808):zn m name=some (iE m name):=by
 unfold zn yp iE
 have:=QP m.Datas h1 (fun i=>(i,[],[],[],[])) (fun(zz:Int×af×(List af)×(List cM)×(List eh))=>fQ name m.Datas (m.Datas.length:Int) zz.1 zz.2.1 zz.2.2.1 zz.2.2.2.1 zz.2.2.2.2)
  (fun d=>if(d.Name==name)=true then some (Sum.inl (d.Name,d.Vars,d.Preds,d.Cons):T4⊕T4)else none) (.inr ([],[],[],[])) (fun i hi=>?_) ?_
 ·rw[this]
  simp only[vaa]
  rw[show m.Datas.findSome? (fun d=>if(d.Name==name)=true then some (Sum.inl (d.Name,d.Vars,d.Preds,d.Cons):T4⊕T4)else none)=_ from L1 (fun d:ed=>d.Name==name) (fun d=>(Sum.inl (d.Name,d.Vars,d.Preds,d.Cons):T4⊕T4)) m.Datas]
  cases m.Datas.find? (fun d=>d.Name==name)<;>rfl
 ·show fQ name m.Datas (m.Datas.length:Int) (i:Int) [] [] [] []=_
  unfold fQ
  rw[vad (by simp;omega),bp _ i hi]
  simp only[vaa]
  by_cases hn:(m.Datas[i].Name==name)=true<;>simp[hn]
 ·show fQ name m.Datas (m.Datas.length:Int) (m.Datas.length:Int) [] [] [] []=_
  unfold fQ
  rw[vae (by simp)]
theorem qed(m:aG)(name:af)(h1:m.Datas.length<9223372036854775808):Jo m name=some (iE m name):=by
 unfold Jo Es iE
 have:=QP m.Datas h1 (fun i=>(i,[],[],[],[])) (fun(zz:Int×af×(List af)×(List cM)×(List eh))=>jj name m zz.1 zz.2.1 zz.2.2.1 zz.2.2.2.1 zz.2.2.2.2)
  (fun d=>if(d.Name==name)=true then some (Sum.inl (d.Name,d.Vars,d.Preds,d.Cons):T4⊕T4)else none) (.inr ([],[],[],[])) (fun i hi=>?_) ?_
 ·rw[this]
  simp only[vaa]
  rw[show m.Datas.findSome? (fun d=>if(d.Name==name)=true then some (Sum.inl (d.Name,d.Vars,d.Preds,d.Cons):T4⊕T4)else none)=_ from L1 (fun d:ed=>d.Name==name) (fun d=>(Sum.inl (d.Name,d.Vars,d.Preds,d.Cons):T4⊕T4)) m.Datas]
  cases m.Datas.find? (fun d=>d.Name==name)<;>rfl
 ·show jj name m (i:Int) [] [] [] []=_
  unfold jj
  rw[vad (by simp;omega),bp _ i hi]
  simp only[vaa]
  by_cases hn:(m.Datas[i].Name==name)=true<;>simp[hn]
 ·show jj name m (m.Datas.length:Int) [] [] [] []=_
  unfold jj
  rw[vae (by simp)]
theorem Iw(m:aG)(name:af)(B:Nat)(h:∀d∈m.Datas,d.Preds.length<=B):(iE m name).1.Preds.length<=B:=by
 unfold iE
 cases hf:m.Datas.find? (fun d=>d.Name==name)with
 |none=>exact vaN _
 |some d=>exact h d (vbl hf)
theorem qb1(a b:ae)(ht:ch a<=bm):I8 a b=some (lR a b):=by
 refine eP (F:=C5) (fun x=>ch x.1) (fun x=>ch x.1<=bm) (fun x=>lR x.1 x.2) (fun R x hx ih=>?_) (a,b) ht (eg ht)
 obtain⟨a,b⟩:=x
 have hl:ch a<=bm:=hx
 show wA (fun a a2=>R (a,a2)) a b=some (lR a b)
 unfold wA As At
 have h1:=fD a
 rw[qaD]
 by_cases e1:a.Op=b.Op
 ·by_cases e2:a.Name=b.Name
  ·by_cases e3:a.Args.length=b.Args.length
   ·rw[vae (by simp[e1]),vae (by simp[e2])]
    simp only[vaa]
    rw[vae (by simp[e3]),TL (X:=Unit⊕Unit) e3 (by unfold bm at hl;omega) (fun zz=>vK (fun a a2=>R (a,a2)) a b (a.Args.length:Int) zz) (fun i y z=>(R (y,z)).bind fun r11=>if(!r11)=true then some (.inr (.inl ()))else some (.inl (aS (i+1)))) lR (.inl ()) (.inr ()) (fun i=>rfl) (fun y hy z hz i=>by
     have he:=ih (y,z) (gB hy) (by have:=gB hy;show ch y<=bm;omega)
     rw[he]
     show(if(!lR y z)=true then _ else _)=_
     cases lR y z<;>rfl)]
    simp only[vaa,e1,e2,decide_true,Bool.true_and]
    cases Du lR a.Args b.Args<;>rfl
   ·rw[vae (by simp[e1]),vae (by simp[e2])]
    simp only[vaa]
    rw[vad (by simp;omega),ZM e3]
    simp
  ·rw[vae (by simp[e1]),vad (by simp[e2])]
   simp[e2]
 ·rw[vad (by simp[e1])]
  simp[e1]
theorem qiC(o:Int)(ns:List af)(i:Nat)(s:S3):(Da o ns i s).2.2.length=s.2.2.length:=by
 unfold Da
 split
 ·split
  ·simp only[vbq]
  ·rfl
 ·rfl
mutual
theorem qah:∀(t:ae) (c:Sb),ch (AR t c)=ch t
 |⟨o,n,xs,ns,p,ps⟩,c=>by
  obtain⟨h1,h2⟩:=qaf o ns xs 0 (((kB c).flatMap ec++freeT ⟨o,n,xs,ns,p,ps⟩)++ns,c,ns)
  rw[AR,ch,ch,h1,h2,vaF]
theorem qaf(o:Int)(ns:List af):∀(xs:List ae) (i:Nat) (s:S3),dw (N9 o ns i xs s).1=dw xs/\(N9 o ns i xs s).2.length=s.2.2.length
 |[],i,s=>by rw[N9];exact⟨rfl,rfl⟩
 | a :: xs,i,s => by
  have h1:=qah a s.2.1
  obtain⟨h2,h3⟩:=qaf o ns xs (i+1) (Da o ns i s)
  rw[N9]
  refine⟨?_,?_⟩
  ·show dw (AR a s.2.1::(N9 o ns (i+1) xs (Da o ns i s)).1)=_
   rw[dw,dw,h1,h2]
  ·show(N9 o ns (i+1) xs (Da o ns i s)).2.length=_
   rw[h3,qiC]
end
def S9(c:Sb):Prop:=∀e∈c,nP e.2=1
theorem Uh{c:Sb}(h:S9 c)(x:af):S9 (db x c):=fun e he=>h e (vaR.1 he).1
theorem qch{c:Sb}(h:S9 c)(x y:af):S9 (c++[(x,lT y)]):=fun e he=>by
 rcases vaE.1 he with he|he
 ·exact h e he
 ·rw[va4.1 he];exact Fo y
theorem qeq(o:Int)(ns:List af)(i:Nat)(s:S3)(h:S9 s.2.1):S9 (Da o ns i s).2.1:=by
 unfold Da
 split
 ·split
  ·exact qch (Uh h _) _ _
  ·exact Uh h _
 ·exact h
theorem Ui{c:Sb}(h:S9 c){n:af}{q:aa}(hq:pu (kN c) (kB c) n=some q):nP q=1:=by
 have:=qdv hq
 obtain⟨e,he,rfl⟩:=vaq.1 this
 exact h e he
mutual
theorem Yk(f:af->Option aa)(hf:∀n q,f n=some q->nP q=1):∀(p:aa),(∀q,nP q=1->True)->nP (G6 f p)<=nP p
 | ⟨o,n,k,ks⟩,hh => by
  have:=Rx f hf ks
  rw[G6]
  cases h:(if o=3 then f n else none)with
  |none=>simp only[Option.getD_none];rw[nP,nP];omega
  | some q =>
   simp only[Option.getD_some]
   have h2:f n=some q:=by
    split at h
    ·exact h
    ·cases h
   rw[hf n q h2,nP];omega
theorem Rx(f:af->Option aa)(hf:∀n q,f n=some q->nP q=1):∀(l:List aa),nL (qaE f l)<=nL l
 |[]=>by rw[qaE];omega
 |p::l=>by
  have:=Yk f hf p (fun _ _=>trivial)
  have:=Rx f hf l
  rw[qaE,nL,nL];omega
end
mutual
theorem qgt:∀(t:ae) (c:Sb),S9 c->wT (AR t c)<=wT t
 |⟨o,n,xs,ns,p,ps⟩,c,h=>by
  have h1:=qgs o ns xs 0 (((kB c).flatMap ec++freeT ⟨o,n,xs,ns,p,ps⟩)++ns,c,ns) h
  have h2:=Yk (pu (kN c) (kB c)) (fun _ _ hq=>Ui h hq) p (fun _ _=>trivial)
  have h3:=Rx (pu (kN c) (kB c)) (fun _ _ hq=>Ui h hq) ps
  rw[Wb]at h3
  rw[AR,wT,wT]
  omega
theorem qgs(o:Int)(ns:List af):∀(xs:List ae) (i:Nat) (s:S3),S9 s.2.1->uQ (N9 o ns i xs s).1<=uQ xs
 |[],i,s,_=>by rw[N9];exact vah _
 |a::xs,i,s,h=>by
  have h1:=qgt a s.2.1 h
  have h2:=qgs o ns xs (i+1) (Da o ns i s) (qeq o ns i s h)
  rw[N9]
  show uQ (AR a s.2.1::(N9 o ns (i+1) xs (Da o ns i s)).1)<=_
  rw[uQ,uQ];omega
end
theorem qa8{L:Nat}(o:Int)(ns:List af)(i:Nat)(s:S3)(h:∀x∈ns,x.length<=L)(hw:∀x∈s.2.2,x.length<=L+10):∀x∈(Da o ns i s).2.2,x.length<=L+10:=by
 unfold Da
 split
 ·rename_i hc
  split
  ·intro x hx
   rcases vcj hx with hx|hx
   ·exact hw x hx
   ·have h1:=Y7 s.1 (ns.getD i [])
    have h2:(ns.getD i []).length<=L:=by rw[CB _ i hc.2];exact h _ (vak hc.2)
    rw[hx];omega
  ·exact hw
 ·exact hw
mutual
theorem ZO(L:Nat):∀(t:ae) (c:Sb),yu L t->yu (L+10) (AR t c)
 |⟨o,n,xs,ns,p,ps⟩,c,h=>by
  rw[yu]at h
  obtain⟨h1,h2⟩:=WZ L o ns h.1 xs 0 (((kB c).flatMap ec++freeT ⟨o,n,xs,ns,p,ps⟩)++ns,c,ns) (fun x hx=>vaI (h.1 x hx) (by omega)) h.2
  rw[AR,yu]
  exact⟨h2,h1⟩
theorem WZ(L:Nat)(o:Int)(ns:List af)(hn:∀x∈ns,x.length<=L):∀(xs:List ae) (i:Nat) (s:S3),(∀x∈s.2.2,x.length<=L+10)->vM L xs->vM (L+10) (N9 o ns i xs s).1/\∀x∈(N9 o ns i xs s).2,x.length<=L+10
 |[],i,s,hw,_=>by rw[N9];exact⟨trivial,hw⟩
 |a::xs,i,s,hw,h=>by
  rw[vM]at h
  have h1:=ZO L a s.2.1 h.1
  obtain⟨h2,h3⟩:=WZ L o ns hn xs (i+1) (Da o ns i s) (qa8 o ns i s hn hw) h.2
  rw[N9]
  refine⟨?_,h3⟩
  show vM (L+10) (AR a s.2.1::(N9 o ns (i+1) xs (Da o ns i s)).1)
  rw[vM]
  exact⟨h1,h2⟩
end
theorem qci(x y:af):S9 (sn x (lT y)):=by
 unfold sn
 split
 ·intro e he;cases he
 ·intro e he
  rw[va4.1 he];exact Fo y
end Go.Proofs.YtbaamopmfmpfaaaGreatDoor
