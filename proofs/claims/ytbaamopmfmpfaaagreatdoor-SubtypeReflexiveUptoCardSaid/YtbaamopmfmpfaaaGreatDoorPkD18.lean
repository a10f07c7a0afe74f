/- PROVED: a part of the proof. Conditions: none. -/
import Derived.Test.YtbaamopmfmpfaaaGreatDoorPkD17
noncomputable section
namespace Go.Proofs.YtbaamopmfmpfaaaGreatDoor
open Go
set_option linter.unusedVariables false
set_option linter.unusedSimpArgs false
theorem Ks{α σ τ X:Type}(l:List α)(hl:l.length<9223372036854775808)(mk:Int->σ->τ)(body:τ->Option (τ⊕X))(I:Nat->σ->Prop)(g:Nat->α->σ->σ)(e:σ->X)(s0:σ)(h0:I 0 s0)
  (hin:∀(i:Nat) (h:i<l.length) s,I i s->body (mk (i:Int) s)=some (.inl (mk (aO ((i:Int)+1)) (g i l[i] s)))/\I (i+1) (g i l[i] s)) (hend:∀s,I l.length s->body (mk (l.length:Int) s)=some (.inr (e s))):loop body (mk 0 s0)=some (e (px g l 0 s0)):=by
 have:=oT l hl mk body I (fun i x s=>.inl (g i x s)) e (fun i h s hs=>⟨(hin i h s hs).1,fun s' hs'=>by cases hs';exact(hin i h s hs).2⟩) hend 0 s0 (vaP _) h0
 rw[va6,show((0:Nat):Int)=0 from rfl]at this
 rw[this]
 have key:∀(l:List α) (i:Nat) (s:σ),pr (fun i x (s:σ)=>(Sum.inl (g i x s):σ⊕X)) e l i s=e (px g l i s):=by
  intro l
  induction l with
  |nil=>intro i s;rfl
  |cons x l ih=>intro i s;unfold pr;simp only;rw[ih];rfl
 rw[key]
mutual
def ur:ae->ae
 |⟨o,n,xs,_,_,_⟩=>⟨o,n,AT xs,[],ic,[]⟩
def AT:List ae->List ae
 |[]=>[]
 |t::l=>ur t::AT l
end
theorem Qm:∀(l:List ae),AT l=l.map ur
 |[]=>by rw[AT];rfl
 |t::l=>by rw[AT,Qm l];rfl
theorem Gx(t:ae):ur t=⟨t.Op,t.Name,t.Args.map ur,[],ic,[]⟩:=by obtain⟨o,n,xs,ns,p,ps⟩:=t;rw[ur,Qm];rfl
theorem M3(t:ae)(h:cq t<=bk):vA t=some (ur t):=by
 refine jl (F:=ws) cq (fun t=>cq t<=bk) ur (fun R t ht ih=>?_) t h (fq h)
 show qE (fun t=>R t) t=some (ur t)
 unfold qE um
 have h1:=gX t
 unfold bk at ht
 rw[sW t.Args (by omega) (fun i s=>(i,s)) _ R ur id (fun i s=>rfl) (fun x hx=>ih x (ig hx) (by have:=ig hx;unfold bk;omega)),Gx]
 rfl
def DN(t:ae):ag×Bool:=(BU t).getD ([],false)
theorem Qy(t:ae):BU t=some (DN t):=by
 unfold DN BU
 by_cases h1:(t.Op==1)=true
 ·rw[vaj h1];rfl
 ·rw [van h1]
  by_cases h2:(t.Op==2)=true
  ·rw[vaj h2];rfl
  ·rw [van h2]
   by_cases h3:(t.Op==3)=true
   ·rw[vaj h3];rfl
   ·rw[van h3]
    by_cases h4:(t.Op==4)=true
    ·rw[vaj h4]
     by_cases h5:((t.Args.length:Int)==0)=true
     ·rw[vaj h5];rfl
     ·rw[van h5];rfl
    ·rw[van h4];rfl
def Q6(t:ae)(q:aa):aa:=if t.Op=6\/t.Pred=ic then n7 else Hk (KP [118] q) t.Pred
theorem R3(t:ae)(q:aa)(h:nP t.Pred<=bk)(hq:nP q<=bk):qa t q=some (Q6 t q):=by
 unfold qa wo yt Q6
 by_cases h6:t.Op=6
 ·rw[vaj (by simpa using h6),vaj (.inl h6)];rfl
 ·rw[van (by simpa using h6),show iZ t.Pred (⟨0,[],0,[]⟩:aa)=some (decide (t.Pred=ic))from Fe t.Pred ic h]
  simp only[vaa]
  by_cases hz:t.Pred=ic
  ·rw[vaj (by simpa using hz),vaj (.inr hz)];rfl
  ·rw[van (by simpa using hz),van (by simp[h6,hz]),M5 _ _ _ h hq];rfl
theorem Tm(f:ag->Option aa)(hf:∀n q,f n=some q->nP q=1):∀(p:aa),nP (Hk f p)<=nP p:=fun p=>by
 have:=YX f 1 (vah 1) (fun n q h=>by rw[hf n q h];exact vah 1) p
 omega
theorem M7{v x n:ag}{q:aa}(h:KP v (nK x) n=some q):nP q=1:=by
 unfold KP at h
 split at h
 ·cases h;rfl
 ·cases h
theorem Vi(t:ae)(x:ag):nP (Q6 t (nK x))<=nP t.Pred:=by
 unfold Q6
 split
 ·rename_i h
  have:=OJ t.Pred
  show 1<=_
  omega
 ·exact Tm _ (fun n q h=>M7 h) _
def kS(m:aR)(name:ag):eV×Bool:=(m.Datas.find? (fun d=>d.Name==name)).elim (⟨[],[],[],[]⟩,false) (fun d=>(d,true))
abbrev T4:Type:=ag×List ag×List dc×List iv
theorem ME{α β:Type}(p:α->Bool)(f:α->β):∀(l:List α),l.findSome? (fun x=>if p x=true then some (f x)else none)=(l.find? p).map f
 |[]=>rfl
 |x::l=>by
  rw[List.findSome?_cons,List.find?_cons]
  cases h:p x with
  |true=>rfl
  |false=>simpa using ME p f l
theorem Ww(m:aR)(name:ag)(h1:m.Datas.length<9223372036854775808):vq m name=some (kS m name):=by
 unfold vq uk kS
 have:=RU m.Datas h1 (fun i=>(i,[],[],[],[])) (fun(zz:Int×ag×(List ag)×(List dc)×(List iv))=>fa name m.Datas (m.Datas.length:Int) zz.1 zz.2.1 zz.2.2.1 zz.2.2.2.1 zz.2.2.2.2)
  (fun d=>if(d.Name==name)=true then some (Sum.inl (d.Name,d.Vars,d.Preds,d.Cons):T4⊕T4)else none) (.inr ([],[],[],[])) (fun i hi=>?_) ?_
 ·rw[this]
  simp only[vaa]
  rw[show m.Datas.findSome? (fun d=>if(d.Name==name)=true then some (Sum.inl (d.Name,d.Vars,d.Preds,d.Cons):T4⊕T4)else none)=_ from ME (fun d:eV=>d.Name==name) (fun d=>(Sum.inl (d.Name,d.Vars,d.Preds,d.Cons):T4⊕T4)) m.Datas]
  cases m.Datas.find? (fun d=>d.Name==name)<;>rfl
 ·show fa name m.Datas (m.Datas.length:Int) (i:Int) [] [] [] []=_
  unfold fa
  rw[vaj (by simp;omega),bj _ i hi]
  simp only[vaa]
  by_cases hn:(m.Datas[i].Name==name)=true<;>simp[hn]
 ·show fa name m.Datas (m.Datas.length:Int) (m.Datas.length:Int) [] [] [] []=_
  unfold fa
  rw[van (by simp)]
theorem JR(m:aR)(name:ag)(B:Nat)(h:∀d∈m.Datas,d.Preds.length<=B):(kS m name).1.Preds.length<=B:=by
 unfold kS
 cases hf:m.Datas.find? (fun d=>d.Name==name)with
 |none=>exact vaP _
 |some d=>exact h d (vbj hf)
theorem UJ(a b:ae)(ht:cq a<=bk):DT a b=some (zc a b):=by
 refine jl (F:=yC) (fun x=>cq x.1) (fun x=>cq x.1<=bk) (fun x=>zc x.1 x.2) (fun R x hx ih=>?_) (a,b) ht (fq ht)
 obtain⟨a,b⟩:=x
 have hl:cq a<=bk:=hx
 show sS (fun a a2=>R (a,a2)) a b=some (zc a b)
 unfold sS wt wu
 have h1:=gX a
 rw[Yg]
 by_cases e1:a.Op=b.Op
 ·by_cases e2:a.Name=b.Name
  ·by_cases e3:a.Args.length=b.Args.length
   ·rw[van (by simp[e1]),van (by simp[e2])]
    simp only[vaa]
    rw[van (by simp[e3]),Uh (X:=Unit⊕Unit) e3 (by unfold bk at hl;omega) (fun zz=>rS (fun a a2=>R (a,a2)) a b (a.Args.length:Int) zz) (fun i y z=>(R (y,z)).bind fun r11=>if(!r11)=true then some (.inr (.inl ()))else some (.inl (aO (i+1)))) zc (.inl ()) (.inr ()) (fun i=>rfl) (fun y hy z hz i=>by
     have he:=ih (y,z) (ig hy) (by have:=ig hy;show cq y<=bk;omega)
     rw[he]
     show(if(!zc y z)=true then _ else _)=_
     cases zc y z<;>rfl)]
    simp only[vaa,e1,e2,decide_true,Bool.true_and]
    cases Am zc a.Args b.Args<;>rfl
   ·rw[van (by simp[e1]),van (by simp[e2])]
    simp only[vaa]
    rw[vaj (by simp;omega),Xo e3]
    simp
  ·rw[van (by simp[e1]),vaj (by simp[e2])]
   simp[e2]
 ·rw[vaj (by simp[e1])]
  simp[e1]
theorem qaZ(o:Int)(ns:List ag)(i:Nat)(s:S3):(Cw o ns i s).2.2.length=s.2.2.length:=by
 unfold Cw
 split
 ·split
  ·simp only[vbv]
  ·rfl
 ·rfl
mutual
theorem SX:∀(t:ae) (c:Sb),cq (B8 t c)=cq t
 |⟨o,n,xs,ns,p,ps⟩,c=>by
  obtain⟨h1,h2⟩:=SW o ns xs 0 (((kB c).flatMap kU++freeT ⟨o,n,xs,ns,p,ps⟩)++ns,c,ns)
  rw[B8,cq,cq,h1,h2,vaL]
theorem SW(o:Int)(ns:List ag):∀(xs:List ae) (i:Nat) (s:S3),cG (Ib o ns i xs s).1=cG xs/\(Ib o ns i xs s).2.length=s.2.2.length
 |[],i,s=>by rw[Ib];exact⟨rfl,rfl⟩
 | a :: xs,i,s => by
  have h1:=SX a s.2.1
  obtain⟨h2,h3⟩:=SW o ns xs (i+1) (Cw o ns i s)
  rw[Ib]
  refine⟨?_,?_⟩
  ·show cG (B8 a s.2.1::(Ib o ns (i+1) xs (Cw o ns i s)).1)=_
   rw[cG,cG,h1,h2]
  ·show(Ib o ns (i+1) xs (Cw o ns i s)).2.length=_
   rw[h3,qaZ]
end
def Mi(c:Sb):Prop:=∀e∈c,nP e.2=1
theorem Nh{c:Sb}(h:Mi c)(x:ag):Mi (fm x c):=fun e he=>h e (vaS.1 he).1
theorem UT{c:Sb}(h:Mi c)(x y:ag):Mi (c++[(x,nK y)]):=fun e he=>by
 rcases vaD.1 he with he|he
 ·exact h e he
 ·rw[va2.1 he];exact AM y
theorem WZ(o:Int)(ns:List ag)(i:Nat)(s:S3)(h:Mi s.2.1):Mi (Cw o ns i s).2.1:=by
 unfold Cw
 split
 ·split
  ·exact UT (Nh h _) _ _
  ·exact Nh h _
 ·exact h
theorem Ni{c:Sb}(h:Mi c){n:ag}{q:aa}(hq:tU (kN c) (kB c) n=some q):nP q=1:=by
 have:=Wa hq
 obtain⟨e,he,rfl⟩:=vap.1 this
 exact h e he
mutual
theorem QL(f:ag->Option aa)(hf:∀n q,f n=some q->nP q=1):∀(p:aa),(∀q,nP q=1->True)->nP (Hk f p)<=nP p
 | ⟨o,n,k,ks⟩,hh => by
  have:=KW f hf ks
  rw[Hk]
  cases h:(if o=3 then f n else none)with
  |none=>simp only[Option.getD_none];rw[nP,nP];omega
  | some q =>
   simp only[Option.getD_some]
   have h2:f n=some q:=by
    split at h
    ·exact h
    ·cases h
   rw[hf n q h2,nP];omega
theorem KW(f:ag->Option aa)(hf:∀n q,f n=some q->nP q=1):∀(l:List aa),nL (Tl f l)<=nL l
 |[]=>by rw[Tl];omega
 |p::l=>by
  have:=QL f hf p (fun _ _=>trivial)
  have:=KW f hf l
  rw[Tl,nL,nL];omega
end
mutual
theorem Y2:∀(t:ae) (c:Sb),Mi c->wT (B8 t c)<=wT t
 |⟨o,n,xs,ns,p,ps⟩,c,h=>by
  have h1:=Y1 o ns xs 0 (((kB c).flatMap kU++freeT ⟨o,n,xs,ns,p,ps⟩)++ns,c,ns) h
  have h2:=QL (tU (kN c) (kB c)) (fun _ _ hq=>Ni h hq) p (fun _ _=>trivial)
  have h3:=KW (tU (kN c) (kB c)) (fun _ _ hq=>Ni h hq) ps
  rw[OY]at h3
  rw[B8,wT,wT]
  omega
theorem Y1(o:Int)(ns:List ag):∀(xs:List ae) (i:Nat) (s:S3),Mi s.2.1->sY (Ib o ns i xs s).1<=sY xs
 |[],i,s,_=>by rw[Ib];exact vah _
 |a::xs,i,s,h=>by
  have h1:=Y2 a s.2.1 h
  have h2:=Y1 o ns xs (i+1) (Cw o ns i s) (WZ o ns i s h)
  rw[Ib]
  show sY (B8 a s.2.1::(Ib o ns (i+1) xs (Cw o ns i s)).1)<=_
  rw[sY,sY];omega
end
theorem TK{L:Nat}(o:Int)(ns:List ag)(i:Nat)(s:S3)(h:∀x∈ns,x.length<=L)(hw:∀x∈s.2.2,x.length<=L+10):∀x∈(Cw o ns i s).2.2,x.length<=L+10:=by
 unfold Cw
 split
 ·rename_i hc
  split
  ·intro x hx
   rcases vce hx with hx|hx
   ·exact hw x hx
   ·have h1:=RF s.1 (ns.getD i [])
    have h2:(ns.getD i []).length<=L:=by rw[IH _ i hc.2];exact h _ (vat hc.2)
    rw[hx];omega
  ·exact hw
 ·exact hw
mutual
theorem Sv(L:Nat):∀(t:ae) (c:Sb),uv L t->uv (L+10) (B8 t c)
 |⟨o,n,xs,ns,p,ps⟩,c,h=>by
  rw[uv]at h
  obtain⟨h1,h2⟩:=Py L o ns h.1 xs 0 (((kB c).flatMap kU++freeT ⟨o,n,xs,ns,p,ps⟩)++ns,c,ns) (fun x hx=>vaH (h.1 x hx) (by omega)) h.2
  rw[B8,uv]
  exact⟨h2,h1⟩
theorem Py(L:Nat)(o:Int)(ns:List ag)(hn:∀x∈ns,x.length<=L):∀(xs:List ae) (i:Nat) (s:S3),(∀x∈s.2.2,x.length<=L+10)->rU L xs->rU (L+10) (Ib o ns i xs s).1/\∀x∈(Ib o ns i xs s).2,x.length<=L+10
 |[],i,s,hw,_=>by rw[Ib];exact⟨trivial,hw⟩
 |a::xs,i,s,hw,h=>by
  rw[rU]at h
  have h1:=Sv L a s.2.1 h.1
  obtain⟨h2,h3⟩:=Py L o ns hn xs (i+1) (Cw o ns i s) (TK o ns i s hn hw) h.2
  rw[Ib]
  refine⟨?_,h3⟩
  show rU (L+10) (B8 a s.2.1::(Ib o ns (i+1) xs (Cw o ns i s)).1)
  rw[rU]
  exact⟨h1,h2⟩
end
theorem UU(x y:ag):Mi (Bf x (nK y)):=by
 unfold Bf
 split
 ·intro e he;cases he
 ·intro e he
  rw[va2.1 he];exact AM y
mutual
theorem WH:∀(t:ae) (c:Sb),ur (B8 t c)=ur t
 |⟨o,n,xs,ns,p,ps⟩,c=>by rw[B8,ur,ur,Tb]
theorem Tb:∀(xs:List ae) (o:Int) (ns:List ag) (i:Nat) (s:S3),AT (Ib o ns i xs s).1=AT xs
 |[],o,ns,i,s=>by rw[Ib,AT]
 |a::xs,o,ns,i,s=>by rw[Ib,AT,AT,WH a,Tb xs]
end
mutual
theorem Tk:∀(a b:ae),zc a b=true↔ur a=ur b
 |⟨o,n,xs,ns,p,ps⟩,⟨o',n',xs',ns',p',ps'⟩=>by
  have:=QI xs xs'
  rw[zc,ur,ur]
  simp only[vag,vam,this,ae.mk.injEq,vcI]
theorem QI:∀(a b:List ae),yO a b=true↔AT a=AT b
 |[],[]=>by simp[yO,AT]
 |x::xs,y::ys=>by
  rw[yO,AT,AT,vag,Tk x y,QI xs ys,vbt]
 |[],y::ys=>by simp[yO,AT]
 |x::xs,[]=>by simp[yO,AT]
end
def nT(t:ae):Nat:=cq (ur t)
theorem Wh(t:ae):nT t=cG (t.Args.map ur)+1:=by
 unfold nT;rw[Gx,qw];rfl
mutual
theorem Wi:∀(t:ae),nT t<=cq t
 |⟨o,n,xs,ns,p,ps⟩=>by
  have:=Wg xs
  rw[Wh,cq]
  show cG (xs.map ur)+1<=_
  omega
theorem Wg:∀(l:List ae),cG (l.map ur)<=cG l
 |[]=>by simp[cG]
 |t::l=>by
  have h1:cq (ur t)<=cq t:=Wi t
  have:=Wg l
  rw[vax,cG,cG];omega
end
theorem XR{l:List ae}{x:ae}(h:x∈l):nT x+l.length<=cG (l.map ur)+1:=by
 induction l with
 |nil=>cases h
 | cons y l ih =>
  have hy:1<=nT y:=mP _
  have hl:l.length<=cG (l.map ur):=by have:=BG (l.map ur);rwa[vaL]at this
  rw[vax,cG,vaO]
  show _<=nT y+_+1
  rcases vaA.1 h with rfl|h
  ·omega
  ·have:=ih h;omega
theorem WU{α:Type}(f:α->α)(n:Nat)(hn:n<4611686018427387904)(body:Int×List α->Option ((Int×List α)⊕List α))(P:α->Prop)
  (hin:∀(k:Nat) (w:List α) (h:k<w.length),w.length=n->P w[k]->body ((k:Int),w)=some (.inl (aO ((k:Int)+1),w.set k (f w[k]))))
  (hend:∀w:List α,body ((n:Int),w)=some (.inr w)):∀(j k:Nat) (w:List α),j+k=n->w.length=n->(∀x∈w.drop k,P x)->loop body ((k:Int),w)=some (w.take k++(w.drop k).map f):=by
 intro j
 induction j with
 |zero=>
  intro k w hk hw hP
  have:k=n:=by omega
  subst this
  rw[j5 (hend w),<-hw,vbn,vbY]
  simp
 | succ j ih =>
  intro k w hk hw hP
  have hlt:k<w.length:=by omega
  have hd:=va5 hlt
  rw[pO (hin k w hlt hw (hP _ (by rw[hd];exact vcK))),dA (by omega) (by omega),show((k:Int)+1)=((k+1:Nat):Int) by omega,ih (k+1) (w.set k (f w[k])) (by omega) (by rw[vbv];exact hw) (fun x hx=>?_)]
  ·rw[hd,vax]
   have e1:(w.set k (f w[k])).take (k+1)=w.take k++[f w[k]]:=by
    rw[vaM (by rw[vbv];exact hlt)]
    rw[List.take_set,List.set_eq_of_length_le (by rw[vaN];omega)]
    simp
   have e2:(w.set k (f w[k])).drop (k+1)=w.drop (k+1):=by
    rw[vcG (by omega)]
   rw[e1,e2]
   simp
  ·rw[vcG (by omega)]at hx
   exact hP x (by rw[hd];exact vaX _ hx)
def Fb(l:List ae)(ns:List ag)(i:Nat)(y:ag):List ae:=if i<ns.length then l.take (i+1)++(l.drop (i+1)).map (fun t=>B8 t (Bf (ns.getD i []) (nK y)))else l
theorem S5{t:ae}(x y:ag)(h1:cq t<=10000000)(h2:wT t<=10000000)(h3:uv 1000000000000000 t):XS t (Bf x (nK y)) where
 nd:=Sn _ _
 sz:=by have:=ZX x (nK y);rw[AM]at this;omega
 w:=by omega
 n:=h3
structure okV(t:ae):Prop where
 l:cq t<=10000000
 w:wT t<=10000000
 n:uv 1000000000000000 t
theorem E7(l:List ae)(t:ae)(i:Nat)(y:ag)(hl:l.length<=1073741824)(hi:i<l.length)(h:∀x∈l,okV x)(hn:t.Names.length<=1073741824):i8 l t (i:Int) y=some (Fb l t.Names i y):=by
 unfold i8 Fb
 rw[nQ l hl]
 simp only[vaa]
 by_cases hlt:i<t.Names.length
 ·rw[vaj (by simp;omega),vaj hlt]
  unfold mi
  rw[dA (by omega) (by omega),show((i:Int)+1)=((i+1:Nat):Int) by omega,WU (fun x=>B8 x (Bf (t.Names.getD i []) (nK y))) l.length (by omega) _ okV (fun k w hk hw hP=>?_) (fun w=>?_) (l.length - (i+1)) (i+1) l (by omega) rfl (fun x hx=>h x (List.mem_of_mem_drop hx))]
  ·simp only[vaa]
   rw[RG _ _ (by simp;omega)]
   rfl
  ·show dK (i:Int) y t l.length (k:Int) w=_
   unfold dK
   rw[vaj (by simp;omega),RJ l.length w k (by omega) hk,bj _ i hlt]
   simp only[vaa]
   rw[IH _ i hlt,show(⟨3,y,0,[]⟩:aa)=nK y from rfl,Uu _ _ _ (S5 _ _ hP.l hP.w hP.n)]
   simp only[vaa]
   rw[W1 w k _ hk]
   rfl
  ·show dK (i:Int) y t l.length (l.length:Int) w=_
   unfold dK
   rw[van (by simp)]
 ·rw[van (by simp;omega),van hlt,RG _ _ rfl]
  rfl
def Ej(t:ae):Bool:=decide (t.Op=1)||(decide (t.Op=2)||(decide (t.Op=3)||decide (t.Op=4)))
theorem Qh(t:ae):jp t=some (Ej t):=by
 unfold jp Ej
 by_cases h1:t.Op=1
 ·rw[vaj (by simpa using h1)];simp[h1]
 ·rw[van (by simpa using h1)]
  by_cases h2:t.Op=2
  ·rw[vaj (by simpa using h2)];simp[h2]
  ·rw[van (by simpa using h2)]
   by_cases h3:t.Op=3
   ·rw[vaj (by simpa using h3)];simp[h3]
   ·rw[van (by simpa using h3)]
    by_cases h4:t.Op=4<;>simp[h1,h2,h3,h4]
def G1(t:ae)(x:ag)(c:ak):ak:=if Ej t=true then LV x (DN (ur t)).1 (Q6 t (nK x)) c else c
theorem Wr(t:ae)(x:ag)(c:ak)(h:cq t<=bk)(hp:nP t.Pred<=bk):sR t x c=some (G1 t x c):=by
 unfold sR G1
 rw[Qh]
 simp only[vaa]
 cases hb:Ej t with
 |false=>rfl
 |true=>
  rw[van (by simp),vaj rfl,M3 t h]
  simp only[vaa]
  rw[Qy,show(⟨3,x,0,[]⟩:aa)=nK x from rfl]
  simp only[vaa]
  rw[R3 t _ hp (by rw[AM];decide)]
  rfl
def SE(l:List aa)(i:Nat)(x:ag):aa:=(l[i]?).elim n7 (fun p=>if p=ic then n7 else Hk (KP [118] (nK x)) p)
theorem Wz(l:List aa)(i:Nat)(x:ag)(h:∀p∈l,nP p<=bk):uh l (i:Int) (nK x)=some (SE l i x):=by
 unfold uh wr SE
 by_cases hi:i<l.length
 ·rw[van (by simp;omega),bj l i hi,vab hi]
  simp only[vaa]
  have hp:=h _ (vat hi)
  rw[show iZ l[i] (⟨0,[],0,[]⟩:aa)=some (decide (l[i]=ic))from Fe l[i] ic hp]
  simp only[vaa,Option.elim]
  by_cases hz:l[i]=ic
  ·rw[vaj (by simpa using hz),vaj hz,Vf [] (by simp) (by simp)]
   rfl
  ·rw[van (by simpa using hz),van hz,M5 _ _ _ hp (by rw[AM];decide)]
   rfl
 ·rw[vaj (by simp;omega),vau (by omega)]
  simp only[vaa,if_true]
  rw[Vf [] (by simp) (by simp)]
  rfl
theorem YO(l:List aa)(i:Nat)(x:ag):nP (SE l i x)<=(l[i]?).elim 1 nP:=by
 unfold SE
 cases l[i]? with
 |none=>exact vah 1
 | some p =>
  simp only[Option.elim]
  split
  ·exact OJ p
  ·exact Tm _ (fun n q h=>M7 h) _
def RN(tag:Int)(a b:ae)(x:ag):List dc->Nat->List ak
 |[],_=>[]
 |d::ds,i=>LV x d.Sort_ (SE a.Preds i x) (EC (SE b.Preds i x) tag)::RN tag a b x ds (i+1)
theorem PW(tag:Int)(a b:ae)(x:ag):∀(l:List dc) (i:Nat) (s:List ak),px (fun i d s=>s++[LV x d.Sort_ (SE a.Preds i x) (EC (SE b.Preds i x) tag)]) l i s=s++RN tag a b x l i
 |[],i,s=>by rw[px,RN,va4]
 |d::l,i,s=>by rw[px,PW tag a b x l (i+1),RN,va8];rfl
theorem VI(l:List aa)(i:Nat):(l[i]?).elim 1 nP+nL (l.drop (i+1))<=nL (l.drop i)+1:=by
 by_cases h:i<l.length
 ·rw[vab h,va5 h,nL]
  simp only[Option.elim];omega
 ·rw[vau (by omega),vbC (by omega)]
  simp only[Option.elim,nL];omega
theorem YS(tag:Int)(a b:ae)(x:ag):∀(l:List dc) (i:Nat),rE (RN tag a b x l i)<=4 * l.length+nL (a.Preds.drop i)+nL (b.Preds.drop i)
 |[],i=>by rw[RN,rE];omega
 | d :: l,i => by
  have ih:=YS tag a b x l (i+1)
  have h1:=YO a.Preds i x
  have h2:=YO b.Preds i x
  have h3:=VI a.Preds i
  have h4:=VI b.Preds i
  have e:nC (LV x d.Sort_ (SE a.Preds i x) (EC (SE b.Preds i x) tag))=nP (SE a.Preds i x)+(nP (SE b.Preds i x)+1)+1:=by
   simp[nC,rE]
  rw[RN,rE,e,vaO]
  omega
def Ek(m:aR)(tag:Int)(a b:ae)(used:List ag):ak:=
 let x:=fp used [118,49]
 let c:=LV x (DN (ur a)).1 (Q6 a (nK x)) (EC (Q6 b (nK x)) tag)
 if a.Op=4 then F5 (fS (c::RN tag a b x (kS m a.Name).1.Preds 0))else c
theorem Vm(m:aR)(tag:Int)(a b:ae)(x:ag)(D:Nat)(hD:(kS m a.Name).1.Preds.length<=D):rE (LV x (DN (ur a)).1 (Q6 a (nK x)) (EC (Q6 b (nK x)) tag)::RN tag a b x (kS m a.Name).1.Preds 0)<=4 * D+wT a+wT b+4:=by
 have h1:=YS tag a b x (kS m a.Name).1.Preds 0
 have h2:=Vi a x
 have h3:=Vi b x
 have h4:=uo a
 have h5:=uo b
 have e:nC (LV x (DN (ur a)).1 (Q6 a (nK x)) (EC (Q6 b (nK x)) tag))=nP (Q6 a (nK x))+(nP (Q6 b (nK x))+1)+1:=by
  simp[nC,rE]
 rw[rE,e]
 rw[va6,va6]at h1
 omega
theorem Xw(m:aR)(tag:Int)(a b:ae)(used:List ag)(D:Nat)(hD:(kS m a.Name).1.Preds.length<=D):nC (Ek m tag a b used)<=4 * D+wT a+wT b+6:=by
 have h:=Vm m tag a b (fp used [118,49]) D hD
 unfold Ek
 simp only
 split
 ·rw[nC]
  have:=Eg (LV (fp used [118,49]) (DN (ur a)).1 (Q6 a (nK (fp used [118,49]))) (EC (Q6 b (nK (fp used [118,49]))) tag)::RN tag a b (fp used [118,49]) (kS m a.Name).1.Preds 0)
  have e:nP ic=1:=by simp[nP,nL,ic]
  omega
 ·rw[rE]at h
  omega
structure qdk(m:aR)(a b:ae)(used:List ag):Prop where
 u:used.length<=100000000
 la:cq a<=10000000
 lb:cq b<=10000000
 wa:wT a<=10000000
 wb:wT b<=10000000
 ds:m.Datas.length<=10000000
 dp:∀d∈m.Datas,d.Preds.length<=10000000
theorem Ux(m:aR)(tag:Int)(a b:ae)(used:List ag)(h:qdk m a b used):iA ⟨m,tag⟩ a b used=some (Ek m tag a b used):=by
 have w1:=uo a
 have w2:=uo b
 have:=h.wa;have:=h.wb;have:=h.la;have:=h.ds
 have hD:=JR m a.Name _ h.dp
 unfold iA Ek
 rw[(DX used [118,49] h.u (by simp)).1]
 simp only[vaa]
 generalize fp used [118,49]=x
 rw[M3 a (by unfold bk;omega)]
 simp only[vaa]
 rw[Qy,show(⟨3,x,0,[]⟩:aa)=nK x from rfl]
 simp only[vaa]
 rw[R3 a _ (by unfold bk;omega) (by rw[AM];decide)]
 simp only[vaa]
 rw[R3 b _ (by unfold bk;omega) (by rw[AM];decide)]
 simp only[vaa]
 unfold eD iB
 simp only[vaa]
 by_cases h4:a.Op=4
 ·rw[vaj (by simpa using h4),vaj h4,Ww _ _ (by show m.Datas.length<_;omega)]
  simp only[vaa]
  have hn:=Vm m tag a b x 10000000 hD
  unfold jq
  rw[Ks (kS m a.Name).1.Preds (by omega) (fun i s=>(s,i)) _ (fun i s=>s.length=i+1) (fun i d s=>s++[LV x d.Sort_ (SE a.Preds i x) (EC (SE b.Preds i x) tag)]) id _ rfl (fun i hi s hs=>⟨?_,by simp[hs]⟩) (fun s hs=>?_),PW]
  ·simp only[vaa,id]
   rw[List.singleton_append,SA _ (vaH hn (by unfold bk;omega))]
   rfl
  ·show dg ⟨m,tag⟩ a b x (kS m a.Name).1.Preds ((kS m a.Name).1.Preds.length:Int) [] s (i:Int)=_
   unfold dg eD iB
   rw[vaj (by simp;omega),bj _ i hi,show(⟨3,x,0,[]⟩:aa)=nK x from rfl]
   simp only[vaa]
   rw[Wz a.Preds i x (fun p hp=>by have:=AL hp;unfold bk;omega)]
   simp only[vaa]
   rw[Wz b.Preds i x (fun p hp=>by have:=AL hp;unfold bk;omega)]
   simp only[vaa]
   rw[dG (by simp;omega)]
   rfl
  ·show dg ⟨m,tag⟩ a b x (kS m a.Name).1.Preds ((kS m a.Name).1.Preds.length:Int) [] s ((kS m a.Name).1.Preds.length:Int)=_
   unfold dg
   rw[van (by simp)]
   rfl
 ·rw[van (by simpa using h4),van h4]
  rfl
mutual
def C9:ae->Prop
 |⟨_,_,xs,ns,_,_⟩=>(∀s∈ns,s≠[])/\Mm xs
def Mm:List ae->Prop
 |[]=>True
 |a::xs=>C9 a/\Mm xs
end
theorem An(t:ae):C9 t↔(∀s∈t.Names,s≠[])/\Mm t.Args:=by obtain⟨o,n,xs,ns,p,ps⟩:=t;rw[C9];exact Iff.rfl
theorem sT:∀(l:List ae),Mm l↔∀t∈l,C9 t
 |[]=>by simp[Mm]
 |a::l=>by rw[Mm,sT l];simp
theorem U5(s:ag):eK (pD s) (fun r=>(r !=0)=false->s≠[]):=by
 cases s with
 |nil=>exact O3 (show pD []=some 3 by kernel_rfl) (fun h=>by cases h)
 |cons c s=>exact(Mk (c::s)).mono fun _ _ _ h=>by cases h
theorem Ui(t:ae)(ht:cq t<=bk)(hp:nP t.Pred<=bk)(hq:∀q∈t.Preds,nP q<=bk):eK (Eb t) (fun r=>(r !=0)=false->∀s∈t.Names,s≠[]):=by
 unfold Eb
 have h1:=nU t
 have h2:=GB t
 have hb:bk=1073741824:=rfl
 refine au (R:=fun _=>True) ?_ fun _ _=>aG (fun _=>aj (fun h=>by cases h)) fun _=>?_
 ·unfold Ad
  repeat' first|exact aj trivial|refine aG (fun _=>?_) (fun _=>?_)|refine cp (Nn _) ?_
 unfold Af
 refine au (nZ t.Names (by omega) _ (fun s=>s≠[]) (fun _=>True) (fun i=>rfl) (fun x hx i=>au (U5 x) fun r hr=>aG (fun _=>aj trivial) fun h=>aj ⟨rfl,hr (by simpa using h)⟩)) fun o ho=>?_
 cases o with
 |inl _=>exact aj (fun h=>by cases h)
 | inr _ =>
  have ho:∀s∈t.Names,s≠[]:=ho
  refine au (Nq t.Names (by omega)) fun _ _=>aG (fun _=>aj fun _=>ho) fun _=>cp (dG (by simp;omega)) ?_
  unfold Ah
  refine au (nZ ([t.Pred]++t.Preds) (by simp;omega) _ (fun _=>True) (fun _=>True) (fun i=>rfl) (fun x hx i=>?_)) fun o _=>?_
  ·have hxn:nP x<=bk:=by
    rcases vaD.1 hx with h|h
    ·rw[va2.1 h];exact hp
    ·exact hq x h
   refine au (Ph x hxn) fun e _=>au (R:=fun _=>True) ?_ fun _ _=>aG (fun _=>aj trivial) fun _=>aj ⟨rfl,trivial⟩
   unfold Ae
   exact cp (Nn _) (aG (fun _=>aj trivial) fun _=>aj trivial)
  ·cases o<;>exact aj fun _=>ho
theorem TY(t:ae)(ht:cq t<=bk)(hp:F6 (fun p=>nP p<=bk) t):eK (Jv t) (fun r=>(r !=0)=false->C9 t):=by
 refine lq (F:=C6) cq (fun x=>cq x<=bk/\F6 (fun p=>nP p<=bk) x) (fun x r=>(r !=0)=false->C9 x) (fun R x hx ih=>?_) t ⟨ht,hp⟩ (fq ht)
 obtain⟨hx,hq⟩:=hx
 show eK (xG (fun t=>R t) x) _
 unfold xG Aa
 have h1:=gX x
 have hq':=(Vc _ _).1 hq
 refine au (Ui x hx hq'.1 hq'.2.1) fun r hr=>aG (fun h=>aj (fun h'=>by rw[h]at h';cases h')) fun h=>au (nZ x.Args (by unfold bk at hx;omega) _ C9 (fun r=>(r !=0)=true) (fun i=>rfl) (fun y hy i=>au (ih _ (ig hy) ⟨by have:=ig hy;omega,(Mo _ _).1 hq'.2.2 y hy⟩) fun r hr=>aG (fun h=>aj h) fun h=>aj ⟨rfl,hr (by simpa using h)⟩)) fun o ho=>?_
 cases o with
 |inl r=>
  have ho:(r !=0)=true:=ho
  exact aj fun h'=>by rw[ho]at h';cases h'
 |inr _=>exact aj fun _=>(An x).2 ⟨hr (by simpa using h),(sT _).2 ho⟩
theorem Q2(t:ae)(ht:cq t<=bk)(hp:F6 (fun p=>nP p<=bk) t):eK (Bp t) (fun r=>(r !=0)=false->C9 t):=by
 unfold Bp
 exact au (Pj t ht) fun _ _=>aG (fun h=>aj (fun h'=>by rw[h]at h';cases h')) fun _=>au (TY t ht hp) fun _ h=>aj h
theorem VQ(used:List ag)(base:ag)(h:used.length<=100000000)(hb:base≠[]):fp used base≠[]:=by
 unfold fp
 split
 ·have key:∀k n,kT used base k n=[]->(∀j,n<=j->j<n+k->base++Lib.decDigits j∈used):=by
   intro k
   induction k with
   |zero=>intro n _ j h1 h2;omega
   | succ k ih =>
    intro n hk j h1 h2
    rw[kT]at hk
    split at hk
    ·rename_i hc
     by_cases hj:j=n
     ·subst hj;simpa using hc
     ·exact ih (n+1) hk j (by omega) (by omega)
    ·exact absurd (List.append_eq_nil_iff.1 hk).1 hb
  intro he
  obtain⟨n,h1,h2,h3⟩:=PO used base
  exact h3 (key _ _ he n h1 (by omega))
 ·exact hb
theorem Vu(t:ae)(c:Sb)(h:XS t c)(he:∀s∈t.Names,s≠[]):∀i,i<=t.Args.length->∀s∈(pp t.Op t.Names (dq t c) i).2.2,s≠[]
 |0,_=>he
 | i + 1,hi => by
  have ih:=Vu t c h he i (by omega)
  have h1:=Vv t.Op t.Names (dq t c) i
  have h2:=Tn t c
  have h3:=h.sz
  have h4:=h.w
  have h5:=gX t
  show ∀s∈(Cw t.Op t.Names i (pp t.Op t.Names (dq t c) i)).2.2,s≠[]
  unfold Cw
  split
  ·rename_i hc
   split
   ·intro s hs
    rcases vce hs with hs|hs
    ·exact ih s hs
    ·rw[hs]
     exact VQ _ _ (by omega) (by rw[IH _ i hc.2];exact he _ (vat hc.2))
   ·exact ih
  ·exact ih
theorem Su:∀(n:Nat) (t:ae) (c:Sb),cq t<=n->XS t c->C9 t->C9 (B8 t c)
 |0,t,c,hn,_,_=>by have:=mP t;omega
 |n+1,t,c,hn,h,he=>by
  rw[An]at he
  rw[Ro,An]
  refine⟨Vu t c h he.1 _ (vah _),(sT _).2 fun x hx=>?_⟩
  obtain⟨y,hy,rfl⟩:=vap.1 hx
  obtain⟨a,i⟩:=y
  obtain⟨h1,h2,h3⟩:=List.mem_zipIdx hy
  have h2:i<t.Args.length:=by omega
  have h3:a=t.Args[i]:=by simpa using h3
  subst h3
  exact Su n _ _ (by have:=ig (vat h2:t.Args[i]∈t.Args);show cq t.Args[i]<=n;omega) (S4 h i h2) ((sT _).1 he.2 _ (vat h2))
structure EK(L:Nat)(t t':ae):Prop where
 l:cq t'=cq t
 w:wT t'<=wT t
 p:ur t'=ur t
 n:uv L t'
 e:C9 t'
theorem EK.step{L:Nat}{t t':ae}(h:EK L t t')(x y:ag)(h1:cq t<=10000000)(h2:wT t<=10000000)(h3:L<=1000000000000000):EK (L+10) t (B8 t' (Bf x (nK y))) where
 l:=by rw[SX];exact h.l
 w:=vaH (Y2 _ _ (UU x y)) h.w
 p:=by rw[WH];exact h.p
 n:=Sv L _ _ h.n
 e:=Su _ _ _ (vah _) (S5 x y (by have:=h.l;omega) (by have:=h.w;omega) (Bw h3 _ h.n)) h.e
theorem EK.up{L M:Nat}{t t':ae}(h:EK L t t')(hM:L<=M):EK M t t':=⟨h.l,h.w,h.p,Bw hM _ h.n,h.e⟩
def zt:ae:=⟨0,[],[],[],ic,[]⟩
theorem GL(l:List ae)(ns:List ag)(i:Nat)(y:ag):(Fb l ns i y).length=l.length:=by
 unfold Fb
 split
 ·rw[vae,vaL,vaN,vaZ];omega
 ·rfl
theorem GK(l:List ae)(ns:List ag)(i:Nat)(y:ag)(k:Nat):(Fb l ns i y)[k]? =if k<=i\/ns.length<=i then l[k]? else(l[k]?).map (fun t=>B8 t (Bf (ns.getD i []) (nK y))):=by
 unfold Fb
 by_cases hi:i<ns.length
 ·rw[vaj hi]
  by_cases hk:k<=i
  ·rw[vaj (.inl hk)]
   by_cases hl:k<l.length
   ·rw[vad (by rw[vaN];omega),vao (by omega)]
   ·rw[vau (by rw[vae,vaL,vaN,vaZ];omega),vau (by omega)]
  ·rw[van (by omega)]
   by_cases hl:k<l.length
   ·rw[vaf (by rw[vaN];omega),vaB,vbf,vaN,show i+1+(k - min (i+1) l.length)=k by omega]
   ·rw[vau (by rw[vae,vaL,vaN,vaZ];omega),vau (by omega)]
    rfl
 ·rw[van hi,vaj (.inr (by omega))]
def wM(L:Nat)(l l':List ae):Prop:=l'.length=l.length/\∀(k:Nat) (t:ae),l[k]? =some t->∃t':ae,l'[k]? =some t'/\EK L t t'
theorem wM.step{L:Nat}{l l':List ae}(h:wM L l l')(ns:List ag)(i:Nat)(y:ag)(h1:∀t∈l,cq t<=10000000/\wT t<=10000000)(h3:L<=1000000000000000):wM (L+10) l (Fb l' ns i y):=by
 refine⟨by rw[GL];exact h.1,fun k t ht=>?_⟩
 obtain⟨t',e,hl⟩:=h.2 k t ht
 have hm:=h1 t (vaz ht)
 rw[GK,e]
 split
 ·exact⟨t',rfl,hl.up (by omega)⟩
 ·exact⟨_,rfl,hl.step _ _ hm.1 hm.2 h3⟩
theorem wM.mem{L:Nat}{l l':List ae}(h:wM L l l'){x:ae}(hx:x∈l'):∃t∈l,EK L t x:=by
 obtain⟨k,hk⟩:=vbg.1 hx
 have hlt:k<l'.length:=by
  by_cases hc:k<l'.length
  ·exact hc
  ·rw[vau (by omega)]at hk;cases hk
 have hlt2:k<l.length:=by rw[<-h.1];exact hlt
 obtain⟨t',e,hl⟩:=h.2 k l[k] (vab hlt2)
 rw[hk]at e
 cases e
 exact⟨_,vat hlt2,hl⟩
theorem wM.refl{L:Nat}{l:List ae}(hn:∀t∈l,uv L t)(he:∀t∈l,C9 t):wM L l l:=⟨rfl,fun k t ht=>⟨t,ht,rfl,vah _,rfl,hn t (vaz ht),he t (vaz ht)⟩⟩
abbrev FS:Type:=List ae×List ae×List ag
def SN(a b:ae)(u:List ag)(i:Nat):ag:=fp ((u++a.Names.drop (i+1))++b.Names.drop (i+1)) (b.Names.getD i [120])
def qdS(a b:ae)(i:Nat)(s:FS):FS:=(Fb s.1 a.Names i (SN a b s.2.2 i),Fb s.2.1 b.Names i (SN a b s.2.2 i),s.2.2++[SN a b s.2.2 i])
def gD(a b:ae)(used:List ag):Nat->FS
 |0=>(a.Args,b.Args,used)
 |i+1=>qdS a b i (gD a b used i)
theorem J4(a b:ae)(used:List ag):∀i,(gD a b used i).2.2.length=used.length+i
 |0=>rfl
 |i+1=>by
  have:=J4 a b used i
  show((gD a b used i).2.2++[_]).length=_
  rw[vae,this];simp;omega
theorem PM(a b:ae)(used:List ag)(i:Nat):∀j,i<=j->(gD a b used j).2.2.take (used.length+i)=(gD a b used i).2.2
 |0,h=>by
  have:i=0:=by omega
  subst this
  exact vbn
 | j + 1,h => by
  by_cases he:i=j+1
  ·subst he
   have:=J4 a b used (j+1)
   rw[<-this,vbn]
  ·have ih:=PM a b used i j (by omega)
   have hl:=J4 a b used j
   show((gD a b used j).2.2++[_]).take _=_
   rw[List.take_append_of_le_length (by omega)]
   exact ih
theorem YP(a b:ae)(used:List ag):∀i,(gD a b used i).1.length=a.Args.length/\(gD a b used i).2.1.length=b.Args.length
 |0=>⟨rfl,rfl⟩
 |i+1=>by
  have:=YP a b used i
  exact⟨(GL _ _ _ _).trans this.1,(GL _ _ _ _).trans this.2⟩
theorem SM(a b:ae)(used:List ag)(i:Nat):∀j,i<=j->(gD a b used j).1[i]? =(gD a b used i).1[i]?/\(gD a b used j).2.1[i]? =(gD a b used i).2.1[i]?
 |0,h=>by
  have:i=0:=by omega
  subst this
  exact⟨rfl,rfl⟩
 | j + 1,h => by
  by_cases he:i=j+1
  ·subst he;exact⟨rfl,rfl⟩
  ·have ih:=SM a b used i j (by omega)
   refine⟨Eq.trans ?_ ih.1,Eq.trans ?_ ih.2⟩
   ·exact(GK _ _ _ _ i).trans (vaj (.inl (by omega)))
   ·exact(GK _ _ _ _ i).trans (vaj (.inl (by omega)))
structure Fr(a b:ae)(used:List ag)(L:Nat):Prop where
 pl:ur a=ur b
 la:cq a<=160
 lb:cq b<=160
 wa:wT a<=160
 wb:wT b<=160
 na:uv L a
 nb:uv L b
 nl:L+10 * nT a<=100000000000000
 u:used.length+nT a<=10000000
 ea:C9 a
 eb:C9 b
theorem Fr.al{a b:ae}{used:List ag}{L:Nat}(h:Fr a b used L):a.Args.length=b.Args.length:=by
 have h1:=h.pl
 rw[Gx,Gx]at h1
 have:a.Args.map ur=b.Args.map ur:=by injection h1
 simpa using vbp List.length this
theorem GR{t x:ae}(h:x∈t.Args):wT x<=wT t:=by rw[uo t];have:=O8 h;omega
theorem J3{a b:ae}{used:List ag}{L:Nat}(h:Fr a b used L):∀i,i<=a.Args.length->wM (L+10 * i) a.Args (gD a b used i).1/\wM (L+10 * i) b.Args (gD a b used i).2.1
 |0,_=>⟨wM.refl ((Bv _ _).1 ((Ao _ _).1 h.na).2) ((sT _).1 ((An _).1 h.ea).2),wM.refl ((Bv _ _).1 ((Ao _ _).1 h.nb).2) ((sT _).1 ((An _).1 h.eb).2)⟩
 |i+1,hi=>by
  have ih:=J3 h i (by omega)
  have h1:=gX a
  have h2:=h.la
  have h3:=h.nl
  have h4:=h.lb
  have h5:=h.wa
  have h6:=h.wb
  have e:L+10 * (i+1)=L+10 * i+10:=by omega
  rw[e]
  exact⟨ih.1.step _ _ _ (fun t ht=>⟨by have:=ig ht;omega,by have:=GR ht;omega⟩) (by omega),ih.2.step _ _ _ (fun t ht=>⟨by have:=ig ht;omega,by have:=GR ht;omega⟩) (by omega)⟩
def lA(a b:ae)(used:List ag)(i:Nat):ae:=(gD a b used i).1.getD i zt
def rA(a b:ae)(used:List ag)(i:Nat):ae:=(gD a b used i).2.1.getD i zt
theorem Oy{a b:ae}{used:List ag}{L:Nat}(h:Fr a b used L)(i j:Nat)(hi:i<a.Args.length)(hj:i<=j):(gD a b used j).1[i]? =some (lA a b used i)/\(gD a b used j).2.1[i]? =some (rA a b used i)/\EK (L+10 * i) (a.Args.getD i zt) (lA a b used i)/\EK (L+10 * i) (b.Args.getD i zt) (rA a b used i):=by
 have hl:=J3 h i (by omega)
 have hg:=SM a b used i j hj
 have hb:i<b.Args.length:=by rw[<-h.al];exact hi
 obtain⟨t,e,hk⟩:=hl.1.2 i _ (vab hi)
 obtain⟨t',e',hk'⟩:=hl.2.2 i _ (vab hb)
 have e1:lA a b used i=t:=by unfold lA;rw[vac,e];rfl
 have e2:rA a b used i=t':=by unfold rA;rw[vac,e'];rfl
 rw[hg.1,hg.2,e,e',e1,e2]
 refine⟨rfl,rfl,?_,?_⟩
 ·rw[vac,vab hi];exact hk
 ·rw[vac,vab hb];exact hk'
theorem Fr.child{a b:ae}{used:List ag}{L:Nat}(h:Fr a b used L)(i:Nat)(hi:i<a.Args.length):Fr (lA a b used i) (rA a b used i) (gD a b used i).2.2 (L+10 * i)/\Fr (rA a b used i) (lA a b used i) (gD a b used i).2.2 (L+10 * i)/\nT (lA a b used i)<nT a/\nT (rA a b used i)<nT a:=by
 obtain⟨_,_,h1,h2⟩:=Oy h i i hi (vah _)
 have hb:i<b.Args.length:=by rw[<-h.al];exact hi
 rw[vac,vab hi]at h1
 rw[vac,vab hb]at h2
 have h1:EK (L+10 * i) a.Args[i] (lA a b used i):=h1
 have h2:EK (L+10 * i) b.Args[i] (rA a b used i):=h2
 have hpl:ur a.Args[i]=ur b.Args[i]:=by
  have h3:=h.pl
  rw[Gx,Gx]at h3
  have h4:a.Args.map ur=b.Args.map ur:=by injection h3
  have h5:(a.Args.map ur)[i]? =(b.Args.map ur)[i]?:=by rw[h4]
  rw[vaB,vaB,vab hi,vab hb]at h5
  simpa using h5
 have hm:=vat hi
 have hm':=vat hb
 have n1:=XR hm
 have n2:=Wh a
 have e1:nT (lA a b used i)=nT a.Args[i]:=by unfold nT;rw[h1.p]
 have e2:nT (rA a b used i)=nT a.Args[i]:=by unfold nT;rw[h2.p,hpl]
 have p1:ur (lA a b used i)=ur (rA a b used i):=by rw[h1.p,h2.p,hpl]
 have u1:=J4 a b used i
 have a1:=ig hm;have a2:=ig hm';have a3:=GR hm;have a4:=GR hm'
 have b1:=h1.l;have b2:=h2.l;have b3:=h1.w;have b4:=h2.w
 have c1:=h.la;have c2:=h.lb;have c3:=h.wa;have c4:=h.wb;have c5:=h.nl;have c6:=h.u
 exact⟨⟨p1,by omega,by omega,by omega,by omega,h1.n,h2.n,by omega,by omega,h1.e,h2.e⟩,⟨p1.symm,by omega,by omega,by omega,by omega,h2.n,h1.n,by omega,by omega,h2.e,h1.e⟩,by omega,by omega⟩
abbrev Rc:Type:=ae->ae->List ag->ak
def uq(rec:Rc)(a b:ae)(used:List ag)(n:Nat):Nat->ak
 |0=>rec (lA a b used n) (rA a b used n) (gD a b used n).2.2
 |k+1=>F5 (fS [rec (rA a b used (n - (k+1))) (lA a b used (n - (k+1))) (gD a b used (n - (k+1))).2.2,G1 (rA a b used (n - (k+1))) (SN a b (gD a b used (n - (k+1))).2.2 (n - (k+1))) (uq rec a b used n k)])
abbrev nB(K:Nat)(a b:ae):Nat:=K * (cq a+cq b)+4 * (wT a+wT b)
def Ii(K:Nat)(rec:Rc)(a b:ae)(u:List ag):Prop:=nC (rec a b u)+8+nP a.Pred+nP b.Pred<=nB K a b
theorem Sy(t:ae)(x:ag)(c:ak):nC (G1 t x c)<=nP t.Pred+nC c+1:=by
 have:=Vi t x
 unfold G1
 split
 ·simp[nC,rE];omega
 ·omega
theorem ZK(l:List ak):nC (F5 (fS l))<=2+rE l:=by
 have:=Eg l
 have e:nP ic=1:=by simp[nP,nL,ic]
 rw[nC];omega
theorem Kj(l:List ae)(i:Nat)(h:i<l.length):cG (l.drop i)=cq l[i]+cG (l.drop (i+1)):=by
 rw[va5 h,cG]
theorem QX(l:List ae)(i:Nat)(h:i<l.length):sY (l.drop i)=wT l[i]+sY (l.drop (i+1)):=by
 rw[va5 h,sY]
def Cz(K:Nat)(a b:ae)(i:Nat):Nat:=K * (cG (a.Args.drop i)+cG (b.Args.drop i))+4 * (sY (a.Args.drop i)+sY (b.Args.drop i))
theorem Dj{K:Nat}{a b:ae}{used:List ag}{L:Nat}(h:Fr a b used L)(i:Nat)(hi:i<a.Args.length):nB K (rA a b used i) (lA a b used i)+Cz K a b (i+1)<=Cz K a b i/\nB K (lA a b used i) (rA a b used i)=nB K (rA a b used i) (lA a b used i):=by
 obtain⟨_,_,h1,h2⟩:=Oy h i i hi (vah _)
 have hb:i<b.Args.length:=by rw[<-h.al];exact hi
 rw[vac,vab hi]at h1
 rw[vac,vab hb]at h2
 have h1:EK (L+10 * i) a.Args[i] (lA a b used i):=h1
 have h2:EK (L+10 * i) b.Args[i] (rA a b used i):=h2
 have e1:=Kj a.Args i hi
 have e2:=Kj b.Args i hb
 have e3:=QX a.Args i hi
 have e4:=QX b.Args i hb
 have l1:=h1.l;have l2:=h2.l;have l3:=h1.w;have l4:=h2.w
 unfold nB Cz
 rw[l1,l2,e1,e2,e3,e4]
 constructor
 ·have:K * (cq a.Args[i]+cG (a.Args.drop (i+1))+(cq b.Args[i]+cG (b.Args.drop (i+1))))=K * (cq b.Args[i]+cq a.Args[i])+K * (cG (a.Args.drop (i+1))+cG (b.Args.drop (i+1))):=by rw[<-Nat.mul_add];congr 1;omega
  rw[this];omega
 ·rw[vb8 (cq a.Args[i])];omega
theorem MD(K:Nat)(a b:ae)(hK:20<=K):Cz K a b 0+16+nP a.Pred+nP b.Pred<=nB K a b:=by
 have h1:=qw a
 have h2:=qw b
 have h3:=uo a
 have h4:=uo b
 unfold Cz nB
 rw[va6,va6]
 have:K * (cG a.Args+cG b.Args)+K * 2<=K * (cq a+cq b):=by rw[<-Nat.mul_add];exact vbJ K (by omega)
 omega
theorem VO{K:Nat}{rec:Rc}{a b:ae}{used:List ag}{L:Nat}(h:Fr a b used L)(n:Nat)(hn:n+1=a.Args.length)(hr:∀i,i<a.Args.length->Ii K rec (rA a b used i) (lA a b used i) (gD a b used i).2.2/\Ii K rec (lA a b used i) (rA a b used i) (gD a b used i).2.2):∀k,k<=n->nC (uq rec a b used n k)<=Cz K a b (n - k)
 |0,_=>by
  have h1:=(hr n (by omega)).2
  have h2:=Dj (K:=K) h n (by omega)
  unfold Ii at h1
  show nC (rec (lA a b used n) (rA a b used n) (gD a b used n).2.2)<=Cz K a b n
  omega
 |k+1,hk=>by
  have ih:=VO h n hn hr k (by omega)
  have h1:=(hr (n - (k+1)) (by omega)).1
  have h2:=(Dj (K:=K) h (n - (k+1)) (by omega)).1
  unfold Ii at h1
  rw[uq]
  have h3:=ZK [rec (rA a b used (n - (k+1))) (lA a b used (n - (k+1))) (gD a b used (n - (k+1))).2.2,G1 (rA a b used (n - (k+1))) (SN a b (gD a b used (n - (k+1))).2.2 (n - (k+1))) (uq rec a b used n k)]
  have h4:=Sy (rA a b used (n - (k+1))) (SN a b (gD a b used (n - (k+1))).2.2 (n - (k+1))) (uq rec a b used n k)
  simp only[rE]at h3
  rw[show n - (k+1)+1=n - k by omega]at h2
  omega
theorem VP{K:Nat}{rec:Rc}{a b:ae}{used:List ag}{L:Nat}(h:Fr a b used L)(n:Nat)(hn:n+1=a.Args.length)(hr:∀i,i<a.Args.length->Ii K rec (rA a b used i) (lA a b used i) (gD a b used i).2.2/\Ii K rec (lA a b used i) (rA a b used i) (gD a b used i).2.2)(hK:20<=K)(k:Nat)(hk:k<n):rE [rec (rA a b used (n - (k+1))) (lA a b used (n - (k+1))) (gD a b used (n - (k+1))).2.2,G1 (rA a b used (n - (k+1))) (SN a b (gD a b used (n - (k+1))).2.2 (n - (k+1))) (uq rec a b used n k)]<=nB K a b:=by
 have h0:=VO h n hn hr k (by omega)
 have h1:=(hr (n - (k+1)) (by omega)).1
 have h2:=(Dj (K:=K) h (n - (k+1)) (by omega)).1
 have h4:=Sy (rA a b used (n - (k+1))) (SN a b (gD a b used (n - (k+1))).2.2 (n - (k+1))) (uq rec a b used n k)
 have h5:=MD K a b hK
 have h6:Cz K a b (n - (k+1))<=Cz K a b 0:=by
  unfold Cz
  have m1:∀(l:List ae) (i:Nat),cG (l.drop i)<=cG l:=by
   intro l
   induction l with
   |nil=>intro i;simp
   |cons x l ih=>
    intro i
    cases i with
    |zero=>exact vah _
    |succ i=>have:=ih i;rw[vcH,cG];omega
  have m2:∀(l:List ae) (i:Nat),sY (l.drop i)<=sY l:=by
   intro l
   induction l with
   |nil=>intro i;simp
   |cons x l ih=>
    intro i
    cases i with
    |zero=>exact vah _
    |succ i=>have:=ih i;rw[vcH,sY];omega
  rw[va6,va6]
  have:=m1 a.Args (n - (k+1));have:=m1 b.Args (n - (k+1));have:=m2 a.Args (n - (k+1));have:=m2 b.Args (n - (k+1))
  exact Nat.add_le_add (vbJ K (by omega)) (by omega)
 unfold Ii at h1
 simp only[rE]
 rw[show n - (k+1)+1=n - k by omega]at h2
 omega
abbrev T9:Type:=Int×ag×ag×Int×ag×Int×List aa×Int×List ak
def t9(c:ak):T9:=(c.Op,c.Name,c.Sort_,c.Pred.Op,c.Pred.Name,c.Pred.N,c.Pred.Kids,c.Tag,c.Kids)
def ys(a b:ae)(used:List ag):Nat->List ag
 |0=>[]
 |i+1=>ys a b used i++[SN a b (gD a b used i).2.2 i]
theorem Sr(a b:ae)(used:List ag):∀i,(ys a b used i).length=i
 |0=>rfl
 |i+1=>by rw[ys,vae,Sr];rfl
theorem W7(a b:ae)(used:List ag)(i:Nat):∀n,i<n->(ys a b used n)[i]? =some (SN a b (gD a b used i).2.2 i)
 |0,h=>absurd h (vaR _)
 | n + 1,h => by
  have hl:=Sr a b used n
  rw[ys]
  by_cases he:i=n
  ·subst he
   rw[vaf (by omega),hl,vbB];rfl
  ·rw[vad (by omega)]
   exact W7 a b used i n (by omega)
theorem Kb{α:Type}{l:List α}{i:Nat}{x:α}(h:l[i]? =some x):cH l (i:Int)=some x:=by
 have hlt:i<l.length:=by
  by_cases hc:i<l.length
  ·exact hc
  ·rw[vau (by omega)]at h;cases h
 rw[bj l i hlt,<-vab hlt,h]
theorem ZF{a b:ae}{used:List ag}{L:Nat}(h:Fr a b used L)(i:Nat)(hi:i<a.Args.length):kY (((gD a b used i).2.2++a.Names.drop (i+1))++b.Names.drop (i+1)) (b.Names.getD i [120])=some (SN a b (gD a b used i).2.2 i)/\Fu ((b.Names.drop (i+1)++a.Names.drop (i+1))++(gD a b used i).2.2) (b.Names.getD i [120])=some (SN a b (gD a b used i).2.2 i):=by
 have h1:=J4 a b used i
 have h2:=nU a
 have h3:=nU b
 have h4:=h.u
 have h5:=Wh a
 have h6:=gX a
 have h7:=h.la;have h8:=h.lb;have h9:=h.nl
 have hu:used.length+i<=10000000:=by
  have:a.Args.length<=cG (a.Args.map ur):=by have:=BG (a.Args.map ur);rwa[vaL]at this
  omega
 have hbase:(b.Names.getD i [120]).length<=4000000000000000000:=by
  by_cases hb:i<b.Names.length
  ·rw[vac,vab hb,Option.getD_some]
   have:=((Ao _ _).1 h.nb).1 _ (vat hb)
   omega
  ·rw[vac,vau (by omega)]
   simp
 constructor
 ·exact(DX _ _ (by rw[vae,vae,vaZ,vaZ];omega) hbase).1
 ·rw[(DX _ _ (by rw[vae,vae,vaZ,vaZ];omega) hbase).2.1]
  unfold SN
  congr 1
  exact Ok (fun x=>by simp only[vaD];constructor<;>(rintro((h|h)|h)<;>simp[h])) _
theorem Dv{σ X:Type}(n:Nat)(body:σ->Option (σ⊕X))(S:Nat->σ)(e:X)(hin:∀i,i<n->body (S i)=some (.inl (S (i+1))))(hend:body (S n)=some (.inr e)):loop body (S 0)=some e:=by
 have key:∀k i,k+i=n->loop body (S i)=some e:=by
  intro k
  induction k with
  |zero=>
   intro i hi
   have:i=n:=by omega
   subst this
   exact j5 hend
  |succ k ih=>
   intro i hi
   rw[pO (hin i (by omega))]
   exact ih (i+1) (by omega)
 exact key n 0 (by omega)
theorem wM.okV{L:Nat}{l l':List ae}(h:wM L l l')(h1:∀t∈l,cq t<=10000000/\wT t<=10000000)(h3:L<=1000000000000000):∀x∈l',okV x:=fun x hx=>by
 obtain⟨t,ht,hl⟩:=h.mem hx
 have:=h1 t ht
 exact⟨by have:=hl.l;omega,by have:=hl.w;omega,Bw h3 _ hl.n⟩
theorem Fr.okVs{a b:ae}{used:List ag}{L:Nat}(h:Fr a b used L)(i:Nat)(hi:i<=a.Args.length):(∀x∈(gD a b used i).1,okV x)/\(∀x∈(gD a b used i).2.1,okV x):=by
 have hl:=J3 h i hi
 have h1:=gX a
 have c1:=h.la;have c2:=h.lb;have c3:=h.wa;have c4:=h.wb;have c5:=h.nl
 exact⟨hl.1.okV (fun t ht=>⟨by have:=ig ht;omega,by have:=GR ht;omega⟩) (by omega),hl.2.okV (fun t ht=>⟨by have:=ig ht;omega,by have:=GR ht;omega⟩) (by omega)⟩
theorem QP{α:Type}(l:List α)(i:Nat)(hi:i<4611686018427387904)(hl:l.length<4611686018427387904):K3 l (some (if(l.length:Int)<aO ((i:Int)+1)then(l.length:Int)else aO ((i:Int)+1))) none=some (l.drop (i+1)):=by
 rw[dA (by omega) (by omega)]
 by_cases h:(l.length:Int)<(i:Int)+1
 ·rw[vaj h,Fi l l.length (vah _),vbY,vbC (by omega)]
 ·rw[van h,show((i:Int)+1)=((i+1:Nat):Int) by omega,Fi l (i+1) (by omega)]
theorem ZS(a b:ae)(i:Nat)(taken:List ag)(hi:i<1000)(ha:a.Names.length<=1000)(hb:b.Names.length<=1000)(ht:taken.length<=100000000):eC (i:Int) [a,b] (([a,b]:List ae).length:Int) taken 0=some ((taken++a.Names.drop (i+1))++b.Names.drop (i+1)):=by
 unfold eC
 refine Dv 2 _ (fun k=>((match k with|0=>taken|1=>taken++a.Names.drop (i+1)|_=>(taken++a.Names.drop (i+1))++b.Names.drop (i+1)),(k:Int))) _ (fun k hk=>?_) ?_
 ·match k,hk with
  |0,_=>
   show bN (i:Int) [a,b] 2 taken 0=_
   unfold bN
   rw[vaj (by decide),ED]
   simp only[vaa]
   rw[QP _ i (by omega) (by omega)]
   simp only[vaa]
   rw[dG (by rw[vaZ];omega)]
   rfl
  |1,_=>
   show bN (i:Int) [a,b] 2 (taken++a.Names.drop (i+1)) 1=_
   unfold bN
   rw[vaj (by decide),show cH [a,b] (1:Int)=some b from bj [a,b] 1 (by simp)]
   simp only[vaa]
   rw[QP _ i (by omega) (by omega)]
   simp only[vaa]
   rw[dG (by rw[vae,vaZ,vaZ];omega)]
   rfl
 ·show bN (i:Int) [a,b] 2 ((taken++a.Names.drop (i+1))++b.Names.drop (i+1)) 2=_
  unfold bN
  rw[van (by decide)]
theorem ZR{a b:ae}{used:List ag}{L:Nat}(h:Fr a b used L)(n:Nat)(hn:n+1=a.Args.length):eB a b (n:Int) a.Args b.Args [] used 0=some ((gD a b used n).1,(gD a b used n).2.1,ys a b used n,(gD a b used n).2.2):=by
 have h1:=gX a
 have h2:=nU a
 have h3:=nU b
 have c1:=h.la;have c2:=h.lb;have c6:=h.u
 unfold eB
 refine Dv n _ (fun i=>((gD a b used i).1,(gD a b used i).2.1,ys a b used i,(gD a b used i).2.2,(i:Int))) _ (fun i hi=>?_) ?_
 ·show cE a b (n:Int) (gD a b used i).1 (gD a b used i).2.1 (ys a b used i) (gD a b used i).2.2 (i:Int)=_
  have u1:=J4 a b used i
  have y1:=Sr a b used i
  have l1:=YP a b used i
  have v1:=h.okVs i (by omega)
  have al:=h.al
  unfold cE
  rw[vaj (by simp;omega)]
  have hj:eA b (i:Int)=some (b.Names.getD i [120]):=by
   unfold eA
   by_cases hb:i<b.Names.length
   ·rw[vaj (by simp;omega),bj _ i hb,vac,vab hb];rfl
   ·rw[van (by simp;omega),vac,vau (by omega)];rfl
  rw[hj]
  simp only[vaa]
  rw[nQ _ (by omega)]
  simp only[vaa]
  rw[ZS a b i _ (by omega) (by omega) (by omega) (by omega)]
  simp only[vaa]
  rw[(ZF h i (by omega)).1]
  simp only[vaa]
  rw[dG (by simp;omega),dG (by simp;omega)]
  simp only[vaa]
  rw[E7 _ a i _ (by omega) (by omega) v1.1 (by omega)]
  simp only[vaa]
  rw[E7 _ b i _ (by omega) (by omega) v1.2 (by omega)]
  simp only[vaa]
  rw[dA (by omega) (by omega),show((i:Int)+1)=((i+1:Nat):Int) by omega]
  rfl
 ·show cE a b (n:Int) (gD a b used n).1 (gD a b used n).2.1 (ys a b used n) (gD a b used n).2.2 (n:Int)=_
  unfold cE
  rw[van (by simp)]
theorem OR(R:du)(m:aR)(tag:Int){K:Nat}{rec:Rc}{a b:ae}{used:List ag}{L:Nat}(h:Fr a b used L)(n:Nat)(hn:n+1=a.Args.length)(hr:∀i,i<a.Args.length->Ii K rec (rA a b used i) (lA a b used i) (gD a b used i).2.2/\Ii K rec (lA a b used i) (rA a b used i) (gD a b used i).2.2)(hK:20<=K)(hB:nB K a b<=bk)
  (hR:∀i,i<a.Args.length->R ⟨m,tag⟩ (rA a b used i) (lA a b used i) (gD a b used i).2.2=some (rec (rA a b used i) (lA a b used i) (gD a b used i).2.2)/\R ⟨m,tag⟩ (lA a b used i) (rA a b used i) (gD a b used i).2.2=some (rec (lA a b used i) (rA a b used i) (gD a b used i).2.2)):
  fH R ⟨m,tag⟩ a b used=some (uq rec a b used n n):=by
 have al:=h.al
 have h1:=gX a
 have c1:=h.la;have c2:=h.lb;have c6:=h.u
 unfold fH
 rw[nQ _ (by omega)]
 simp only[vaa]
 rw[dA (n:=(b.Args.length:Int) - 1) (by omega) (by omega),show((b.Args.length:Int) - 1)=(n:Int) by omega,ZR h n hn]
 simp only[vaa]
 obtain⟨g1,g2,_,_⟩:=Oy h n n (by omega) (vah _)
 rw[Kb g1,Kb g2]
 simp only[vaa]
 rw[(hR n (by omega)).2]
 simp only[vaa]
 unfold gA
 rw[dA (n:=(n:Int) - 1) (by omega) (by omega)]
 have e:=Dv n (fun(zz:Int×T9)=>bO R used ⟨m,tag⟩ (gD a b used n).1 (gD a b used n).2.1 (ys a b used n) (gD a b used n).2.2 zz.1 zz.2.1 zz.2.2.1 zz.2.2.2.1 zz.2.2.2.2.1 zz.2.2.2.2.2.1 zz.2.2.2.2.2.2.1 zz.2.2.2.2.2.2.2.1 zz.2.2.2.2.2.2.2.2.1 zz.2.2.2.2.2.2.2.2.2) (fun k=>((n:Int) - 1 - (k:Int),t9 (uq rec a b used n k))) (t9 (uq rec a b used n n)) (fun k hk=>?_) ?_
 ·have e':(n:Int) - 1 - ((0:Nat):Int)=(n:Int) - 1:=by omega
  rw[e']at e
  rw[show loop (fun(zz:Int×T9)=>bO R used ⟨m,tag⟩ (gD a b used n).1 (gD a b used n).2.1 (ys a b used n) (gD a b used n).2.2 zz.1 zz.2.1 zz.2.2.1 zz.2.2.2.1 zz.2.2.2.2.1 zz.2.2.2.2.2.1 zz.2.2.2.2.2.2.1 zz.2.2.2.2.2.2.2.1 zz.2.2.2.2.2.2.2.2.1 zz.2.2.2.2.2.2.2.2.2) ((n:Int) - 1,(rec (lA a b used n) (rA a b used n) (gD a b used n).2.2).Op,(rec (lA a b used n) (rA a b used n) (gD a b used n).2.2).Name,(rec (lA a b used n) (rA a b used n) (gD a b used n).2.2).Sort_,(rec (lA a b used n) (rA a b used n) (gD a b used n).2.2).Pred.Op,(rec (lA a b used n) (rA a b used n) (gD a b used n).2.2).Pred.Name,(rec (lA a b used n) (rA a b used n) (gD a b used n).2.2).Pred.N,(rec (lA a b used n) (rA a b used n) (gD a b used n).2.2).Pred.Kids,(rec (lA a b used n) (rA a b used n) (gD a b used n).2.2).Tag,(rec (lA a b used n) (rA a b used n) (gD a b used n).2.2).Kids)=_ from e]
  show some (⟨(uq rec a b used n n).Op,(uq rec a b used n n).Name,(uq rec a b used n n).Sort_,⟨(uq rec a b used n n).Pred.Op,(uq rec a b used n n).Pred.Name,(uq rec a b used n n).Pred.N,(uq rec a b used n n).Pred.Kids⟩,(uq rec a b used n n).Tag,(uq rec a b used n n).Kids⟩:ak)=_
  rw[JT]
 ·show bO R used ⟨m,tag⟩ (gD a b used n).1 (gD a b used n).2.1 (ys a b used n) (gD a b used n).2.2 ((n:Int) - 1 - (k:Int)) (uq rec a b used n k).Op (uq rec a b used n k).Name (uq rec a b used n k).Sort_ (uq rec a b used n k).Pred.Op (uq rec a b used n k).Pred.Name (uq rec a b used n k).Pred.N (uq rec a b used n k).Pred.Kids (uq rec a b used n k).Tag (uq rec a b used n k).Kids=_
  have hp:=VP h n hn hr hK k hk
  obtain⟨i,hi⟩:∃i,i=n - (k+1):=⟨_,rfl⟩
  have hin:i<n:=by omega
  rw[<-hi]at hp
  have ei:(n:Int) - 1 - (k:Int)=(i:Int):=by omega
  obtain⟨q1,q2,_,_⟩:=Oy h i n (by omega) (by omega)
  have ok:=h.child i (by omega)
  have ok1:=ok.1.lb
  have ok2:=ok.1.wb
  have w1:=uo (rA a b used i)
  have u1:=J4 a b used n
  have ht:=PM a b used i n (by omega)
  unfold bO
  rw[ei,vaj (by simp),dA (n:=(used.length:Int)+i) (by omega) (by omega),show((used.length:Int)+(i:Int))=((used.length+i:Nat):Int) by omega,Sm _ _ (by omega),ht,Kb q2,Kb q1]
  simp only[vaa]
  rw[(hR i (by omega)).1,Kb (W7 a b used i n hin)]
  simp only[vaa]
  rw[JT,Wr _ _ _ (by unfold bk;omega) (by unfold bk;omega)]
  simp only[vaa]
  rw[SA _ (vaH hp hB)]
  simp only[vaa]
  rw[dA (by omega) (by omega),show(i:Int) - 1=(n:Int) - 1 - ((k+1:Nat):Int) by omega]
  have:uq rec a b used n (k+1)=F5 (fS [rec (rA a b used i) (lA a b used i) (gD a b used i).2.2,G1 (rA a b used i) (SN a b (gD a b used i).2.2 i) (uq rec a b used n k)]):=by rw[uq,<-hi]
  rw[this]
  rfl
 ·show bO R used ⟨m,tag⟩ (gD a b used n).1 (gD a b used n).2.1 (ys a b used n) (gD a b used n).2.2 ((n:Int) - 1 - (n:Int)) (uq rec a b used n n).Op (uq rec a b used n n).Name (uq rec a b used n n).Sort_ (uq rec a b used n n).Pred.Op (uq rec a b used n n).Pred.Name (uq rec a b used n n).Pred.N (uq rec a b used n n).Pred.Kids (uq rec a b used n n).Tag (uq rec a b used n n).Kids=_
  unfold bO
  rw[van (by simp;omega)]
  rfl
def Fj(m:aR)(tag:Int):Nat->Rc
 |0=>fun _ _ _=>Y3
 |k+1=>fun a b used=>if a.Op=6 then(if a.Args.length=0 then F5 []else uq (Fj m tag k) a b used (a.Args.length - 1) (a.Args.length - 1))else if Ej a=true then Ek m tag a b used else F5 []
structure ZN(m:aR)(D:Nat):Prop where
 ds:m.Datas.length<=1048576
 dp:∀d∈m.Datas,d.Preds.length<=D
 D:D<=1048576
theorem Fr.nB{a b:ae}{used:List ag}{L:Nat}(h:Fr a b used L){D:Nat}(hD:D<=1048576):nB (2 * D+20) a b<=bk:=by
 have c1:=h.la;have c2:=h.lb;have c3:=h.wa;have c4:=h.wb
 have:(2 * D+20) * (cq a+cq b)<=(2 * 1048576+20) * 320:=vca (by omega) (by omega)
 show(2 * D+20) * (cq a+cq b)+4 * (wT a+wT b)<=bk
 unfold bk;omega
theorem wY{m:aR}{D:Nat}(hm:ZN m D)(tag:Int):∀(k:Nat) (a b:ae) (used:List ag) (L:Nat),Fr a b used L->nT a<=k->Ii (2 * D+20) (Fj m tag k) a b used
 |0,a,b,used,L,h,hk=>by have:1<=nT a:=mP _;omega
 | k + 1,a,b,used,L,h,hk => by
  have e:2 * (2 * D+20)<=(2 * D+20) * (cq a+cq b):=by
   rw[vcq];exact vbJ _ (by have:=mP a;have:=mP b;omega)
  have w1:=uo a
  have w2:=uo b
  have z:nC (F5 [])=2:=by simp[nC,rE,nP,nL,ic]
  unfold Ii
  show nC (if a.Op=6 then _ else _)+8+nP a.Pred+nP b.Pred<=(2 * D+20) * (cq a+cq b)+4 * (wT a+wT b)
  by_cases h6:a.Op=6
  ·rw[vaj h6]
   by_cases h0:a.Args.length=0
   ·rw[vaj h0,z];omega
   ·rw[van h0]
    have h2:=VO (K:=2 * D+20) (rec:=Fj m tag k) h (a.Args.length - 1) (by omega) (fun i hi=>by
     have hc:=h.child i hi
     exact⟨wY hm tag k _ _ _ _ hc.2.1 (by omega),wY hm tag k _ _ _ _ hc.1 (by omega)⟩) (a.Args.length - 1) (vah _)
    rw[vbB]at h2
    have h3:=MD (2 * D+20) a b (by omega)
    have h4:nB (2 * D+20) a b=(2 * D+20) * (cq a+cq b)+4 * (wT a+wT b):=rfl
    omega
  ·rw[van h6]
   by_cases hb:Ej a=true
   ·rw[vaj hb]
    have h2:=Xw m tag a b used D (JR m a.Name D hm.dp)
    omega
   ·rw[van hb,z];omega
theorem MG{rec rec':Rc}{a b:ae}{used:List ag}(n:Nat)(h:∀i,i<=n->rec (rA a b used i) (lA a b used i) (gD a b used i).2.2=rec' (rA a b used i) (lA a b used i) (gD a b used i).2.2/\rec (lA a b used i) (rA a b used i) (gD a b used i).2.2=rec' (lA a b used i) (rA a b used i) (gD a b used i).2.2):∀k,k<=n->uq rec a b used n k=uq rec' a b used n k
 |0,_=>(h n (vah _)).2
 |k+1,hk=>by
  rw[uq,uq,MG n h k (by omega),(h (n - (k+1)) (by omega)).1]
theorem BV{m:aR}(tag:Int):∀(k k':Nat) (a b:ae) (used:List ag) (L:Nat),Fr a b used L->nT a<=k->nT a<=k'->Fj m tag k a b used=Fj m tag k' a b used
 |0,k',a,b,used,L,h,hk,_=>by have:1<=nT a:=mP _;omega
 |k+1,0,a,b,used,L,h,_,hk=>by have:1<=nT a:=mP _;omega
 | k + 1,k' + 1,a,b,used,L,h,hk,hk' => by
  show(if a.Op=6 then _ else _)=(if a.Op=6 then _ else _)
  by_cases h6:a.Op=6
  ·rw[vaj h6,vaj h6]
   by_cases h0:a.Args.length=0
   ·rw[vaj h0,vaj h0]
   ·rw[van h0,van h0]
    refine MG _ (fun i hi=>?_) _ (vah _)
    have hc:=h.child i (by omega)
    exact⟨BV tag k k' _ _ _ _ hc.2.1 (by omega) (by omega),BV tag k k' _ _ _ _ hc.1 (by omega) (by omega)⟩
  ·rw[van h6,van h6]
def DP(m:aR)(tag:Int)(a b:ae)(used:List ag):ak:=Fj m tag (nT a) a b used
theorem Fr.b{m:aR}{D:Nat}(hm:ZN m D){a b:ae}{used:List ag}{L:Nat}(h:Fr a b used L):qdk m a b used where
 u:=by have:=h.u;omega
 la:=by have:=h.la;omega
 lb:=by have:=h.lb;omega
 wa:=by have:=h.wa;omega
 wb:=by have:=h.wb;omega
 ds:=by have:=hm.ds;omega
 dp:=fun d hd=>by have:=hm.dp d hd;have:=hm.D;omega
theorem WM{m:aR}{D:Nat}(hm:ZN m D)(tag:Int){a b:ae}{used:List ag}{L:Nat}(h:Fr a b used L):nI ⟨m,tag⟩ a b used=some (DP m tag a b used):=by
 refine jl (F:=lm) (fun x=>nT x.2.1) (fun x=>x.1=⟨m,tag⟩/\∃L,Fr x.2.1 x.2.2.1 x.2.2.2 L) (fun x=>DP m tag x.2.1 x.2.2.1 x.2.2.2) (fun R x hx ih=>?_) (⟨m,tag⟩,a,b,used) ⟨rfl,L,h⟩ (fq (by have:=Wi a;have:=h.la;show nT a<=bk;unfold bk;omega))
 obtain⟨w,a,b,used⟩:=x
 obtain⟨hw,L,h⟩:=hx
 have hw:w=⟨m,tag⟩:=hw
 subst hw
 have h:Fr a b used L:=h
 show ib (fun w a a2 used=>R (w,a,a2,used)) ⟨m,tag⟩ a b used=some (Fj m tag (nT a) a b used)
 obtain⟨k,hk⟩:∃k,nT a=k+1:=⟨nT a - 1,by have:1<=nT a:=mP _;omega⟩
 have hs:Fj m tag (nT a) a b used=if a.Op=6 then(if a.Args.length=0 then F5 []else uq (Fj m tag k) a b used (a.Args.length - 1) (a.Args.length - 1))else if Ej a=true then Ek m tag a b used else F5 []:=by rw[hk];rfl
 rw[hs]
 unfold ib
 by_cases h6:a.Op=6
 ·rw[vaj (by simpa using h6),vaj h6]
  by_cases h0:a.Args.length=0
  ·rw[vaj (by simp[h0]),vaj h0];rfl
  ·rw[van (by simpa using h0),van h0]
   have hc:∀i,i<a.Args.length->Fj m tag (nT (rA a b used i)) (rA a b used i) (lA a b used i) (gD a b used i).2.2=Fj m tag k (rA a b used i) (lA a b used i) (gD a b used i).2.2/\Fj m tag (nT (lA a b used i)) (lA a b used i) (rA a b used i) (gD a b used i).2.2=Fj m tag k (lA a b used i) (rA a b used i) (gD a b used i).2.2:=fun i hi=>by
    have hc:=h.child i hi
    exact⟨BV tag _ _ _ _ _ _ hc.2.1 (vah _) (by omega),BV tag _ _ _ _ _ _ hc.1 (vah _) (by omega)⟩
   rw[OR (fun w a a2 used=>R (w,a,a2,used)) m tag (K:=2 * D+20) (rec:=Fj m tag k) h (a.Args.length - 1) (by omega) (fun i hi=>by
    have hc:=h.child i hi
    exact⟨wY hm tag k _ _ _ _ hc.2.1 (by omega),wY hm tag k _ _ _ _ hc.1 (by omega)⟩) (by omega) (h.nB hm.D) (fun i hi=>by
    have hch:=h.child i hi
    have:=hc i hi
    exact⟨(ih (⟨m,tag⟩,rA a b used i,lA a b used i,(gD a b used i).2.2) (by show nT (rA a b used i)<nT a;omega) ⟨rfl,_,hch.2.1⟩).trans (vbp some this.1),(ih (⟨m,tag⟩,lA a b used i,rA a b used i,(gD a b used i).2.2) (by show nT (lA a b used i)<nT a;omega) ⟨rfl,_,hch.1⟩).trans (vbp some this.2)⟩)]
   rfl
 ·rw[van (by simpa using h6),van h6,Qh]
  simp only[vaa]
  cases hb:Ej a with
  |false=>rfl
  |true=>
   rw[van (by simp),vaj rfl,Ux m tag a b used (h.b hm)]
   rfl
theorem ZY{m:aR}{D:Nat}(hm:ZN m D)(tag:Int){a b:ae}{used:List ag}{L:Nat}(h:Fr a b used L):2 * nC (DP m tag a b used)<=2 * bk/\nC (DP m tag a b used)<=(2 * D+20) * (cq a+cq b)+4 * (wT a+wT b):=by
 have h1:=wY hm tag (nT a) a b used L h (vah _)
 have h2:=h.nB hm.D
 unfold Ii at h1
 unfold DP
 have h4:nB (2 * D+20) a b=(2 * D+20) * (cq a+cq b)+4 * (wT a+wT b):=rfl
 omega
theorem kL{α:Type}{l:List α}{i:Nat}{n most:Int}(h:i<l.length)(hm:n<=most):(if(decide ((i:Int)<(l.length:Int)))=true then some (decide (n<=most))else some false)=some true:=by
 rw[vaj (by simp;omega),vbr hm]
theorem gY{α:Type}{l:List α}{i:Nat}{n most:Int}(h:i=l.length\/¬n<=most):(if(decide ((i:Int)<(l.length:Int)))=true then some (decide (n<=most))else some false)=some false:=by
 by_cases hi:i<l.length
 ·rw[vaj (by simp;omega)]
  rcases h with h|h
  ·omega
  ·rw[decide_eq_false h]
 ·rw[van (by simp;omega)]
theorem O2{α:Type}(l:List α)(hl:l.length<9223372036854775808){body:Int×Int->Option ((Int×Int)⊕Int)}(most:Int)(I:Nat->Int->Prop)
  (hin:∀(i:Nat) (h:i<l.length) n,I i n->n<=most->eK (body (n,(i:Int))) (fun r=>∃n',r=.inl (n',aO ((i:Int)+1))/\I (i+1) n'))
  (hout:∀(i:Nat) n,i<=l.length->(i=l.length\/¬n<=most)->body (n,(i:Int))=some (.inr n)) (n:Int) (h0:I 0 n):eK (loop body (n,0)) (fun r=>∃i,i<=l.length/\I i r/\(i=l.length\/¬r<=most)):=by
 have key:∀k i n,k+i=l.length->I i n->eK (loop body (n,(i:Int))) (fun r=>∃i,i<=l.length/\I i r/\(i=l.length\/¬r<=most)):=by
  intro k
  induction k with
  |zero=>
   intro i n hi hI
   rw[oS,hout i n (by omega) (.inl (by omega))]
   exact aj ⟨i,by omega,hI,.inl (by omega)⟩
  | succ k ih =>
   intro i n hi hI
   by_cases hm:n<=most
   ·obtain⟨r,e,n',rfl,hI'⟩:=hin i (by omega) n hI hm
    rw[oS,e]
    simp only
    rw[dA (by omega) (by omega),show((i:Int)+1)=((i+1:Nat):Int) by omega]
    exact ih (i+1) n' (by omega) hI'
   ·rw[oS,hout i n (by omega) (.inr hm)]
    exact aj ⟨i,by omega,hI,.inr hm⟩
 exact key l.length 0 n (by omega) h0
theorem WQ(a b:Nat)(hb:0<b)(ha:a<9223372036854775808):qu .i64 (a:Int) (b:Int)=some ((a / b:Nat):Int):=by
 unfold qu
 rw[van (by omega)]
 have h:((a:Int).tdiv (b:Int))=((a / b:Nat):Int):=by
  rw[vb5 (by omega)];rfl
 rw[h]
 have h2:=vcx a b
 generalize a / b=q at *
 congr 1
 exact dA (by omega) (by omega)
theorem AV(p:aa):fU (ac p)=1+(p.Name.length+1+(1+(bK (p.Kids.map ac)+1+0))):=by
 rw[aE];simp only[fU,pm,sl]
theorem MX{α:Type}(c:α->List PVal)(l:List α)(i:Nat)(h:i<l.length):bK ((l.take (i+1)).map c)=bK ((l.take i).map c)+fU (c l[i]):=by
 rw[vaM h,vbG]
 have:∀(a b:List (List PVal)),bK (a++b)=bK a+bK b:=by
  intro a
  induction a with
  |nil=>intro b;simp[bK]
  |cons x a ih=>intro b;rw[vaG,bK,ih,bK];omega
 rw[this]
 simp[bK]
theorem sN{α:Type}(c:α->List PVal)(l:List α)(i:Nat):bK ((l.take i).map c)<=bK (l.map c):=by
 have:∀(l:List α) (i:Nat),bK ((l.take i).map c)<=bK (l.map c):=by
  intro l
  induction l with
  |nil=>intro i;simp
  |cons x l ih=>
   intro i
   cases i with
   |zero=>simp[bK]
   |succ i=>have:=ih i;simp only[List.take_succ_cons,vax,bK];omega
 exact this l i
theorem pV{α:Type}(c:α->List PVal)(h:∀x,1<=fU (c x)):∀(l:List α),l.length<=bK (l.map c)
 |[]=>by simp
 |x::l=>by have:=pV c h l;have:=h x;simp only[vax,bK,vaO];omega
theorem Qq(p:aa):1<=fU (ac p):=by rw[AV];omega
theorem Qb(l:List aa):nL (l.take l.length)=nL l:=by rw[vbn]
abbrev xg:Nat:=4000000
structure qa1(l:List aa)(most r:Int):Prop where
 lo:0<=r
 hi:r<=(bK (l.map ac):Int)
 sm:r<=most->(nL l:Int)<=r
theorem X3(l:List aa)(most:Int)(hl:bK (l.map ac)<=xg)(h1: -8000000<=most)(h2:most<=1000000000):eK (FF l most) (qa1 l most):=by
 refine lq (F:=zU) (fun x=>bK (x.1.map ac)) (fun x=>bK (x.1.map ac)<=xg/\-8000000<=x.2/\x.2<=1000000000) (fun x r=>qa1 x.1 x.2 r) (fun R x hx ih=>?_) (l,most) ⟨hl,h1,h2⟩ (fq (vaH hl (by decide)))
 obtain⟨l,most⟩:=x
 obtain⟨hl,h1,h2⟩:=hx
 have hl:bK (l.map ac)<=xg:=hl
 have h1: -8000000<=most:=h1
 have h2:most<=1000000000:=h2
 have hlen:=pV ac Qq l
 show eK (uL (fun a most=>R (a,most)) l most) _
 unfold uL xw
 unfold xg at hl
 refine au (O2 l (by omega) most (fun i n=>0<=n/\n<=(bK ((l.take i).map ac):Int)/\(n<=most->(nL (l.take i):Int)<=n)) (fun i hi n hI hm=>?_) (fun i n _ h=>?_) 0 ⟨by omega,by omega,fun _=>by simp[nL]⟩) (fun r hr=>aj ?_)
 ·obtain⟨g1,g2,g3⟩:=hI
  have e:=MX ac l i hi
  have e2:=sN ac l (i+1)
  have ep:=AV l[i]
  have en:=EO l i hi
  have enp:=Ku l[i]
  show eK (iG (fun a most=>R (a,most)) l most n i) _
  unfold iG sj
  rw[kL hi hm,bj l i hi]
  simp only[vaa,if_true]
  have hq:=vcx l[i].Name.length 50
  rw[show(50:Int)=((50:Nat):Int)from rfl,WQ _ 50 (by omega) (by omega)]
  simp only[vaa]
  rw[dA (n:=n+1) (by omega) (by omega),dA (n:=n+1+_) (by omega) (by omega),dA (n:=most - _) (by omega) (by omega)]
  refine au (ih (l[i].Kids,most - (n+1+((l[i].Name.length / 50:Nat):Int))) (by show _<bK (l.map ac);show bK (l[i].Kids.map ac)<_;omega) ⟨by show bK (l[i].Kids.map ac)<=xg;unfold xg;omega,by show -8000000<=most - _;omega,by show most - _<=1000000000;omega⟩) (fun r hr=>?_)
  have q1:=hr.lo
  have q2:r<=(bK (l[i].Kids.map ac):Int):=hr.hi
  have q3:r<=most - (n+1+((l[i].Name.length / 50:Nat):Int))->(nL l[i].Kids:Int)<=r:=hr.sm
  rw[dA (n:=n+1+_+r) (by omega) (by omega)]
  refine aj ⟨_,rfl,by omega,by omega,fun hm'=>?_⟩
  have:=q3 (by omega)
  have:=g3 hm
  omega
 ·show iG (fun a most=>R (a,most)) l most n i=_
  unfold iG sj
  rw[gY h]
  rfl
 ·obtain⟨i,hi,⟨g1,g2,g3⟩,h⟩:=hr
  have e2:=sN ac l i
  refine⟨g1,by show r<=(bK (l.map ac):Int);omega,fun hm=>?_⟩
  have hm:r<=most:=hm
  have:i=l.length:=by
   rcases h with h|h
   ·exact h
   ·exact absurd hm h
  subst this
  rw[Qb]at g3
  exact g3 hm
theorem RQ(l:List ae)(i:Nat)(h:i<l.length):cG (l.take (i+1))=cG (l.take i)+cq l[i]:=by
 have ap:∀(a b:List ae),cG (a++b)=cG a+cG b:=by
  intro a
  induction a with
  |nil=>intro b;simp[cG]
  |cons x a ih=>intro b;rw[vaG,cG,ih,cG];omega
 rw[vaM h,ap]
 simp[cG]
theorem Qu(t:ae):1<=fU (af t):=by rw[wR];omega
theorem M1(t:ae):fU (af t)=1+(t.Name.length+1)+(bK (t.Args.map af)+1)+(bK (t.Names.map cS)+1)+fU (ac t.Pred)+(bK (t.Preds.map ac)+1):=by
 rw[wR,AV];simp only[pm,sl];omega
structure qa2(l:List ae)(most r:Int):Prop where
 lo:0<=r
 hi:r<=(bK (l.map af):Int)
 sm:r<=most->(cG l:Int)<=r/\(sY l:Int)<=r
theorem Yo(l:List ae)(most:Int)(hl:bK (l.map af)<=xg)(h1: -8000000<=most)(h2:most<=1000000000):eK (Bn l most) (qa2 l most):=by
 refine lq (F:=zV) (fun x=>bK (x.1.map af)) (fun x=>bK (x.1.map af)<=xg/\-8000000<=x.2/\x.2<=1000000000) (fun x r=>qa2 x.1 x.2 r) (fun R x hx ih=>?_) (l,most) ⟨hl,h1,h2⟩ (fq (vaH hl (by decide)))
 obtain⟨l,most⟩:=x
 obtain⟨hl,h1,h2⟩:=hx
 have hl:bK (l.map af)<=xg:=hl
 have h1: -8000000<=most:=h1
 have h2:most<=1000000000:=h2
 have hlen:=pV af Qu l
 show eK (uM (fun a most=>R (a,most)) l most) _
 unfold uM xx
 unfold xg at hl
 refine au (O2 l (by omega) most (fun i n=>0<=n/\n<=(bK ((l.take i).map af):Int)/\(n<=most->(cG (l.take i):Int)<=n/\(sY (l.take i):Int)<=n)) (fun i hi n hI hm=>?_) (fun i n _ h=>?_) 0 ⟨by omega,by omega,fun _=>by simp[cG,sY]⟩) (fun r hr=>aj ?_)
 ·obtain⟨g1,g2,g3⟩:=hI
  have e:=MX af l i hi
  have e2:=sN af l (i+1)
  have ep:=M1 l[i]
  have epp:=AV l[i].Pred
  have en:=RQ l i hi
  have en2:=K2 l i hi
  have enp:=qw l[i]
  have enp2:=uo l[i]
  have hns:=V4 l[i].Names
  have hps:=YT l[i].Preds
  have hpl:=pQ l[i].Preds
  show eK (iH (fun a most=>R (a,most)) l most n i) _
  unfold iH sk
  rw[kL hi hm,bj l i hi]
  simp only[vaa,if_true]
  have hq:=vcx l[i].Name.length 50
  rw[show(50:Int)=((50:Nat):Int)from rfl,WQ _ 50 (by omega) (by omega)]
  simp only[vaa]
  rw[dG (by simp;omega)]
  simp only[vaa]
  refine au (X3 ([l[i].Pred]++l[i].Preds) most (by unfold xg;simp only[List.singleton_append,vax,bK];omega) h1 h2) (fun rp hp=>?_)
  have p1:=hp.lo
  have p2:rp<=((fU (ac l[i].Pred)+bK (l[i].Preds.map ac):Nat):Int):=by
   have:=hp.hi
   simp only[List.singleton_append,vax,bK]at this
   exact this
  have p3:rp<=most->((nP l[i].Pred+nL l[i].Preds:Nat):Int)<=rp:=by
   have:=hp.sm
   simp only[List.singleton_append,nL]at this
   exact this
  rw[dA (n:=n+1) (by omega) (by omega),dA (n:=n+1+_) (by omega) (by omega),dA (n:=n+1+_+_) (by omega) (by omega),dA (n:=n+1+_+_+_) (by omega) (by omega),dA (n:=most - _) (by omega) (by omega)]
  refine au (ih (l[i].Args,most - (n+1+((l[i].Name.length / 50:Nat):Int)+(l[i].Names.length:Int)+rp)) (by show _<bK (l.map af);show bK (l[i].Args.map af)<_;omega) ⟨by show bK (l[i].Args.map af)<=xg;unfold xg;omega,by show -8000000<=most - _;omega,by show most - _<=1000000000;omega⟩) (fun r hr=>?_)
  have q1:=hr.lo
  have q2:r<=(bK (l[i].Args.map af):Int):=hr.hi
  have q3:r<=most - (n+1+((l[i].Name.length / 50:Nat):Int)+(l[i].Names.length:Int)+rp)->(cG l[i].Args:Int)<=r/\(sY l[i].Args:Int)<=r:=hr.sm
  rw[dA (n:=_+r) (by omega) (by omega)]
  refine aj ⟨_,rfl,by omega,by omega,fun hm'=>?_⟩
  have:=q3 (by omega)
  have:=p3 (by omega)
  have:=g3 hm
  have:=OJ l[i].Pred
  omega
 ·show iH (fun a most=>R (a,most)) l most n i=_
  unfold iH sk
  rw[gY h]
  rfl
 ·obtain⟨i,hi,⟨g1,g2,g3⟩,h⟩:=hr
  have e2:=sN af l i
  refine⟨g1,by show r<=(bK (l.map af):Int);omega,fun hm=>?_⟩
  have hm:r<=most:=hm
  have:i=l.length:=by
   rcases h with h|h
   ·exact h
   ·exact absurd hm h
  subst this
  rw[vbn]at g3
  exact g3 hm
theorem Zz(l:List ae)(most:Int)(hl:bK (l.map af)<=xg)(h1:0<=most)(h2:most<=1000000000):eK (D3 ⟨0,[],0,[],[],[],l⟩ most) (fun r=>0<=r/\(r<=most->(cG l:Int)<=r/\(sY l:Int)<=r)):=by
 unfold D3
 refine lq (F:=C1) (fun _=>0) (fun x=>x=(⟨0,[],0,[],[],[],l⟩,most)) (fun _ r=>0<=r/\(r<=most->(cG l:Int)<=r/\(sY l:Int)<=r)) (fun R x hx ih=>?_) _ rfl (fq (by decide))
 rw[hx]
 show eK (xv (fun a most=>R (a,most)) ⟨0,[],0,[],[],[],l⟩ most) _
 unfold xv
 refine cp (a:=0) (show qu .i64 0 50=some 0 by decide) ?_
 refine au (Yo l most hl (by omega) h2) (fun r hr=>?_)
 have q1:=hr.lo
 have q2:=hr.hi
 have q3:=hr.sm
 unfold xg at hl
 rw[dA (n:=1+0) (by omega) (by omega),dA (n:=1+0+r) (by omega) (by omega)]
 refine cp (a:=1+0+r) ?_ (cp (a:=1+0+r) ?_ (cp (a:=1+0+r) ?_ (aj ⟨by omega,fun h=>⟨by have:=(q3 (by omega)).1;omega,by have:=(q3 (by omega)).2;omega⟩⟩)))
 ·exact j5 rfl
 ·exact j5 rfl
 ·exact j5 rfl
theorem gB{α:Type}(l:List α)(hl:l.length<9223372036854775808){body:Int×Int->Option ((Int×Int)⊕Int)}(most:Int)
  (hin:∀(i:Nat) (h:i<l.length) n,n<=most->eK (body (n,(i:Int))) (fun r=>∃n',r=.inl (n',aO ((i:Int)+1))))
  (hout:∀(i:Nat) n,i<=l.length->(i=l.length\/¬n<=most)->body (n,(i:Int))=some (.inr n)) (n:Int):eK (loop body (n,0)) (fun _=>True):=
 (O2 l hl most (fun _ _=>True) (fun i h n _ hm=>(hin i h n hm).mono fun r ⟨n',e⟩=>⟨n',e,trivial⟩) hout n trivial).mono fun _ _=>trivial
theorem GG(k:IntKind)(a b:Int)(hb:b≠0):eK (qu k a b) (fun _=>True):=by
 unfold qu;rw[van hb];exact aj trivial
theorem yn(l:List aa)(most:Int)(hl:bK (l.map ac)<=xg):eK (ed l most) (fun _=>True):=by
 refine lq (F:=pH) (fun x=>bK (x.1.map ac)) (fun x=>bK (x.1.map ac)<=xg) (fun _ _=>True) (fun R x hx ih=>?_) (l,most) hl (fq (vaH hl (by decide)))
 obtain⟨l,most⟩:=x
 have hl:bK (l.map ac)<=xg:=hx
 have hlen:=pV ac Qq l
 show eK (ly (fun a most=>R (a,most)) l most) _
 unfold ly oz
 unfold xg at hl
 refine au (gB l (by omega) most (fun i hi n hm=>?_) (fun i n _ h=>?_) 0) (fun r _=>aj trivial)
 ·have e:=ua (vap.2 ⟨_,vat hi,rfl⟩:ac l[i]∈l.map ac)
  have ep:=AV l[i]
  show eK (eE (fun a most=>R (a,most)) l most n i) _
  unfold eE kc
  rw[kL hi hm,bj l i hi]
  simp only[vaa,if_true]
  exact au (GG _ _ _ (by decide)) fun q _=>au (ih (l[i].Kids,_) (by show bK (l[i].Kids.map ac)<bK (l.map ac);omega) (by show bK (l[i].Kids.map ac)<=xg;unfold xg;omega)) fun r _=>aj ⟨_,rfl⟩
 ·show eE (fun a most=>R (a,most)) l most n i=_
  unfold eE kc
  rw[gY h]
  rfl
theorem OT(p:aa):bK ([p].map ac)=fU (ac p):=by simp[bK]
theorem BW(l:List ae)(most:Int)(hl:bK (l.map af)<=xg):eK (fh l most) (fun _=>True):=by
 refine lq (F:=pI) (fun x=>bK (x.1.map af)) (fun x=>bK (x.1.map af)<=xg) (fun _ _=>True) (fun R x hx ih=>?_) (l,most) hl (fq (vaH hl (by decide)))
 obtain⟨l,most⟩:=x
 have hl:bK (l.map af)<=xg:=hx
 have hlen:=pV af Qu l
 show eK (lz (fun a most=>R (a,most)) l most) _
 unfold lz oA
 unfold xg at hl
 refine au (gB l (by omega) most (fun i hi n hm=>?_) (fun i n _ h=>?_) 0) (fun r _=>aj trivial)
 ·have e:=ua (vap.2 ⟨_,vat hi,rfl⟩:af l[i]∈l.map af)
  have ep:=M1 l[i]
  show eK (eG (fun a most=>R (a,most)) l most n i) _
  unfold eG ke
  rw[kL hi hm,bj l i hi]
  simp only[vaa,if_true]
  exact au (GG _ _ _ (by decide)) fun q _=>au (yn _ _ (by unfold xg;omega)) fun _ _=>au (yn _ _ (by rw[OT];unfold xg;omega)) fun _ _=>au (ih (l[i].Args,_) (by show bK (l[i].Args.map af)<bK (l.map af);omega) (by show bK (l[i].Args.map af)<=xg;unfold xg;omega)) fun r _=>aj ⟨_,rfl⟩
 ·show eG (fun a most=>R (a,most)) l most n i=_
  unfold eG ke
  rw[gY h]
  rfl
theorem EV(t:ae):bK ([t].map af)=fU (af t):=by simp[bK]
theorem Qs(e:bH):fU (aN e)=1+(e.Name.length+1)+1+(bK (e.Kids.map aN)+1)+(bK (e.Params.map dv)+1)+(bK (e.Alts.map eL)+1)+(bK (e.Types.map af)+1):=by
 rw[dE];simp only[fU,pm,sl];omega
theorem Tc(a:rj):fU (eL a)=(a.Con.length+1)+(bK (a.Names.map cS)+1)+fU (aN a.Body):=by
 rw[qt,dE];simp only[fU,pm,sl];omega
theorem M0(a:nJ):fU (dv a)=(a.Name.length+1)+fU (af a.Type_):=by
 unfold dv;rw[eu];simp only[fU,pm]
theorem Gl(α:Type){c:α->List PVal}(h:∀x,1<=fU (c x)){l:List α}(hl:bK (l.map c)<=xg):l.length<9223372036854775808:=by
 have:=pV c h l
 unfold xg at hl;omega
theorem Gn{α:Type}{c:α->List PVal}{l:List α}{i:Nat}(h:i<l.length):fU (c l[i])<=bK (l.map c):=ua (vap.2 ⟨_,vat h,rfl⟩)
theorem XX(e:bH)(most:Int)(he:fU (aN e)<=xg):eK (FJ e most) (fun _=>True):=by
 refine lq (F:=zW) (fun x=>fU (aN x.1)) (fun x=>fU (aN x.1)<=xg) (fun _ _=>True) (fun R x hx ih=>?_) (e,most) he (fq (vaH he (by decide)))
 obtain⟨e,most⟩:=x
 have he:fU (aN e)<=xg:=hx
 have hp:=Qs e
 show eK (uN (fun a most=>R (a,most)) e most) _
 unfold uN xy xz xA
 refine au (GG _ _ _ (by decide)) fun q _=>au (BW _ _ (by omega)) fun _ _=>au (gB e.Params (Gl _ (fun x=>by rw[M0];omega) (c:=dv) (by omega)) most (fun i hi n hm=>?_) (fun i n _ h=>?_) _) fun _ _=>au (gB e.Kids (Gl _ (fun x=>by rw[Qs];omega) (c:=aN) (by omega)) most (fun i hi n hm=>?_) (fun i n _ h=>?_) _) fun _ _=>au (gB e.Alts (Gl _ (fun x=>by rw[Tc];omega) (c:=eL) (by omega)) most (fun i hi n hm=>?_) (fun i n _ h=>?_) _) fun _ _=>aj trivial
 ·have:=Gn (c:=dv) hi
  have:=M0 e.Params[i]
  show eK (iI most e n i) _
  unfold iI sn
  rw[kL hi hm,bj _ i hi]
  simp only[vaa,if_true]
  exact au (GG _ _ _ (by decide)) fun q _=>au (BW _ _ (by rw[EV];omega)) fun r _=>aj ⟨_,rfl⟩
 ·show iI most e n i=_
  unfold iI sn
  rw[gY h]
  rfl
 ·have:=Gn (c:=aN) hi
  show eK (iJ (fun a most=>R (a,most)) most e n i) _
  unfold iJ sq
  rw[kL hi hm,bj _ i hi]
  simp only[vaa,if_true]
  exact au (ih (e.Kids[i],_) (by show fU (aN e.Kids[i])<fU (aN e);omega) (by show fU (aN e.Kids[i])<=xg;omega)) fun r _=>aj ⟨_,rfl⟩
 ·show iJ (fun a most=>R (a,most)) most e n i=_
  unfold iJ sq
  rw[gY h]
  rfl
 ·have:=Gn (c:=eL) hi
  have:=Tc e.Alts[i]
  show eK (iK (fun a most=>R (a,most)) most e n i) _
  unfold iK su
  rw[kL hi hm,bj _ i hi]
  simp only[vaa,if_true]
  exact au (ih (e.Alts[i].Body,_) (by show fU (aN e.Alts[i].Body)<fU (aN e);omega) (by show fU (aN e.Alts[i].Body)<=xg;omega)) fun r _=>aj ⟨_,rfl⟩
 ·show iK (fun a most=>R (a,most)) most e n i=_
  unfold iK su
  rw[gY h]
  rfl
theorem MY(b:lp):fU (cy b)=(b.Name.length+1)+(bK (b.Vars.map bA)+1)+fU (ac b.Hyp)+fU (ac b.Goal):=by
 unfold cy;simp only[eu,fU,pm,sl];omega
theorem X2(b:US):(bK (b.Bounds.map cy)+1)+fU (af b.Type_)+(bK (b.Metric.map ac)+1)<=fU (xU b):=by
 unfold xU;simp only[eu,fU,pm,sl];omega
theorem Te(b:pu):(b.Name.length+1)+fU (aN b.Body)+fU (xU b.Sig)<=fU (cP b):=by
 unfold cP;simp only[eu,fU,pm,sl];omega
theorem VG(l:List pu)(most:Int)(hl:bK (l.map cP)<=xg):eK (mF l most) (fun _=>True):=by
 unfold mF pF
 refine au (gB l (Gl _ (fun x=>by have:=Te x;omega) hl) most (fun i hi n hm=>?_) (fun i n _ h=>?_) _) fun _ _=>aj trivial
 ·have h1:=Gn (c:=cP) hi
  have h2:=Te l[i]
  have h3:=X2 l[i].Sig
  show eK (eW l most n i) _
  unfold eW lw pG
  rw[kL hi hm,bj _ i hi]
  simp only[vaa,if_true]
  refine au (GG _ _ _ (by decide)) fun q _=>au (BW _ _ (by rw[EV];omega)) fun r _=>au (yn _ _ (by omega)) fun _ _=>au (gB l[i].Sig.Bounds (Gl _ (fun x=>by rw[MY];omega) (c:=cy) (by omega)) most (fun k hk n hm=>?_) (fun k n _ h=>?_) _) fun _ _=>au (XX _ _ (by omega)) fun _ _=>aj ⟨_,rfl⟩
  ·have h4:=Gn (c:=cy) hk
   have h5:=MY l[i].Sig.Bounds[k]
   show eK (eX most l[i].Sig.Bounds n k) _
   unfold eX lx
   rw[kL hk hm,bj _ k hk]
   simp only[vaa,if_true]
   exact au (yn _ _ (by simp only[vax,vbU,bK];omega)) fun _ _=>aj ⟨_,rfl⟩
  ·show eX most l[i].Sig.Bounds n k=_
   unfold eX lx
   rw[gY h]
   rfl
 ·show eW l most n i=_
  unfold eW lw
  rw[gY h]
  rfl
theorem KH(m:aR):fU (aC m)=(bK (m.Datas.map cj)+1)+(bK (m.Classes.map eS)+1)+(bK (m.Instances.map bL)+1)+(bK (m.Measures.map cC)+1)+(bK (m.Quals.map eQ)+1)+(bK (m.Defs.map cP)+1):=by
 unfold aC;simp only[fU,pm,sl];omega
theorem EW(b:eV):fU (cj b)=(b.Name.length+1)+(bK (b.Vars.map cS)+1)+(bK (b.Preds.map bA)+1)+(bK (b.Cons.map eg)+1):=by
 unfold cj;simp only[eu,fU,pm,sl];omega
theorem Td(b:iv):fU (eg b)=(b.Name.length+1)+(bK (b.Names.map cS)+1)+(bK (b.Fields.map af)+1):=by
 unfold eg;simp only[eu,fU,pm,sl];omega
theorem MZ(b:po):fU (eS b)=(b.Name.length+1)+(b.Var.length+1)+(bK (b.Methods.map dI)+1):=by
 unfold eS;simp only[eu,fU,pm,sl];omega
theorem KG(b:qD):fU (dI b)=(b.Name.length+1)+fU (af b.Type_):=by
 unfold dI;simp only[eu,fU,pm,sl]
theorem EY(b:dM):1+fU (af b.Type_)+(bK (b.Defs.map cP)+1)<=fU (bL b):=by
 unfold bL;simp only[eu,fU,pm,sl];omega
theorem Hh(b:f0):1+(bK (b.Cases.map fb)+1)+fU (ac b.Inv)<=fU (cC b):=by
 unfold cC;simp only[eu,fU,pm,sl];omega
theorem Qr(b:yQ):1+fU (ac b.Body)<=fU (fb b):=by
 unfold fb;simp only[eu,fU,pm,sl];omega
theorem Qt(b:sa):1+fU (ac b.Body)<=fU (eQ b):=by
 unfold eQ;simp only[eu,fU,pm,sl];omega
theorem Yi(m:aR)(hm:fU (aC m)<=xg):eK (Bo m) (fun _=>True):=by
 have hp:=KH m
 unfold Bo
 refine au (R:=fun _=>True) ?_ fun o _=>aG (fun _=>aj trivial) fun _=>?_
 ·unfold xB
  exact aG (fun _=>aj trivial) fun _=>aG (fun _=>aj trivial) fun _=>aG (fun _=>aj trivial) fun _=>aG (fun _=>aj trivial) fun _=>aG (fun _=>aj trivial) fun _=>aj trivial
 unfold xC xE vU vV vX
 refine au (VG _ _ (by omega)) fun _ _=>au (gB m.Datas (Gl _ (fun x=>by rw[EW];omega) (c:=cj) (by omega)) 4000 (fun i hi n hn=>?_) (fun i n hi h=>?_) _) fun _ _=>au (gB m.Classes (Gl _ (fun x=>by rw[MZ];omega) (c:=eS) (by omega)) 4000 (fun i hi n hn=>?_) (fun i n hi h=>?_) _) fun _ _=>au (gB m.Instances (Gl _ (fun x=>by have:=EY x;omega) (c:=bL) (by omega)) 4000 (fun i hi n hn=>?_) (fun i n hi h=>?_) _) fun _ _=>au (gB m.Measures (Gl _ (fun x=>by have:=Hh x;omega) (c:=cC) (by omega)) 4000 (fun i hi n hn=>?_) (fun i n hi h=>?_) _) fun _ _=>au (gB m.Quals (Gl _ (fun x=>by have:=Qt x;omega) (c:=eQ) (by omega)) 4000 (fun i hi n hn=>?_) (fun i n hi h=>?_) _) fun _ _=>aj trivial
 ·have h1:=Gn (c:=cj) hi
  have h2:=EW m.Datas[i]
  show eK (iL m n i) _
  unfold iL sw xD
  rw[kL hi hn,bj _ i hi]
  simp only[vaa,if_true]
  refine au (GG _ _ _ (by decide)) fun q _=>au (gB m.Datas[i].Cons (Gl _ (fun x=>by rw[Td];omega) (c:=eg) (by omega)) 4000 (fun k hk n hn=>?_) (fun k n _ h=>?_) _) fun _ _=>aj ⟨_,rfl⟩
  ·have h3:=Gn (c:=eg) hk
   have h4:=Td m.Datas[i].Cons[k]
   show eK (iM m i n k) _
   unfold iM sA
   rw[bj _ i hi]
   simp only[vaa]
   rw[kL hk hn,bj _ k hk]
   simp only[vaa,if_true]
   exact au (BW _ _ (by omega)) fun _ _=>aj ⟨_,rfl⟩
  ·show iM m i n k=_
   unfold iM sA
   rw[bj _ i hi]
   simp only[vaa]
   rw[gY h]
   rfl
 ·show iL m n i=_
  unfold iL sw
  rw[gY h]
  rfl
 ·have h1:=Gn (c:=eS) hi
  have h2:=MZ m.Classes[i]
  show eK (iN m n i) _
  unfold iN sB xF
  rw[kL hi hn]
  simp only[vaa,if_true]
  refine au (gB m.Classes[i].Methods (Gl _ (fun x=>by rw[KG];omega) (c:=dI) (by omega)) 4000 (fun k hk n hn=>?_) (fun k n _ h=>?_) _) fun _ _=>aj ⟨_,rfl⟩
  ·have h3:=Gn (c:=dI) hk
   have h4:=KG m.Classes[i].Methods[k]
   show eK (iO m i n k) _
   unfold iO sC
   rw[bj _ i hi]
   simp only[vaa]
   rw[kL hk hn,bj _ k hk]
   simp only[vaa,if_true]
   exact au (BW _ _ (by rw[EV];omega)) fun _ _=>aj ⟨_,rfl⟩
  ·show iO m i n k=_
   unfold iO sC
   rw[bj _ i hi]
   simp only[vaa]
   rw[gY h]
   rfl
 ·show iN m n i=_
  unfold iN sB
  rw[gY h]
  rfl
 ·have h1:=Gn (c:=bL) hi
  have h2:=EY m.Instances[i]
  show eK (gK m n i) _
  unfold gK ql
  rw[kL hi hn,bj _ i hi]
  simp only[vaa,if_true]
  exact au (BW _ _ (by rw[EV];omega)) fun _ _=>au (VG _ _ (by omega)) fun _ _=>aj ⟨_,rfl⟩
 ·show gK m n i=_
  unfold gK ql
  rw[gY h]
  rfl
 ·have h1:=Gn (c:=cC) hi
  have h2:=Hh m.Measures[i]
  show eK (gL m n i) _
  unfold gL qm vW
  rw[kL hi hn,bj _ i hi]
  simp only[vaa,if_true]
  refine au (yn _ _ (by rw[OT];omega)) fun _ _=>au (gB m.Measures[i].Cases (Gl _ (fun x=>by have:=Qr x;omega) (c:=fb) (by omega)) 4000 (fun k hk n hn=>?_) (fun k n _ h=>?_) _) fun _ _=>aj ⟨_,rfl⟩
  ·have h3:=Gn (c:=fb) hk
   have h4:=Qr m.Measures[i].Cases[k]
   show eK (gM m i n k) _
   unfold gM qn
   rw[bj _ i hi]
   simp only[vaa]
   rw[kL hk hn,bj _ k hk]
   simp only[vaa,if_true]
   exact au (yn _ _ (by rw[OT];omega)) fun _ _=>aj ⟨_,rfl⟩
  ·show gM m i n k=_
   unfold gM qn
   rw[bj _ i hi]
   simp only[vaa]
   rw[gY h]
   rfl
 ·show gL m n i=_
  unfold gL qm
  rw[gY h]
  rfl
 ·have h1:=Gn (c:=eQ) hi
  have h2:=Qt m.Quals[i]
  show eK (gN m n i) _
  unfold gN qo
  rw[kL hi hn,bj _ i hi]
  simp only[vaa,if_true]
  exact au (yn _ _ (by rw[OT];omega)) fun _ _=>aj ⟨_,rfl⟩
 ·show gN m n i=_
  unfold gN qo
  rw[gY h]
  rfl
theorem JD:Bq=some true:=by kernel_rfl
theorem Yj(t:ae)(h:fU (af t)<=1048576):eK (Br t) (fun r=>(!r)=true\/(cq t<=160/\wT t<=160)):=by
 unfold Br
 refine au (Zz [t] 150 (by rw[EV];unfold xg;omega) (by omega) (by omega)) fun r hr=>aj ?_
 by_cases hc:r<=150
 ·have h1:=hr.2 hc
  simp only[cG,sY]at h1
  exact .inr ⟨by omega,by omega⟩
 ·exact .inl (by simp;omega)
theorem qbg(l:List ag)(h:l.length<9223372036854775808):eK (IA l) (fun _=>True):=by
 unfold IA C8
 refine au (xa l h (fun i (_:Unit)=>i) (fun _ _=>True) (Q:=fun _=>True) (fun i hi s _=>?_) (fun s _=>?_) () trivial) fun o _=>by cases o<;>exact aj trivial
 ·show eK (lE l (i:Int)) _
  unfold lE C7
  rw[vaj (by simp;omega)]
  refine au (R:=fun _=>True) (aG (fun _=>aj trivial) fun _=>cp (bj l i hi) (aj trivial)) fun o _=>aG (fun _=>aj trivial) fun _=>aj ⟨(),rfl,trivial⟩
 ·show eK (lE l (l.length:Int)) _
  unfold lE
  rw[van (by simp)]
  exact aj trivial
theorem Zx{t:ae}(h:fU (af t)<=1048576):cq t<=bk/\F6 (fun p=>nP p<=bk) t:=⟨by have:=SY t;unfold bk;omega,Mp (fun p hp=>vaH hp (by decide)) t (Sw 1048576 t h)⟩
theorem KF{α:Type}(c:α->List PVal)(h:∀x,2<=fU (c x)):∀(l:List α),2 * l.length<=bK (l.map c)
 |[]=>by simp
 |x::l=>by have:=KF c h l;have:=h x;simp only[vax,bK,vaO];omega
theorem ZO{m:aR}(h:fU (aC m)<=1048576):ZN m 524288:=by
 have hp:=KH m
 have hd:=pV cj (fun x=>by rw[EW];omega) m.Datas
 refine⟨by omega,fun d hd'=>?_,by decide⟩
 have h1:=ua (vap.2 ⟨d,hd',rfl⟩:cj d∈m.Datas.map cj)
 have h2:=EW d
 have h3:=KF bA (fun x=>by unfold bA;simp only[fU,pm];omega) d.Preds
 omega
theorem XW{m:aR}{a b:ae}{used:List ag}{L D:Nat}(hm:ZN m D)(tag:Int)(hl:cq a<=bk)(h:zc a b=true->Fr a b used L):ll m a b tag used=some (if zc a b=true then(DP m tag a b used,0)else(Y3,12)):=by
 unfold ll
 rw[UJ a b hl]
 simp only[vaa]
 cases hs:zc a b with
 |false=>rfl
 |true=>
  rw[van (by simp),WM hm tag (h hs)]
  rfl
end Go.Proofs.YtbaamopmfmpfaaaGreatDoor
