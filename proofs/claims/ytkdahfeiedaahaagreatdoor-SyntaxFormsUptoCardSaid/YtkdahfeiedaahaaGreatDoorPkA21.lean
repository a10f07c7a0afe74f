/- PROVED: a part of the proof. Conditions: none. -/
import Derived.Test.YtkdahfeiedaahaaGreatDoorPkA20
import Derived.Test.YtkdahfeiedaahaaGreatDoorPkA9
noncomputable section
namespace Go.Proofs.YtkdahfeiedaahaaGreatDoor
open Go
set_option linter.unusedVariables false
set_option linter.unusedSimpArgs false
theorem O6(e:af):(⟨e.Op,e.Name,e.N,e.Kids,e.Params,e.Alts,e.Types⟩:af)=e:=by obtain⟨o,n,k,ks,ps,as1,ts⟩:=e;rfl
mutual
def nE:af->Nat
 |⟨_,_,_,ks,ps,as1,ts⟩=>Ub ks+M3 as1+ps.length+ts.length+1
def nA:aT->Nat
 |⟨_,ns,b⟩=>ns.length+nE b+1
def Ub:List af->Nat
 |[]=>0
 |e::l=>nE e+Ub l
def M3:List aT->Nat
 |[]=>0
 |a::l=>nA a+M3 l
end
theorem Ek(e:af):nE e=Ub e.Kids+M3 e.Alts+e.Params.length+e.Types.length+1:=by obtain⟨o,n,k,ks,ps,as1,ts⟩:=e;rw[nE];rfl
theorem R9(a:aT):nA a=a.Names.length+nE a.Body+1:=by obtain⟨c,ns,b⟩:=a;rw[nA];rfl
theorem QH(e:af):1<=nE e:=by rw[Ek];omega
theorem Uc:∀{l:List af} {x:af},x∈l->nE x<=Ub l
 | y :: l,x,h => by
  rw[Ub]
  rcases vaC.1 h with rfl|h
  ·omega
  ·have:=Uc h;omega
theorem QF:∀{l:List aT} {x:aT},x∈l->nA x<=M3 l
 | y :: l,x,h => by
  rw[M3]
  rcases vaC.1 h with rfl|h
  ·omega
  ·have:=QF h;omega
theorem QG:∀(l:List af),l.length<=Ub l
 |[]=>by simp[Ub]
 |p::l=>by rw[Ub];have:=QG l;have:=QH p;simp only[vaL];omega
theorem LJ:∀(l:List aT),l.length<=M3 l
 |[]=>by simp[M3]
 |p::l=>by rw[M3];have:=LJ l;have:=R9 p;simp only[vaL];omega
theorem LI{e x:af}(h:x∈e.Kids):nE x<nE e:=by rw[Ek e];have:=Uc h;omega
theorem LB{e:af}{x:aT}(h:x∈e.Alts):nE x.Body<nE e:=by rw[Ek e];have:=QF h;have:=R9 x;omega
theorem E7(e:af):e.Kids.length<nE e:=by rw[Ek];have:=QG e.Kids;omega
theorem sq(e:af):e.Alts.length<nE e:=by rw[Ek];have:=LJ e.Alts;omega
theorem px(e:af):e.Params.length<nE e:=by rw[Ek];omega
theorem CK(e:af):e.Types.length<nE e:=by rw[Ek];omega
theorem I8{e:af}{x:aT}(h:x∈e.Alts):x.Names.length<nE e:=by rw[Ek];have:=QF h;have:=R9 x;omega
def bB(e:af):List af:=e.Kids++e.Alts.map (·.Body)
theorem E0{e x:af}(h:x∈bB e):nE x<nE e:=by
 rcases vaO.1 h with h|h
 ·exact LI h
 ·obtain⟨a,ha,rfl⟩:=vah.1 h
  exact LB ha
theorem Q7:∀(l:List af) (m:List aT),((l++m.map (·.Body)).map nE).sum<=Ub l+M3 m
 |[],[]=>by simp
 |[],a::m=>by
  have:=Q7 [] m
  have:=R9 a
  simp only[Ub,M3,vbl,vaB,List.sum_cons]at *
  omega
 |x::l,m=>by
  have:=Q7 l m
  simp only[Ub,va4,vaB,List.sum_cons]at *
  omega
theorem z6(e:af):(bB e).length<nE e:=by
 rw[Ek]
 have:=QG e.Kids
 have:=LJ e.Alts
 simp only[bB,vaS,vbD]
 omega
theorem WE{Q:af->Prop}(h:∀e,(∀x∈bB e,Q x)->Q e):∀e,Q e:=by
 have key:∀(n:Nat) (e:af),nE e<=n->Q e:=by
  intro n
  induction n with
  |zero=>intro e he;have:=QH e;omega
  |succ n ih=>exact fun e he=>h e fun x hx=>ih x (by have:=E0 hx;omega)
 exact fun e=>key _ e (vaj _)
mutual
def df:af->List af
 |⟨o,n,k,ks,ps,as1,ts⟩=>⟨o,n,k,ks,ps,as1,ts⟩::(Nc ks++Nb as1)
def Tr:aT->List af
 |⟨_,_,b⟩=>df b
def Nc:List af->List af
 |[]=>[]
 |e::l=>df e++Nc l
def Nb:List aT->List af
 |[]=>[]
 |a::l=>Tr a++Nb l
end
theorem Kp:∀(l:List af),Nc l=l.flatMap df
 |[]=>by rw[Nc];rfl
 |e::l=>by rw[Nc,Kp l];rfl
theorem U6(a:aT):Tr a=df a.Body:=by obtain⟨c,ns,b⟩:=a;rw[Tr];rfl
theorem Ko:∀(l:List aT),Nb l=(l.map (·.Body)).flatMap df
 |[]=>by rw[Nb];rfl
 |a::l=>by rw[Nb,Ko l,U6];rfl
theorem BE(e:af):df e=e::(bB e).flatMap df:=by
 obtain⟨o,n,k,ks,ps,as1,ts⟩:=e
 rw[df,Kp,Ko,bB,vcM]
 rfl
theorem Ue:∀(e:af),(df e).length<=nE e:=by
 refine WE fun e ih=>?_
 rw[BE,vaL,vcN]
 have h1:=Q7 e.Kids e.Alts
 have h2:((bB e).map fun x=>(df x).length).sum<=((bB e).map nE).sum:=by
  have:∀(l:List af),(∀x∈l,(df x).length<=nE x)->(l.map fun x=>(df x).length).sum<=(l.map nE).sum:=by
   intro l
   induction l with
   |nil=>intro _;simp
   |cons x l ihl=>
    intro hx
    have a:=hx x (by simp)
    have b:=ihl fun y hy=>hx y (by simp[hy])
    simp only[vaB,List.sum_cons];omega
  exact this _ ih
 have h3:=Ek e
 unfold bB at *
 omega
mutual
def dE:af->Nat
 |⟨_,_,_,ks,_,as1,_⟩=>max (E3 ks) (ZZ as1)+1
def dA:aT->Nat
 |⟨_,_,b⟩=>dE b
def E3:List af->Nat
 |[]=>0
 |e::l=>max (dE e) (E3 l)
def ZZ:List aT->Nat
 |[]=>0
 |a::l=>max (dA a) (ZZ l)
end
theorem qa4(a:aT):dA a=dE a.Body:=by obtain⟨c,ns,b⟩:=a;rw[dA];rfl
theorem qa5(e:af):dE e=max (E3 e.Kids) (ZZ e.Alts)+1:=by obtain⟨o,n,k,ks,ps,as1,ts⟩:=e;rw[dE];rfl
theorem Ch:∀(a b:List af),E3 (a++b)=max (E3 a) (E3 b)
 |[],b=>by simp[E3]
 |x::a,b=>by rw[va4,E3,E3,Ch a b];omega
theorem Wn:∀(l:List aT),ZZ l=E3 (l.map (·.Body))
 |[]=>by rw[ZZ,vb3,E3]
 |a::l=>by rw[ZZ,vaB,E3,qa4,Wn l]
theorem Jf(e:af):dE e=E3 (bB e)+1:=by rw[qa5,bB,Ch,Wn]
theorem Wo{n:Nat}:∀{l:List af},(∀x∈l,dE x<=n)->E3 l<=n
 |[],_=>by simp[E3]
 |x::l,h=>by
  have a:=h x (by simp)
  have b:=Wo (l:=l) fun y hy=>h y (by simp[hy])
  rw[E3];omega
theorem YE:∀(e:af),dE e<=nE e:=by
 refine WE fun e ih=>?_
 rw[Jf]
 have:E3 (bB e)<=nE e - 1:=Wo fun x hx=>by have:=ih x hx;have:=E0 hx;omega
 have:=QH e
 omega
theorem Wt{X Y:Type}{F:(X->Option Y)->X->Option Y}(μ:X->Nat)(Q:X->Prop)(s:X->Option Y)(h:∀(R:X->Option Y) x,Q x->(∀y,μ y<μ x->Q y->R y=s y)->F R x=s x)(x:X)(hx:Q x)(hm:μ x<XX):sS F x=s x:=by
 have key:∀n x,μ x<n->Q x->Z2 F n x=s x:=by
  intro n
  induction n with
  |zero=>intro x hx;omega
  |succ n ih=>intro x hx hq;exact h _ x hq fun y hy hqy=>ih y (by omega) hqy
 exact key _ x hm hx
def Df{α S:Type}(F:S->α->Option (Bool×S)):List α->S->Option (Bool×S)
 |[],s=>some (true,s)
 |x::l,s=>(F s x).bind fun r=>match r.1 with
  |false=>some (false,r.2)
  |true=>Df F l r.2
theorem GB{α S:Type}(F:S->α->Option (Bool×S)):∀(l m:List α) (s:S),Df F (l++m) s=(Df F l s).bind fun r=>match r.1 with
  |false=>some (false,r.2)
  |true=>Df F m r.2
 |[],m,s=>rfl
 | x :: l,m,s => by
  rw[va4,Df,Df]
  cases h:F s x with
  |none=>rfl
  |some r=>
   obtain⟨b,s'⟩:=r
   cases b with
   |false=>rfl
   |true=>exact GB F l m s'
theorem O8{α S:Type}{F G:S->α->Option (Bool×S)}:∀{l:List α},(∀x∈l,∀s,F s x=G s x)->∀s,Df F l s=Df G l s
 |[],_,s=>rfl
 |x::l,h,s=>by
  rw[Df,Df,h x (by simp)]
  congr 1
  funext r
  rw[O8 (l:=l) fun y hy=>h y (by simp[hy])]
theorem T3{α β S:Type}(F:S->β->Option (Bool×S))(g:α->β):∀(l:List α) (s:S),Df F (l.map g) s=Df (fun s x=>F s (g x)) l s
 |[],s=>rfl
 |x::l,s=>by
  rw[vaB,Df,Df]
  congr 1
  funext r
  rw[T3 F g l]
theorem RT{α β S:Type}(F:S->β->Option (Bool×S))(g:α->List β):∀(l:List α) (s:S),Df F (l.flatMap g) s=Df (fun s x=>Df F (g x) s) l s
 |[],s=>rfl
 |x::l,s=>by
  rw[vcq,GB,Df]
  congr 1
  funext r
  rw[RT F g l]
theorem T9{α S:Type}(l:List α)(hl:l.length<9223372036854775808)(body:Int×S->Option ((Int×S)⊕(S⊕S)))(F:S->α->Option (Bool×S))
  (hin:∀(i:Nat) (h:i<l.length) s,body ((i:Int),s)=(F s l[i]).bind fun r=>match r.1 with|false=>some (.inr (.inl r.2))|true=>some (.inl (bN ((i:Int)+1),r.2)))
  (hend:∀s,body ((l.length:Int),s)=some (.inr (.inr s))) (s:S):loop body (0,s)=(Df F l s).bind fun r=>match r.1 with|false=>some (.inl r.2)|true=>some (.inr r.2):=by
 have key:∀(k i:Nat) (s:S),i+k=l.length->loop body ((i:Int),s)=(Df F (l.drop i) s).bind fun r=>match r.1 with|false=>some (.inl r.2)|true=>some (.inr r.2):=by
  intro k
  induction k with
  |zero=>
   intro i s hi
   have:i=l.length:=by omega
   subst this
   rw[jX,hend,vb8]
   rfl
  | succ k ih =>
   intro i s hi
   have hlt:i<l.length:=by omega
   rw[jX,hin i hlt,va2 hlt,Df]
   cases hF:F s l[i]with
   |none=>rfl
   | some r =>
    obtain⟨b,s'⟩:=r
    cases b with
    |false=>rfl
    |true=>
     have:=ih (i+1) s' (by omega)
     simp only[vaa]
     rw[cJ (by omega) (by omega),show((i:Int)+1)=((i+1:Nat):Int) by omega]
     exact this
 have:=key l.length 0 s (by omega)
 exact this
theorem Us{S:Type}{F:(af×S->Option (Bool×S))->af×S->Option (Bool×S)}(step:S->af->Option (Bool×S))
  (hF:∀(R:af×S->Option (Bool×S)) e s,nE e<=fB->F R (e,s)=(step s e).bind fun r=>match r.1 with
   |false=>some (false,r.2)
   |true=>Df (fun s x=>R (x,s)) (bB e) r.2) (e:af) (s:S) (he:nE e<=fB):sS F (e,s)=Df step (df e) s:=by
 refine Wt (fun x=>nE x.1) (fun x=>nE x.1<=fB) (fun x=>Df step (df x.1) x.2) (fun R x hx ih=>?_) (e,s) he (qk he)
 obtain⟨e,s⟩:=x
 show F R (e,s)=Df step (df e) s
 rw[hF R e s hx,BE,Df]
 congr 1
 funext r
 cases r.1 with
 |false=>rfl
 |true=>
  rw[RT]
  refine O8 (fun x hx2 s=>?_) r.2
  have:=E0 hx2
  exact ih (x,s) this (vay (vbF this) hx)
theorem PO{S:Type}(W:S->af->Option (Bool×S))(e:af)(he:nE e<=fB)(s:S)(b1 b2:Int×S->Option ((Int×S)⊕(S⊕S))){k1 k2:S⊕S->Option (Bool×S)}
  (h1:∀(i:Nat) (h:i<e.Kids.length) s,b1 ((i:Int),s)=(W s e.Kids[i]).bind fun r=>if(!r.1)=true then some (.inr (.inl r.2))else some (.inl (bN ((i:Int)+1),r.2))) (h1e:∀s,b1 ((e.Kids.length:Int),s)=some (.inr (.inr s)))
  (h2:∀(i:Nat) (h:i<e.Alts.length) s,b2 ((i:Int),s)=(W s e.Alts[i].Body).bind fun r=>if(!r.1)=true then some (.inr (.inl r.2))else some (.inl (bN ((i:Int)+1),r.2))) (h2e:∀s,b2 ((e.Alts.length:Int),s)=some (.inr (.inr s)))
  (g1:∀o,k1 (.inl o)=some (false,o)) (g2:∀o,k1 (.inr o)=(loop b2 (0,o)).bind k2) (g3:∀o,k2 (.inl o)=some (false,o)) (g4:∀o,k2 (.inr o)=some (true,o)):
  (loop b1 (0,s)).bind k1=Df W (bB e) s:=by
 have l1:=E7 e
 have l2:=sq e
 unfold fB at he
 rw[T9 e.Kids (by omega) b1 W (fun i h s=>by rw[h1 i h s];congr 1;funext r;cases r.1<;>rfl) h1e s,bB,GB]
 cases h:Df W e.Kids s with
 |none=>rfl
 | some r =>
  obtain⟨b,s'⟩:=r
  cases b with
  |false=>exact g1 s'
  | true =>
   simp only[vaa]
   rw[g2,T9 e.Alts (by omega) b2 (fun s a=>W s a.Body) (fun i h s=>by rw[h2 i h s];congr 1;funext r;cases r.1<;>rfl) h2e s',T3]
   cases h:Df (fun s a=>W s a.Body) e.Alts s' with
   |none=>rfl
   |some r=>
    obtain⟨b,s''⟩:=r
    cases b with
    |false=>exact g3 s''
    |true=>exact g4 s''
theorem mw{σ X:Type}(n:Nat)(body:σ->Option (σ⊕X))(S:Nat->σ)(e:X)(hin:∀i,i<n->body (S i)=some (.inl (S (i+1))))(hend:body (S n)=some (.inr e)):loop body (S 0)=some e:=by
 have key:∀k i,k+i=n->loop body (S i)=some e:=by
  intro k
  induction k with
  |zero=>
   intro i hi
   have:i=n:=by omega
   subst this
   exact nM hend
  |succ k ih=>
   intro i hi
   rw[Bq (hin i (by omega))]
   exact ih (i+1) (by omega)
 exact key n 0 (by omega)
theorem LA(e:af)(s:Int)(he:nE e<=fB):qv e s=Df (fun s x=>jR x s) (df e) s:=by
 refine Us (F:=nZ) (fun s x=>jR x s) (fun R e s he=>?_) e s he
 show j1 (fun e k=>R (e,k)) e s=_
 unfold j1
 congr 1
 funext r
 obtain⟨b,s'⟩:=r
 cases b with
 |false=>rfl
 | true =>
  rw[vas (show ¬((!(true,s').1)=true) by simp)]
  refine PO (fun s x=>R (x,s)) e he s' (fun zz=>dy (fun e k=>R (e,k)) e.Kids e.Kids.length zz.1 zz.2) (fun zz=>dB (fun e k=>R (e,k)) e.Alts e.Alts.length zz.1 zz.2) (fun i h s=>?_) (fun s=>?_) (fun i h s=>?_) (fun s=>?_) (fun _=>rfl) (fun _=>rfl) (fun _=>rfl) (fun _=>rfl)
  ·show dy (fun e k=>R (e,k)) e.Kids e.Kids.length i s=_
   unfold dy
   rw[vaq (by simpa using h),bo _ _ h];rfl
  ·show dy (fun e k=>R (e,k)) e.Kids e.Kids.length e.Kids.length s=_
   unfold dy
   rw[vas (by simp)]
  ·show dB (fun e k=>R (e,k)) e.Alts e.Alts.length i s=_
   unfold dB
   rw[vaq (by simpa using h),bo _ _ h];rfl
  ·show dB (fun e k=>R (e,k)) e.Alts e.Alts.length e.Alts.length s=_
   unfold dB
   rw[vas (by simp)]
theorem Lz(e:af)(s:Int)(he:nE e<=fB):ll e s=Df (fun s x=>jQ x s) (df e) s:=by
 refine Us (F:=nY) (fun s x=>jQ x s) (fun R e s he=>?_) e s he
 show j0 (fun e k=>R (e,k)) e s=_
 unfold j0
 congr 1
 funext r
 obtain⟨b,s'⟩:=r
 cases b with
 |false=>rfl
 | true =>
  rw[vas (show ¬((!(true,s').1)=true) by simp)]
  refine PO (fun s x=>R (x,s)) e he s' (fun zz=>du (fun e k=>R (e,k)) e.Kids e.Kids.length zz.1 zz.2) (fun zz=>dw (fun e k=>R (e,k)) e.Alts e.Alts.length zz.1 zz.2) (fun i h s=>?_) (fun s=>?_) (fun i h s=>?_) (fun s=>?_) (fun _=>rfl) (fun _=>rfl) (fun _=>rfl) (fun _=>rfl)
  ·show du (fun e k=>R (e,k)) e.Kids e.Kids.length i s=_
   unfold du
   rw[vaq (by simpa using h),bo _ _ h];rfl
  ·show du (fun e k=>R (e,k)) e.Kids e.Kids.length e.Kids.length s=_
   unfold du
   rw[vas (by simp)]
  ·show dw (fun e k=>R (e,k)) e.Alts e.Alts.length i s=_
   unfold dw
   rw[vaq (by simpa using h),bo _ _ h];rfl
  ·show dw (fun e k=>R (e,k)) e.Alts e.Alts.length e.Alts.length s=_
   unfold dw
   rw[vas (by simp)]
theorem Ri(e:af)(he:nE e<=fB):pU e=some ((df e).length:Int):=by
 have hB:nE e<=1073741824:=he
 have hn:=Ue e
 have key:∀(l:List af) (k:Nat),k+l.length<=1073741824->Df (fun s x=>jR x s) l (k:Int)=some (true,((k+l.length:Nat):Int)):=by
  intro l
  induction l with
  |nil=>intro k _;rfl
  | cons x l ih =>
   intro k hk
   simp only[vaL]at hk
   have e1:jR x (k:Int)=some (true,((k+1:Nat):Int)):=by
    unfold jR
    rw[cJ (by omega) (by omega)];rfl
   rw[Df,e1]
   show Df _ l ((k+1:Nat):Int)=_
   rw[ih (k+1) (by omega)]
   simp only[vaL]
   congr 3;omega
 unfold pU
 rw[LA e 0 he]
 have:=key (df e) 0 (by omega)
 rw[vaK]at this
 rw[show(0:Int)=((0:Nat):Int)from rfl,this];rfl
theorem Jc(e:af)(he:nE e<=fB):uB e=some (bB e):=by
 have hB:nE e<=1073741824:=he
 have l1:=z6 e
 have l2:e.Kids.length+e.Alts.length<nE e:=by simpa[bB]using l1
 unfold uB
 rw[th (by simp;omega)]
 show(qR e ([]++e.Kids) 0).bind _=_
 have h:=mw e.Alts.length (fun zz:(List af)×Int=>iM e zz.1 zz.2) (fun i=>(e.Kids++(e.Alts.take i).map (·.Body),(i:Int))) (bB e) (fun i hi=>?_) ?_
 ·rw[vbl]
  have h':qR e e.Kids 0=some (bB e):=by unfold qR;simpa using h
  rw[h'];rfl
 ·show iM e _ (i:Int)=_
  unfold iM
  rw[vaq (by simpa using hi),bo _ _ hi,vaa,th (by simp;omega),vaa,cJ (by omega) (by omega),vav hi,vbg,<-vbW]
  rfl
 ·show iM e _ (e.Alts.length:Int)=_
  unfold iM
  rw[vas (by simp),vaT];rfl
theorem ZE{l:List af}{n:Nat}(h:(l.map fun x=>(df x).length).sum<=n)(i:Nat):((l.take i).map fun x=>(df x).length).sum<=n:=by
 have e1:l.take i++l.drop i=l:=vb2 i l
 have:(l.map fun x=>(df x).length).sum=((l.take i).map fun x=>(df x).length).sum+((l.drop i).map fun x=>(df x).length).sum:=by rw[<-List.sum_append,<-vbg,e1]
 omega
theorem PC(e:af)(he:nE e<=fB):ES e=some ((df e).length:Int):=by
 have hB:nE e<=1073741824:=he
 refine vo (F:=DG) nE (fun x=>nE x<=fB) (fun x=>((df x).length:Int)) (fun R e he ih=>?_) e he (qk he)
 have hB:nE e<=1073741824:=he
 show zP (fun e=>R e) e=_
 unfold zP
 rw[Jc e he,vaa]
 have hn:=Ue e
 have hlen:=z6 e
 have e1:(df e).length=1+((bB e).map fun x=>(df x).length).sum:=by rw[BE,vaL,vcN];omega
 have hs:((bB e).map fun x=>(df x).length).sum<=1073741824:=by omega
 have h:=mw (bB e).length (fun zz:Int×Int=>jw (fun e=>R e) (bB e) zz.1 zz.2) (fun i=>(((1+(((bB e).take i).map fun x=>(df x).length).sum:Nat):Int),(i:Int))) (((df e).length:Nat):Int) (fun i hi=>?_) ?_
 ·have h':xr (fun e=>R e) (bB e) 1 0=some ((df e).length:Int):=by unfold xr;simpa using h
  rw[h'];rfl
 ·show jw (fun e=>R e) (bB e) _ (i:Int)=_
  unfold jw
  have hm:(bB e)[i]∈bB e:=van hi
  have hlt:=E0 hm
  have s1:=ZE hs (i+1)
  have s2:(((bB e).take (i+1)).map fun x=>(df x).length).sum=(((bB e).take i).map fun x=>(df x).length).sum+(df (bB e)[i]).length:=by
   rw[vav hi,vbg,List.sum_append];simp
  rw[vaq (by simpa using hi),bo _ _ hi,vaa]
  show(R _).bind _=_
  rw[ih _ hlt (by unfold fB;omega),vaa]
  dsimp only
  rw[cJ (by omega) (by omega),cJ (by omega) (by omega)]
  congr 3;omega
 ·show jw (fun e=>R e) (bB e) _ ((bB e).length:Int)=_
  unfold jw
  rw[vas (by simp),vaT]
  congr 2;omega
theorem MF(l:List af)(i:Nat)(h:i<l.length):E3 (l.take (i+1))=max (E3 (l.take i)) (dE l[i]):=by
 rw[vav h,Ch];simp[E3]
theorem QE(a b:Nat):(if(b:Int)>(a:Int)then(b:Int)else(a:Int))=((max a b:Nat):Int):=by
 by_cases h:(b:Int)>(a:Int)
 ·rw[vaq h];congr 1;omega
 ·rw[vas h];congr 1;omega
theorem PA(e:af)(he:nE e<=fB):ER e=some (dE e:Int):=by
 have hB:nE e<=1073741824:=he
 refine vo (F:=DF) nE (fun x=>nE x<=fB) (fun x=>(dE x:Int)) (fun R e he ih=>?_) e he (qk he)
 have hB:nE e<=1073741824:=he
 show zO (fun e=>R e) e=_
 unfold zO
 rw[Jc e he,vaa]
 have hlen:=z6 e
 have hd:=YE e
 have h:=mw (bB e).length (fun zz:Int×Int=>jv (fun e=>R e) (bB e) zz.1 zz.2) (fun i=>((E3 ((bB e).take i):Int),(i:Int))) (E3 (bB e):Int) (fun i hi=>?_) ?_
 ·have h':xq (fun e=>R e) (bB e) 0 0=some (E3 (bB e):Int):=by unfold xq;simpa[E3]using h
  have e1:=Jf e
  rw[h',vaa,cJ (by omega) (by omega),e1];rfl
 ·show jv (fun e=>R e) (bB e) _ (i:Int)=_
  unfold jv
  have hm:(bB e)[i]∈bB e:=van hi
  have hlt:=E0 hm
  rw[vaq (by simpa using hi),bo _ _ hi,vaa]
  show(R _).bind _=_
  rw[ih _ hlt (by unfold fB;omega),vaa]
  dsimp only
  rw[cJ (by omega) (by omega),QE,MF _ _ hi]
  rfl
 ·show jv (fun e=>R e) (bB e) _ ((bB e).length:Int)=_
  unfold jv
  rw[vas (by simp),vaT]
theorem Rh(e:af)(he:nE e<=fB):tE e=some (dE e:Int):=by
 have hB:nE e<=1073741824:=he
 refine vo (F:=y8) nE (fun x=>nE x<=fB) (fun x=>(dE x:Int)) (fun R e he ih=>?_) e he (qk he)
 have hB:nE e<=1073741824:=he
 show tF (fun e=>R e) e=_
 unfold tF
 have hk:=E7 e
 have ha:=sq e
 have hd:=YE e
 have h:=mw e.Kids.length (fun zz:Int×Int=>f0 (fun e=>R e) e.Kids (e.Kids.length:Int) zz.1 zz.2) (fun i=>((E3 (e.Kids.take i):Int),(i:Int))) (E3 e.Kids:Int) (fun i hi=>?_) ?_
 ·have h':rE (fun e=>R e) e.Kids (e.Kids.length:Int) 0 0=some (E3 e.Kids:Int):=by unfold rE;simpa[E3]using h
  rw[h',vaa]
  have g:=mw e.Alts.length (fun zz:Int×Int=>f6 (fun e=>R e) e.Alts (e.Alts.length:Int) zz.1 zz.2) (fun i=>(((max (E3 e.Kids) (E3 ((e.Alts.map (·.Body)).take i)):Nat):Int),(i:Int))) ((E3 (bB e):Nat):Int) (fun i hi=>?_) ?_
  ·have g':rF (fun e=>R e) e.Alts (e.Alts.length:Int) (E3 e.Kids:Int) 0=some (E3 (bB e):Int):=by unfold rF;simpa[E3]using g
   have e1:=Jf e
   rw[g',vaa,cJ (by omega) (by omega),e1];rfl
  ·show f6 (fun e=>R e) e.Alts (e.Alts.length:Int) _ (i:Int)=_
   unfold f6
   have hm:e.Alts[i]∈e.Alts:=van hi
   have hlt:=LB hm
   have hi':i<(e.Alts.map (·.Body)).length:=by simpa using hi
   rw[vaq (by simpa using hi),bo _ _ hi,vaa]
   show(R _).bind _=_
   rw[ih _ hlt (by unfold fB;omega),vaa]
   dsimp only
   rw[cJ (by omega) (by omega),QE,MF _ _ hi',vcZ,Nat.max_assoc]
   rfl
  ·show f6 (fun e=>R e) e.Alts (e.Alts.length:Int) _ (e.Alts.length:Int)=_
   unfold f6
   rw[vas (by simp),bB,Ch,List.take_of_length_le (by simp)]
 ·show f0 (fun e=>R e) e.Kids (e.Kids.length:Int) _ (i:Int)=_
  unfold f0
  have hm:e.Kids[i]∈e.Kids:=van hi
  have hlt:=LI hm
  rw[vaq (by simpa using hi),bo _ _ hi,vaa]
  show(R _).bind _=_
  rw[ih _ hlt (by unfold fB;omega),vaa]
  dsimp only
  rw[cJ (by omega) (by omega),QE,MF _ _ hi]
  rfl
 ·show f0 (fun e=>R e) e.Kids (e.Kids.length:Int) _ (e.Kids.length:Int)=_
  unfold f0
  rw[vas (by simp),vaT]
section
variable{α β σ τ X Y:Type}
theorem M2(l:List α)(hl:l.length<9223372036854775808)(mk:Int->τ)(body:τ->Option (τ⊕X))(p:α->Bool)(y:Nat->X)(e:X)
  (hin:∀(i:Nat) (h:i<l.length),body (mk (i:Int))=some (if p l[i]=true then .inr (y i)else .inl (mk (bN ((i:Int)+1))))) (hend:body (mk l.length)=some (.inr e)):loop body (mk 0)=some ((l.findIdx? p).elim e y):=by
 have key:∀k i,k+i=l.length->loop body (mk (i:Int))=some (((l.drop i).findIdx? p).elim e (fun j=>y (i+j))):=by
  intro k
  induction k with
  |zero=>
   intro i hi
   have:i=l.length:=by omega
   subst this
   rw[jX,hend,vb8]
   rfl
  | succ k ih =>
   intro i hi
   rw[jX,hin i (by omega),va2 (by omega),vcS]
   by_cases h:p l[i]=true
   ·simp[h]
   ·simp only[h,if_false,vaz]
    rw[cJ (by omega) (by omega),show((i:Int)+1)=((i+1:Nat):Int) by omega,ih (i+1) (by omega)]
    cases(l.drop (i+1)).findIdx? p with
    |none=>rfl
    |some j=>simp only[vag,Option.elim];congr 2;omega
 have:=key l.length 0 (by omega)
 rw[vbi]at this
 simpa using this
theorem PM{A:Type}(l:List α)(hl:l.length<9223372036854775808){body:Int->Option (Int⊕(A⊕Unit))}(k:Int->α->Option (Int⊕(A⊕Unit)))(P:α->Prop)(B:A->Prop)
  (hb:∀(i:Int),body i=if decide (i<(l.length:Int))=true then(fy l i).bind (k i)else some (.inr (.inr ())))
  (hk:∀x∈l,∀i,lW (k i x) (fun r=>r.elim (fun t=>t=bN (i+1)/\P x) (fun y=>y.elim B (fun _=>False)))):lW (loop body 0) (fun r=>r.elim B (fun _=>∀x∈l,P x)):=by
 refine VA l hl k (.inr ()) (fun i=>∀j (h:j<l.length),j<i->P l[j]) hb (fun i hi hI=>(hk _ (van hi) i).mono fun r hr=>?_) (fun hI x hx=>?_) (fun j _ h=>absurd h (vaG _))
 ·cases r with
  | inl t =>
   refine⟨hr.1,fun j hj h=>?_⟩
   by_cases he:j=i
   ·subst he;exact hr.2
   ·exact hI j hj (by omega)
  |inr y=>cases y with
   |inl a=>exact hr
   |inr u=>exact hr.elim
 ·obtain⟨j,hj,rfl⟩:=vcO hx
  exact hI j hj hj
end
noncomputable instance decT:DecidableEq ak:=fun a b=>Classical.propDecidable _
noncomputable instance decE:DecidableEq af:=fun a b=>Classical.propDecidable _
noncomputable instance decA:DecidableEq aT:=fun a b=>Classical.propDecidable _
noncomputable instance decQ:DecidableEq aA:=fun a b=>Classical.propDecidable _
theorem Qc{a b:Bool}:(if a=true then some b else some false)=some (a&&b):=by cases a<;>rfl
theorem WZ{a b:Bool}:(if a=true then some true else some b)=some (a||b):=by cases a<;>rfl
theorem xI{α:Type}[DecidableEq α]{a b:List α}(ha:a.length<=fB)(body:Int->Option (Int⊕(Unit⊕Unit)))
  (hin:∀(i:Nat) (h1:i<a.length) (h2:i<b.length),body (i:Int)=some (if decide (a[i]=b[i])=true then .inl (bN ((i:Int)+1))else .inr (.inl ()))) (hend:body (a.length:Int)=some (.inr (.inr ()))) {k:Unit⊕Unit->Option Bool} (g1:k (.inl ())=some false) (g2:k (.inr ())=some true):
  (if((a.length:Int)!=(b.length:Int))=true then some false else(loop body 0).bind k)=some (decide (a=b)):=by
 by_cases hl:a.length=b.length
 ·rw[vas (by simp[hl]),Br hl (by unfold fB at ha;omega) body (.inl ()) (.inr ()) hin hend]
  by_cases he:a=b
  ·simp only[he,decide_true,if_true,vaa];exact g2
  ·simp only[he,decide_false,vaz,if_false,vaa];exact g1
 ·rw[vaq (by simp;omega),decide_eq_false (fun he=>hl (by rw[he]))]
theorem Pp{a b:List ah}(ha:a.length<=fB):tA a b=some (decide (a=b)):=by
 unfold tA wM
 refine xI ha _ (fun i h1 h2=>?_) ?_ rfl rfl
 ·show iF a b (a.length:Int) (i:Int)=_
  unfold iF
  rw[vaq (by simpa using h1),bo a i h1]
  simp only[vaa]
  rw[bo b i h2]
  simp only[vaa]
  by_cases he:a[i]=b[i]<;>simp[he]
 ·show iF a b (a.length:Int) (a.length:Int)=_
  unfold iF
  rw[vas (by simp)]
theorem PB{a b:List ah}(ha:a.length<=fB):nH a b=some (decide (a=b)):=by
 unfold nH uy
 refine xI ha _ (fun i h1 h2=>?_) ?_ rfl rfl
 ·show gE a b (i:Int)=_
  unfold gE
  rw[vaq (by simpa using h1),bo a i h1]
  simp only[vaa]
  rw[bo b i h2]
  simp only[vaa]
  by_cases he:a[i]=b[i]<;>simp[he]
 ·show gE a b (a.length:Int)=_
  unfold gE
  rw[vas (by simp)]
theorem Vd{a b:List az}(ha:a.length<=fB)(h:∀x∈a,nP x<=fB):pS a b=some (decide (a=b)):=by
 unfold pS qo
 refine xI ha _ (fun i h1 h2=>?_) ?_ rfl rfl
 ·show fg b a (a.length:Int) (i:Int)=_
  unfold fg
  rw[vaq (by simpa using h1),bo a i h1]
  simp only[vaa]
  rw[bo b i h2]
  simp only[vaa]
  rw[Up _ _ (h _ (van h1))]
  simp only[vaa]
  by_cases he:a[i]=b[i]<;>simp[he]
 ·show fg b a (a.length:Int) (a.length:Int)=_
  unfold fg
  rw[vas (by simp)]
theorem Pq{R:ak->ak->Option Bool}{a b:List ak}(ha:a.length<=fB)(h:∀x∈a,∀y∈b,R x y=some (decide (x=y))):fc R a b=some (decide (a=b)):=by
 unfold fc iO
 refine xI ha _ (fun i h1 h2=>?_) ?_ rfl rfl
 ·show cW R b a (a.length:Int) (i:Int)=_
  unfold cW
  rw[vaq (by simpa using h1),bo a i h1]
  simp only[vaa]
  rw[bo b i h2]
  simp only[vaa]
  rw[h _ (van h1) _ (van h2)]
  simp only[vaa]
  by_cases he:a[i]=b[i]<;>simp[he]
 ·show cW R b a (a.length:Int) (a.length:Int)=_
  unfold cW
  rw[vas (by simp)]
theorem PD{R:ak->ak->Option Bool}{a b:List ak}(ha:a.length<=fB)(h:∀x∈a,∀y∈b,R x y=some (decide (x=y))):qM R a b=some (decide (a=b)):=by
 unfold qM uA
 refine xI ha _ (fun i h1 h2=>?_) ?_ rfl rfl
 ·show gH R a b (i:Int)=_
  unfold gH
  rw[vaq (by simpa using h1),bo a i h1]
  simp only[vaa]
  rw[bo b i h2]
  simp only[vaa]
  rw[h _ (van h1) _ (van h2)]
  simp only[vaa]
  by_cases he:a[i]=b[i]<;>simp[he]
 ·show gH R a b (a.length:Int)=_
  unfold gH
  rw[vas (by simp)]
theorem BS{a b:ak}:a=b↔a.Op=b.Op/\a.Name=b.Name/\a.Names=b.Names/\a.Pred=b.Pred/\a.Preds=b.Preds/\a.Args=b.Args:=by
 obtain⟨o,n,xs,ns,p,ps⟩:=a
 obtain⟨o',n',xs',ns',p',ps'⟩:=b
 constructor
 ·rintro h;cases h;exact⟨rfl,rfl,rfl,rfl,rfl,rfl⟩
 ·rintro⟨h1,h2,h3,h4,h5,h6⟩
  cases h1;cases h2;cases h3;cases h4;cases h5;cases h6;rfl
abbrev OE(t:ak):Prop:=xN t<=fB/\Qb (fun p=>nP p<=fB) t
theorem QM{t a:ak}(h:OE t)(ha:a∈t.Args):OE a:=⟨vay (vbF (Gx ha)) h.1,V7 h.2 ha⟩
theorem JN(a b:ak)(ha:OE a):iQ a b=some (decide (a=b)):=by
 refine vo (F:=tU) (fun x=>xN x.1) (fun x=>OE x.1) (fun x=>decide (x.1=x.2)) (fun R x hx ih=>?_) (a,b) ha (qk ha.1)
 obtain⟨u,v⟩:=x
 have hu:OE u:=hx
 obtain⟨p1,p2,_⟩:=(Hx _ u).1 hu.2
 have l1:=HB u
 have l2:=Pm u
 have l3:=Pz u
 have l0:=hu.1
 show oo (fun a a2=>R (a,a2)) u v=some (decide (u=v))
 unfold oo
 rw[Pp (by omega),Up _ _ p1,Vd (by omega) p2,Pq (R:=fun a a2=>R (a,a2)) (a:=u.Args) (b:=v.Args) (by omega) (fun x hx y _=>ih (x,y) (Gx hx) (QM hu hx))]
 simp only[vaa,Qc,vat]
 rw[vbA]
 simp[BS (a:=u) (b:=v)]
theorem JQ(a b:ak)(ha:OE a)(hb:OE b):mo a b=some (decide (a=b)):=by
 refine vo (F:=yz) (fun x=>xN x.1) (fun x=>OE x.1/\OE x.2) (fun x=>decide (x.1=x.2)) (fun R x hx ih=>?_) (a,b) ⟨ha,hb⟩ (qk ha.1)
 obtain⟨u,v⟩:=x
 obtain⟨hu,hv⟩:OE u/\OE v:=hx
 obtain⟨q1,q2,_⟩:=(Hx _ v).1 hv.2
 have l1:=HB u
 have l2:=Pm u
 have l3:=Pz u
 have l0:=hu.1
 show s9 (fun a a2=>R (a,a2)) u v=some (decide (u=v))
 unfold s9 wz
 rw[PB (by omega),SB _ _ q1,PD (R:=fun a a2=>R (a,a2)) (a:=u.Args) (b:=v.Args) (by omega) (fun x hx y hy=>ih (x,y) (Gx hx) ⟨QM hu hx,QM hv hy⟩)]
 simp only[vaa,WZ]
 by_cases hl:u.Preds.length=v.Preds.length
 ·unfold wA
  rw[Br hl (by unfold fB at l0;omega) (fun zz=>fV u v zz) (.inl ()) (.inr ()) (fun i h1 h2=>?_) ?_]
  ·by_cases h5:u.Preds=v.Preds
   ·simp only[h5,decide_true,if_true,vaa]
    by_cases h0:(u.Op !=v.Op||(!(u.Name==v.Name)||(!decide (u.Names=v.Names)||(!decide (u.Pred=v.Pred)||((v.Preds.length:Int)!=(v.Preds.length:Int))))))=true
    ·rw[vaq h0]
     congr 1;symm
     rw[va1,BS]
     rintro⟨e1,e2,e3,e4,_⟩
     simp[e1,e2,e3,e4]at h0
    ·rw[vas h0]
     congr 1
     simp only[vaZ,not_or,vaJ,bne_iff_ne,ne_eq,Decidable.not_not,vcW,vaW,vak]at h0
     obtain⟨e1,e2,e3,e4,_⟩:=h0
     rw[vbA]
     simp[BS (a:=u) (b:=v),e1,e2,e3,e4,h5]
   ·simp only[h5,decide_false,vaz,if_false,vaa,ite_self]
    congr 1;symm
    rw[va1,BS]
    rintro⟨_,_,_,_,e5,_⟩
    exact h5 e5
  ·show fV u v (u.Preds.length:Int)=_
   unfold fV
   rw[vas (by simp)]
  ·show fV u v (i:Int)=_
   unfold fV
   rw[vaq (by simpa using h1),bo _ i h1]
   simp only[vaa]
   rw[bo _ i h2]
   simp only[vaa]
   rw[SB _ _ (q2 _ (van h2))]
   simp only[vaa]
   by_cases he:u.Preds[i]=v.Preds[i]<;>simp[he]
 ·have hx:((u.Preds.length:Int)!=(v.Preds.length:Int))=true:=by simp;omega
  rw[vaq (by simp[hx])]
  congr 1;symm
  rw[va1,BS]
  rintro⟨_,_,_,_,e5,_⟩
  exact hl (by rw[e5])
mutual
def wT:ak->Nat
 |⟨_,_,xs,_,p,ps⟩=>nP p+nL ps+SO xs
def SO:List ak->Nat
 |[]=>0
 |a::xs=>wT a+SO xs
end
theorem qbv(t:ak):wT t=nP t.Pred+nL t.Preds+SO t.Args:=by obtain⟨o,n,xs,ns,p,ps⟩:=t;rw[wT];rfl
theorem Xu(l:List ak)(i:Nat)(h:i<l.length):SO (l.take (i+1))=SO (l.take i)+wT l[i]:=by
 have key:∀(a b:List ak),SO (a++b)=SO a+SO b:=by
  intro a b
  induction a with
  |nil=>simp[SO]
  |cons x a ih=>rw[va4,SO,SO,ih];omega
 rw[vav h,key]
 simp[SO]
theorem Je{α:Type}{l:List α}{i:Nat}{n most:Int}(h:i<l.length)(hm:n<=most):(if(decide ((i:Int)<(l.length:Int)))=true then some (decide (n<=most))else some false)=some true:=by
 rw[vaq (by simp;omega),va3 hm]
theorem E1{α:Type}{l:List α}{i:Nat}{n most:Int}(h:i=l.length\/¬n<=most):(if(decide ((i:Int)<(l.length:Int)))=true then some (decide (n<=most))else some false)=some false:=by
 by_cases hi:i<l.length
 ·rw[vaq (by simp;omega)]
  rcases h with h|h
  ·omega
  ·rw[decide_eq_false h]
 ·rw[vas (by simp;omega)]
theorem Fk{α:Type}(l:List α)(hl:l.length<9223372036854775808){body:Int×Int->Option ((Int×Int)⊕Int)}(most:Int)(I:Nat->Int->Prop)
  (hin:∀(i:Nat) (h:i<l.length) n,I i n->n<=most->lW (body (n,(i:Int))) (fun r=>∃n',r=.inl (n',bN ((i:Int)+1))/\I (i+1) n'))
  (hout:∀(i:Nat) n,i<=l.length->(i=l.length\/¬n<=most)->body (n,(i:Int))=some (.inr n)) (n:Int) (h0:I 0 n):lW (loop body (n,0)) (fun r=>∃i,i<=l.length/\I i r/\(i=l.length\/¬r<=most)):=by
 have key:∀k i n,k+i=l.length->I i n->lW (loop body (n,(i:Int))) (fun r=>∃i,i<=l.length/\I i r/\(i=l.length\/¬r<=most)):=by
  intro k
  induction k with
  |zero=>
   intro i n hi hI
   rw[jX,hout i n (by omega) (.inl (by omega))]
   exact aC ⟨i,by omega,hI,.inl (by omega)⟩
  | succ k ih =>
   intro i n hi hI
   by_cases hm:n<=most
   ·obtain⟨r,e,n',rfl,hI'⟩:=hin i (by omega) n hI hm
    rw[jX,e]
    simp only
    rw[cJ (by omega) (by omega),show((i:Int)+1)=((i+1:Nat):Int) by omega]
    exact ih (i+1) n' (by omega) hI'
   ·rw[jX,hout i n (by omega) (.inr hm)]
    exact aC ⟨i,by omega,hI,.inr hm⟩
 exact key l.length 0 n (by omega) h0
theorem JP(a b:Nat)(hb:0<b)(ha:a<9223372036854775808):qu .i64 (a:Int) (b:Int)=some ((a / b:Nat):Int):=by
 unfold qu
 rw[vas (by omega)]
 have h:((a:Int).tdiv (b:Int))=((a / b:Nat):Int):=by
  rw[Int.tdiv_eq_ediv_of_nonneg (by omega)];rfl
 rw[h]
 have h2:=vbE a b
 generalize a / b=q at *
 congr 1
 exact cJ (by omega) (by omega)
theorem Ig(p:az):kX (ay p)=1+(p.Name.length+1+(1+(cU (p.Kids.map ay)+1+0))):=by
 rw[fa];simp only[kX,pm,sl]
theorem yn{α:Type}(c:α->List PVal)(l:List α)(i:Nat)(h:i<l.length):cU ((l.take (i+1)).map c)=cU ((l.take i).map c)+kX (c l[i]):=by
 rw[vav h,vbg]
 have:∀(a b:List (List PVal)),cU (a++b)=cU a+cU b:=by
  intro a
  induction a with
  |nil=>intro b;simp[cU]
  |cons x a ih=>intro b;rw[va4,cU,ih,cU];omega
 rw[this]
 simp[cU]
theorem fD{α:Type}(c:α->List PVal)(l:List α)(i:Nat):cU ((l.take i).map c)<=cU (l.map c):=by
 have:∀(l:List α) (i:Nat),cU ((l.take i).map c)<=cU (l.map c):=by
  intro l
  induction l with
  |nil=>intro i;simp
  |cons x l ih=>
   intro i
   cases i with
   |zero=>simp[cU]
   |succ i=>have:=ih i;simp only[List.take_succ_cons,vaB,cU];omega
 exact this l i
theorem sF{α:Type}(c:α->List PVal)(h:∀x,1<=kX (c x)):∀(l:List α),l.length<=cU (l.map c)
 |[]=>by simp
 |x::l=>by have:=sF c h l;have:=h x;simp only[vaB,cU,vaL];omega
theorem Xe(p:az):1<=kX (ay p):=by rw[Ig];omega
theorem Sa(l:List az):nL (l.take l.length)=nL l:=by rw[vaT]
abbrev HV:Nat:=4000000
structure qaV(l:List az)(most r:Int):Prop where
 lo:0<=r
 hi:r<=(cU (l.map ay):Int)
 sm:r<=most->(nL l:Int)<=r
theorem Yp(l:List az)(most:Int)(hl:cU (l.map ay)<=HV)(h1: -8000000<=most)(h2:most<=1000000000):lW (I3 l most) (qaV l most):=by
 refine EM (F:=DR) (fun x=>cU (x.1.map ay)) (fun x=>cU (x.1.map ay)<=HV/\-8000000<=x.2/\x.2<=1000000000) (fun x r=>qaV x.1 x.2 r) (fun R x hx ih=>?_) (l,most) ⟨hl,h1,h2⟩ (qk (vay hl (by decide)))
 obtain⟨l,most⟩:=x
 obtain⟨hl,h1,h2⟩:=hx
 have hl:cU (l.map ay)<=HV:=hl
 have h1: -8000000<=most:=h1
 have h2:most<=1000000000:=h2
 have hlen:=sF ay Xe l
 show lW (zT (fun a most=>R (a,most)) l most) _
 unfold zT Cb
 unfold HV at hl
 refine aQ (Fk l (by omega) most (fun i n=>0<=n/\n<=(cU ((l.take i).map ay):Int)/\(n<=most->(nL (l.take i):Int)<=n)) (fun i hi n hI hm=>?_) (fun i n _ h=>?_) 0 ⟨by omega,by omega,fun _=>by simp[nL]⟩) (fun r hr=>aC ?_)
 ·obtain⟨g1,g2,g3⟩:=hI
  have e:=yn ay l i hi
  have e2:=fD ay l (i+1)
  have ep:=Ig l[i]
  have en:=Yb l i hi
  have enp:=Sb l[i]
  show lW (ly (fun a most=>R (a,most)) l most n i) _
  unfold ly xy
  rw[Je hi hm,bo l i hi]
  simp only[vaa,if_true]
  have hq:=vbE l[i].Name.length 50
  rw[show(50:Int)=((50:Nat):Int)from rfl,JP _ 50 (by omega) (by omega)]
  simp only[vaa]
  rw[cJ (n:=n+1) (by omega) (by omega),cJ (n:=n+1+_) (by omega) (by omega),cJ (n:=most - _) (by omega) (by omega)]
  refine aQ (ih (l[i].Kids,most - (n+1+((l[i].Name.length / 50:Nat):Int))) (by show _<cU (l.map ay);show cU (l[i].Kids.map ay)<_;omega) ⟨by show cU (l[i].Kids.map ay)<=HV;unfold HV;omega,by show -8000000<=most - _;omega,by show most - _<=1000000000;omega⟩) (fun r hr=>?_)
  have q1:=hr.lo
  have q2:r<=(cU (l[i].Kids.map ay):Int):=hr.hi
  have q3:r<=most - (n+1+((l[i].Name.length / 50:Nat):Int))->(nL l[i].Kids:Int)<=r:=hr.sm
  rw[cJ (n:=n+1+_+r) (by omega) (by omega)]
  refine aC ⟨_,rfl,by omega,by omega,fun hm'=>?_⟩
  have:=q3 (by omega)
  have:=g3 hm
  omega
 ·show ly (fun a most=>R (a,most)) l most n i=_
  unfold ly xy
  rw[E1 h]
  rfl
 ·obtain⟨i,hi,⟨g1,g2,g3⟩,h⟩:=hr
  have e2:=fD ay l i
  refine⟨g1,by show r<=(cU (l.map ay):Int);omega,fun hm=>?_⟩
  have hm:r<=most:=hm
  have:i=l.length:=by
   rcases h with h|h
   ·exact h
   ·exact absurd hm h
  subst this
  rw[Sa]at g3
  exact g3 hm
theorem Tm(l:List ak)(i:Nat)(h:i<l.length):mK (l.take (i+1))=mK (l.take i)+xN l[i]:=by
 have ap:∀(a b:List ak),mK (a++b)=mK a+mK b:=by
  intro a
  induction a with
  |nil=>intro b;simp[mK]
  |cons x a ih=>intro b;rw[va4,mK,ih,mK];omega
 rw[vav h,ap]
 simp[mK]
theorem Sq(t:ak):1<=kX (aj t):=by rw[Eu];omega
theorem Vl(t:ak):kX (aj t)=1+(t.Name.length+1)+(cU (t.Args.map aj)+1)+(cU (t.Names.map cS)+1)+kX (ay t.Pred)+(cU (t.Preds.map ay)+1):=by
 rw[Eu,Ig];simp only[pm,sl];omega
structure qaW(l:List ak)(most r:Int):Prop where
 lo:0<=r
 hi:r<=(cU (l.map aj):Int)
 sm:r<=most->(mK l:Int)<=r/\(SO l:Int)<=r
theorem Ur(l:List ak)(most:Int)(hl:cU (l.map aj)<=HV)(h1: -8000000<=most)(h2:most<=1000000000):lW (EV l most) (qaW l most):=by
 refine EM (F:=DT) (fun x=>cU (x.1.map aj)) (fun x=>cU (x.1.map aj)<=HV/\-8000000<=x.2/\x.2<=1000000000) (fun x r=>qaW x.1 x.2 r) (fun R x hx ih=>?_) (l,most) ⟨hl,h1,h2⟩ (qk (vay hl (by decide)))
 obtain⟨l,most⟩:=x
 obtain⟨hl,h1,h2⟩:=hx
 have hl:cU (l.map aj)<=HV:=hl
 have h1: -8000000<=most:=h1
 have h2:most<=1000000000:=h2
 have hlen:=sF aj Sq l
 show lW (zU (fun a most=>R (a,most)) l most) _
 unfold zU Cc
 unfold HV at hl
 refine aQ (Fk l (by omega) most (fun i n=>0<=n/\n<=(cU ((l.take i).map aj):Int)/\(n<=most->(mK (l.take i):Int)<=n/\(SO (l.take i):Int)<=n)) (fun i hi n hI hm=>?_) (fun i n _ h=>?_) 0 ⟨by omega,by omega,fun _=>by simp[mK,SO]⟩) (fun r hr=>aC ?_)
 ·obtain⟨g1,g2,g3⟩:=hI
  have e:=yn aj l i hi
  have e2:=fD aj l (i+1)
  have ep:=Vl l[i]
  have epp:=Ig l[i].Pred
  have en:=Tm l i hi
  have en2:=Xu l i hi
  have enp:=E8 l[i]
  have enp2:=qbv l[i]
  have hns:=T6 l[i].Names
  have hps:=YI l[i].Preds
  have hpl:=QI l[i].Preds
  show lW (lB (fun a most=>R (a,most)) l most n i) _
  unfold lB xC
  rw[Je hi hm,bo l i hi]
  simp only[vaa,if_true]
  have hq:=vbE l[i].Name.length 50
  rw[show(50:Int)=((50:Nat):Int)from rfl,JP _ 50 (by omega) (by omega)]
  simp only[vaa]
  rw[th (by simp;omega)]
  simp only[vaa]
  refine aQ (Yp ([l[i].Pred]++l[i].Preds) most (by unfold HV;simp only[List.singleton_append,vaB,cU];omega) h1 h2) (fun rp hp=>?_)
  have p1:=hp.lo
  have p2:rp<=((kX (ay l[i].Pred)+cU (l[i].Preds.map ay):Nat):Int):=by
   have:=hp.hi
   simp only[List.singleton_append,vaB,cU]at this
   exact this
  have p3:rp<=most->((nP l[i].Pred+nL l[i].Preds:Nat):Int)<=rp:=by
   have:=hp.sm
   simp only[List.singleton_append,nL]at this
   exact this
  rw[cJ (n:=n+1) (by omega) (by omega),cJ (n:=n+1+_) (by omega) (by omega),cJ (n:=n+1+_+_) (by omega) (by omega),cJ (n:=n+1+_+_+_) (by omega) (by omega),cJ (n:=most - _) (by omega) (by omega)]
  refine aQ (ih (l[i].Args,most - (n+1+((l[i].Name.length / 50:Nat):Int)+(l[i].Names.length:Int)+rp)) (by show _<cU (l.map aj);show cU (l[i].Args.map aj)<_;omega) ⟨by show cU (l[i].Args.map aj)<=HV;unfold HV;omega,by show -8000000<=most - _;omega,by show most - _<=1000000000;omega⟩) (fun r hr=>?_)
  have q1:=hr.lo
  have q2:r<=(cU (l[i].Args.map aj):Int):=hr.hi
  have q3:r<=most - (n+1+((l[i].Name.length / 50:Nat):Int)+(l[i].Names.length:Int)+rp)->(mK l[i].Args:Int)<=r/\(SO l[i].Args:Int)<=r:=hr.sm
  rw[cJ (n:=_+r) (by omega) (by omega)]
  refine aC ⟨_,rfl,by omega,by omega,fun hm'=>?_⟩
  have:=q3 (by omega)
  have:=p3 (by omega)
  have:=g3 hm
  have:=WS l[i].Pred
  omega
 ·show lB (fun a most=>R (a,most)) l most n i=_
  unfold lB xC
  rw[E1 h]
  rfl
 ·obtain⟨i,hi,⟨g1,g2,g3⟩,h⟩:=hr
  have e2:=fD aj l i
  refine⟨g1,by show r<=(cU (l.map aj):Int);omega,fun hm=>?_⟩
  have hm:r<=most:=hm
  have:i=l.length:=by
   rcases h with h|h
   ·exact h
   ·exact absurd hm h
  subst this
  rw[vaT]at g3
  exact g3 hm
theorem yZ(e:af):kX (ac e)=1+(e.Name.length+1+(1+(cU (e.Kids.map ac)+1+(cU (e.Params.map ax)+1+(cU (e.Alts.map aF)+1+(cU (e.Types.map aj)+1+0)))))):=by
 rw[cc];simp only[kX,pm,sl]
theorem LM(a:aT):kX (aF a)=a.Con.length+1+(cU (a.Names.map cS)+1+kX (ac a.Body)):=by
 obtain⟨c,ns,b⟩:=a
 rw[aF]
 show kX (PVal.str c::sl cS ns::ac b)=_
 simp only[kX,pm,sl];rfl
theorem JM(p:aA):kX (ax p)=p.Name.length+1+kX (aj p.Type_):=by
 show kX (PVal.str p.Name::aj p.Type_)=_
 simp only[kX,pm]
theorem Xc(e:af):1<=kX (ac e):=by rw[yZ];omega
theorem Yl(a:aT):1<=kX (aF a):=by rw[LM];omega
theorem Pw(p:aA):1<=kX (ax p):=by rw[JM];omega
theorem LL{α:Type}(c:α->List PVal){l:List α}{x:α}(h:x∈l):kX (c x)<=cU (l.map c):=Nm (vah.2 ⟨x,h,rfl⟩)
theorem TB{e x:af}(h:x∈e.Kids):kX (ac x)<kX (ac e):=by have:=LL ac h;rw[yZ e];omega
theorem Zy{e:af}{a:aT}(h:a∈e.Alts):kX (aF a)<kX (ac e):=by have:=LL aF h;rw[yZ e];omega
theorem No{e:af}{a:aT}(h:a∈e.Alts):kX (ac a.Body)<kX (ac e):=by have:=Zy h;have:=LM a;omega
theorem Xd{e:af}{p:aA}(h:p∈e.Params):kX (ax p)<kX (ac e):=by have:=LL ax h;rw[yZ e];omega
theorem Yo{e:af}{t:ak}(h:t∈e.Types):kX (aj t)<kX (ac e):=by have:=LL aj h;rw[yZ e];omega
theorem Uj{e x:af}(h:x∈bB e):kX (ac x)<kX (ac e):=by
 rcases vaO.1 h with h|h
 ·exact TB h
 ·obtain⟨a,ha,rfl⟩:=vah.1 h
  exact No ha
theorem Ym{e x:af}(h:x∈df e):kX (ac x)<=kX (ac e):=by
 revert x
 refine WE (Q:=fun e=>∀{x},x∈df e->kX (ac x)<=kX (ac e)) (fun e ih x h=>?_) e
 rw[BE]at h
 rcases vaC.1 h with rfl|h
 ·exact vaj _
 ·obtain⟨y,hy,hx⟩:=List.mem_flatMap.1 h
  have:=ih y hy hx
  have:=Uj hy
  omega
mutual
theorem WQ:∀(e:af),nE e<=kX (ac e)
 |⟨o,n,k,ks,ps,as1,ts⟩=>by
  have h1:=WP ks
  have h2:=WN as1
  have h3:=sF ax Pw ps
  have h4:=sF aj Sq ts
  rw[nE,yZ]
  show _<=1+(n.length+1+(1+(cU (ks.map ac)+1+(cU (ps.map ax)+1+(cU (as1.map aF)+1+(cU (ts.map aj)+1+0))))))
  omega
theorem qbd:∀(a:aT),nA a<=kX (aF a)
 |⟨c,ns,b⟩=>by
  have h1:=WQ b
  have h2:=T6 ns
  rw[nA,LM]
  show _<=c.length+1+(cU (ns.map cS)+1+kX (ac b))
  omega
theorem WP:∀(l:List af),Ub l<=cU (l.map ac)
 |[]=>by simp[Ub]
 |e::l=>by
  have:=WQ e
  have:=WP l
  rw[Ub]
  simp only[vaB,cU]
  omega
theorem WN:∀(l:List aT),M3 l<=cU (l.map aF)
 |[]=>by simp[M3]
 |a::l=>by
  have:=qbd a
  have:=WN l
  rw[M3]
  simp only[vaB,cU]
  omega
end
theorem WW{t:ak}(h:kX (aj t)<=fB):OE t:=⟨vay (T7 t) h,TS fB t h⟩
theorem Yd(l:List ah)(most:Int)(hl:cU (l.map cS)<=HV):lW (EU l most) (fun r=>0<=r/\r<=(cU (l.map cS):Int)):=by
 unfold EU Ca
 unfold HV at hl
 have hlen:=T6 l
 refine aQ (Fk l (by omega) most (fun i n=>0<=n/\n<=(cU ((l.take i).map cS):Int)) (fun i hi n hI hm=>?_) (fun i n _ h=>?_) 0 ⟨by omega,by omega⟩) (fun r hr=>aC ?_)
 ·obtain⟨g1,g2⟩:=hI
  have e:=yn cS l i hi
  have e2:=fD cS l (i+1)
  have e3:kX (cS l[i])=l[i].length+1:=by simp only[cS,kX,pm]
  show lW (lx l most n i) _
  unfold lx xx
  rw[Je hi hm,bo l i hi]
  simp only[vaa,if_true]
  have hq:=vbE l[i].length 50
  rw[show(50:Int)=((50:Nat):Int)from rfl,JP _ 50 (by omega) (by omega)]
  simp only[vaa]
  rw[cJ (n:=n+1) (by omega) (by omega),cJ (n:=n+1+_) (by omega) (by omega)]
  exact aC ⟨_,rfl,by omega,by omega⟩
 ·show lx l most n i=_
  unfold lx xx
  rw[E1 h]
  rfl
 ·obtain⟨i,hi,⟨g1,g2⟩,h⟩:=hr
  have e2:=fD cS l i
  exact⟨g1,by omega⟩
theorem qaT(e:af)(most:Int)(he:kX (ac e)<=HV)(h1: -4000000<=most)(h2:most<=1000000000):lW (Md e most) (fun r=>0<=r/\r<=(kX (ac e):Int)):=by
 refine EM (F:=Gr) (fun x=>kX (ac x.1)) (fun x=>kX (ac x.1)<=HV/\-4000000<=x.2/\x.2<=1000000000) (fun x r=>0<=r/\r<=(kX (ac x.1):Int)) (fun R x hx ih=>?_) (e,most) ⟨he,h1,h2⟩ (qk (vay he (by decide)))
 obtain⟨e,most⟩:=x
 obtain⟨he,h1,h2⟩:=hx
 have he:kX (ac e)<=HV:=he
 have h1: -4000000<=most:=h1
 have h2:most<=1000000000:=h2
 have hpm:=yZ e
 have l1:=sF ax Pw e.Params
 have l2:=sF ac Xc e.Kids
 have l3:=sF aF Yl e.Alts
 show lW (B5 (fun e most=>R (e,most)) e most) (fun r=>0<=r/\r<=(kX (ac e):Int))
 unfold B5
 unfold HV at he
 have hq:=vbE e.Name.length 50
 rw[show(50:Int)=((50:Nat):Int)from rfl,JP _ 50 (by omega) (by omega)]
 simp only[vaa]
 refine aQ (Ur e.Types most (by unfold HV;omega) (by omega) h2) (fun rt ht=>?_)
 have t1:=ht.lo
 have t2:=ht.hi
 rw[cJ (n:=1+_) (by omega) (by omega),cJ (n:=1+_+rt) (by omega) (by omega)]
 generalize hb:(1:Int)+((e.Name.length / 50:Nat):Int)+rt=b0
 have b1:0<=b0:=by omega
 have b2:b0<=((1+e.Name.length+cU (e.Types.map aj):Nat):Int):=by omega
 refine aQ (R:=fun r=>0<=r/\r<=b0+(cU (e.Params.map ax):Int)) ?_ (fun r1 hr1=>?_)
 ·unfold DC
  refine(Fk e.Params (by omega) most (fun i n=>0<=n/\n<=b0+(cU ((e.Params.take i).map ax):Int)) (fun i hi n hI hm=>?_) (fun i n _ h=>?_) b0 ⟨b1,by simp[cU]⟩).mono (fun r hr=>?_)
  ·obtain⟨g1,g2⟩:=hI
   have e1:=yn ax e.Params i hi
   have e2:=fD ax e.Params (i+1)
   have e3:=JM e.Params[i]
   show lW (nD most e n i) _
   unfold nD zL
   rw[Je hi hm,bo e.Params i hi]
   simp only[vaa,if_true]
   have hq:=vbE e.Params[i].Name.length 50
   rw[show(50:Int)=((50:Nat):Int)from rfl,JP _ 50 (by omega) (by omega)]
   simp only[vaa]
   refine aQ (Ur [e.Params[i].Type_] most (by unfold HV;simp only[vaB,vb3,cU];omega) (by omega) h2) (fun rp hp=>?_)
   have p1:=hp.lo
   have p2:rp<=((kX (aj e.Params[i].Type_)+0:Nat):Int):=by
    have:=hp.hi
    simp only[vaB,vb3,cU]at this
    exact this
   rw[cJ (n:=n+1) (by omega) (by omega),cJ (n:=n+1+_) (by omega) (by omega),cJ (n:=n+1+_+_) (by omega) (by omega)]
   exact aC ⟨_,rfl,by omega,by omega⟩
  ·show nD most e n i=_
   unfold nD zL
   rw[E1 h]
   rfl
  ·obtain⟨i,hi,⟨g1,g2⟩,h⟩:=hr
   have e2:=fD ax e.Params i
   exact⟨g1,by omega⟩
 obtain⟨c1,c2⟩:=hr1
 refine aQ (R:=fun r=>0<=r/\r<=r1+(cU (e.Kids.map ac):Int)) ?_ (fun r2 hr2=>?_)
 ·unfold DD
  refine(Fk e.Kids (by omega) most (fun i n=>0<=n/\n<=r1+(cU ((e.Kids.take i).map ac):Int)) (fun i hi n hI hm=>?_) (fun i n _ h=>?_) r1 ⟨c1,by simp[cU]⟩).mono (fun r hr=>?_)
  ·obtain⟨g1,g2⟩:=hI
   have e1:=yn ac e.Kids i hi
   have e2:=fD ac e.Kids (i+1)
   have hk:=TB (van hi)
   show lW (nF (fun e most=>R (e,most)) most e n i) _
   unfold nF zM
   rw[Je hi hm,bo e.Kids i hi]
   simp only[vaa,if_true]
   rw[cJ (n:=most - n) (by omega) (by omega)]
   refine aQ (ih (e.Kids[i],most - n) hk ⟨by show kX (ac e.Kids[i])<=HV;unfold HV;omega,by show -4000000<=most - n;omega,by show most - n<=1000000000;omega⟩) (fun r hr=>?_)
   have q1:0<=r:=hr.1
   have q2:r<=(kX (ac e.Kids[i]):Int):=hr.2
   rw[cJ (n:=n+r) (by omega) (by omega)]
   exact aC ⟨_,rfl,by omega,by omega⟩
  ·show nF (fun e most=>R (e,most)) most e n i=_
   unfold nF zM
   rw[E1 h]
   rfl
  ·obtain⟨i,hi,⟨g1,g2⟩,h⟩:=hr
   have e2:=fD ac e.Kids i
   exact⟨g1,by omega⟩
 obtain⟨d1,d2⟩:=hr2
 refine aQ (R:=fun r=>0<=r/\r<=r2+(cU (e.Alts.map aF):Int)) ?_ (fun r3 hr3=>aC ⟨hr3.1,by have:=hr3.2;omega⟩)
 unfold DE
 refine(Fk e.Alts (by omega) most (fun i n=>0<=n/\n<=r2+(cU ((e.Alts.take i).map aF):Int)) (fun i hi n hI hm=>?_) (fun i n _ h=>?_) r2 ⟨d1,by simp[cU]⟩).mono (fun r hr=>?_)
 ·obtain⟨g1,g2⟩:=hI
  have e1:=yn aF e.Alts i hi
  have e2:=fD aF e.Alts (i+1)
  have e3:=LM e.Alts[i]
  have hk:=No (van hi)
  show lW (nG (fun e most=>R (e,most)) most e n i) _
  unfold nG zN
  rw[Je hi hm,bo e.Alts i hi]
  simp only[vaa,if_true]
  have hq:=vbE e.Alts[i].Con.length 50
  rw[show(50:Int)=((50:Nat):Int)from rfl,JP _ 50 (by omega) (by omega)]
  simp only[vaa]
  refine aQ (Yd e.Alts[i].Names most (by unfold HV;omega)) (fun rn hn=>?_)
  obtain⟨n1,n2⟩:=hn
  rw[cJ (n:=n+1) (by omega) (by omega),cJ (n:=n+1+_) (by omega) (by omega),cJ (n:=n+1+_+_) (by omega) (by omega),cJ (n:=most - _) (by omega) (by omega)]
  refine aQ (ih (e.Alts[i].Body,most - (n+1+((e.Alts[i].Con.length / 50:Nat):Int)+rn)) hk ⟨by show kX (ac e.Alts[i].Body)<=HV;unfold HV;omega,by show -4000000<=most - _;omega,by show most - _<=1000000000;omega⟩) (fun r hr=>?_)
  have q1:0<=r:=hr.1
  have q2:r<=(kX (ac e.Alts[i].Body):Int):=hr.2
  rw[cJ (n:=_+r) (by omega) (by omega)]
  exact aC ⟨_,rfl,by omega,by omega⟩
 ·show nG (fun e most=>R (e,most)) most e n i=_
  unfold nG zN
  rw[E1 h]
  rfl
 ·obtain⟨i,hi,⟨g1,g2⟩,h⟩:=hr
  have e2:=fD aF e.Alts i
  exact⟨g1,by omega⟩
theorem PJ(e:af)(he:kX (ac e)<=HV):lW (Bg e) (fun _=>True):=by
 unfold Bg
 exact aQ (qaT e 600 he (by omega) (by omega)) (fun r _=>aC trivial)
theorem NG{a b:aA}:a=b↔a.Name=b.Name/\a.Type_=b.Type_:=by
 obtain⟨n,t⟩:=a
 obtain⟨n',t'⟩:=b
 constructor
 ·rintro h;cases h;exact⟨rfl,rfl⟩
 ·rintro⟨h1,h2⟩;cases h1;cases h2;rfl
theorem SI{a b:aT}:a=b↔a.Con=b.Con/\a.Names=b.Names/\a.Body=b.Body:=by
 obtain⟨n,t,e⟩:=a
 obtain⟨n',t',e'⟩:=b
 constructor
 ·rintro h;cases h;exact⟨rfl,rfl,rfl⟩
 ·rintro⟨h1,h2,h3⟩;cases h1;cases h2;cases h3;rfl
theorem u4{a b:af}:a=b↔a.Op=b.Op/\a.Name=b.Name/\a.N=b.N/\a.Kids=b.Kids/\a.Types=b.Types/\a.Params=b.Params/\a.Alts=b.Alts:=by
 obtain⟨o,n,k,ks,ps,as1,ts⟩:=a
 obtain⟨o',n',k',ks',ps',as1',ts'⟩:=b
 constructor
 ·rintro h;cases h;exact⟨rfl,rfl,rfl,rfl,rfl,rfl,rfl⟩
 ·rintro⟨h1,h2,h3,h4,h5,h6,h7⟩;cases h1;cases h2;cases h3;cases h4;cases h5;cases h6;cases h7;rfl
abbrev Dh(e:af):Prop:=kX (ac e)<=fB
theorem oe{e:af}(h:Dh e):nE e<=fB:=vay (WQ e) h
theorem WU{e x:af}(h:Dh e)(hx:x∈bB e):Dh x:=vay (vbF (Uj hx)) h
theorem QL{e x:af}(h:Dh e)(hx:x∈e.Kids):Dh x:=vay (vbF (TB hx)) h
theorem JG{e:af}{a:aT}(h:Dh e)(hx:a∈e.Alts):Dh a.Body:=vay (vbF (No hx)) h
theorem WV{e x:af}(h:Dh e)(hx:x∈df e):Dh x:=vay (Ym hx) h
theorem Ia{e:af}{t:ak}(h:Dh e)(hx:t∈e.Types):OE t:=WW (vay (vbF (Yo hx)) h)
theorem BF{e:af}{p:aA}(h:Dh e)(hx:p∈e.Params):OE p.Type_:=WW (by have:=Xd hx;have:=JM p;have:kX (ac e)<=fB:=h;omega)
theorem Sg{e:af}{a:aT}(h:Dh e)(hx:a∈e.Alts):a.Names.length<=fB:=vay (vbF (I8 hx)) (oe h)
theorem Zv(a b:aA)(ha:OE a.Type_):vI a b=some (decide (a=b)):=by
 unfold vI
 rw[JN _ _ ha]
 simp only[vaa,Qc,vat]
 rw[vbA]
 simp[NG (a:=a) (b:=b)]
theorem Zw{R:af->af->Option Bool}(a b:aT)(ha:a.Names.length<=fB)(h:R a.Body b.Body=some (decide (a.Body=b.Body))):vJ R a b=some (decide (a=b)):=by
 unfold vJ
 rw[Pp ha,h]
 simp only[vaa,Qc,vat]
 rw[vbA]
 simp[SI (a:=a) (b:=b)]
theorem W1{R:af->af->Option Bool}{a b:List af}(ha:a.length<=fB)(h:∀x∈a,∀y∈b,R x y=some (decide (x=y))):jZ R a b=some (decide (a=b)):=by
 unfold jZ kY
 refine xI ha _ (fun i h1 h2=>?_) ?_ rfl rfl
 ·show dK R b a (a.length:Int) (i:Int)=_
  unfold dK
  rw[vaq (by simpa using h1),bo a i h1]
  simp only[vaa]
  rw[bo b i h2]
  simp only[vaa]
  rw[h _ (van h1) _ (van h2)]
  simp only[vaa]
  by_cases he:a[i]=b[i]<;>simp[he]
 ·show dK R b a (a.length:Int) (a.length:Int)=_
  unfold dK
  rw[vas (by simp)]
theorem Tv{a b:List aA}(ha:a.length<=fB)(h:∀x∈a,OE x.Type_):iD a b=some (decide (a=b)):=by
 unfold iD jO
 refine xI ha _ (fun i h1 h2=>?_) ?_ rfl rfl
 ·show di b a (a.length:Int) (i:Int)=_
  unfold di
  rw[vaq (by simpa using h1),bo a i h1]
  simp only[vaa]
  rw[bo b i h2]
  simp only[vaa]
  rw[Zv _ _ (h _ (van h1))]
  simp only[vaa]
  by_cases he:a[i]=b[i]<;>simp[he]
 ·show di b a (a.length:Int) (a.length:Int)=_
  unfold di
  rw[vas (by simp)]
theorem W0{R:af->af->Option Bool}{a b:List aT}(ha:a.length<=fB)(hn:∀x∈a,x.Names.length<=fB)(h:∀x∈a,∀y∈b,R x.Body y.Body=some (decide (x.Body=y.Body))):iE R a b=some (decide (a=b)):=by
 unfold iE jP
 refine xI ha _ (fun i h1 h2=>?_) ?_ rfl rfl
 ·show dl R b a (a.length:Int) (i:Int)=_
  unfold dl
  rw[vaq (by simpa using h1),bo a i h1]
  simp only[vaa]
  rw[bo b i h2]
  simp only[vaa]
  rw[Zw _ _ (hn _ (van h1)) (h _ (van h1) _ (van h2))]
  simp only[vaa]
  by_cases he:a[i]=b[i]<;>simp[he]
 ·show dl R b a (a.length:Int) (a.length:Int)=_
  unfold dl
  rw[vas (by simp)]
theorem TP(a b:af)(ha:Dh a):Am a b=some (decide (a=b)):=by
 refine vo (F:=AY) (fun x=>nE x.1) (fun x=>Dh x.1) (fun x=>decide (x.1=x.2)) (fun R x hx ih=>?_) (a,b) ha (qk (oe ha))
 obtain⟨u,v⟩:=x
 have hu:Dh u:=hx
 have l0:=oe hu
 have l1:=E7 u
 have l2:=sq u
 have l3:=px u
 have l4:=CK u
 show vK (fun a a2=>R (a,a2)) u v=some (decide (u=v))
 unfold vK
 rw[W1 (R:=fun a a2=>R (a,a2)) (a:=u.Kids) (b:=v.Kids) (by omega) (fun x hx y _=>ih (x,y) (LI hx) (QL hu hx)),Pq (R:=iQ) (a:=u.Types) (b:=v.Types) (by omega) (fun x hx y _=>JN x y (Ia hu hx)),
  Tv (by omega) (fun x hx=>BF hu hx),W0 (R:=fun a a2=>R (a,a2)) (a:=u.Alts) (b:=v.Alts) (by omega) (fun x hx=>Sg hu hx) (fun x hx y _=>ih (x.Body,y.Body) (LB hx) (JG hu hx))]
 simp only[vaa,Qc,vat]
 rw[vbA]
 simp[u4 (a:=u) (b:=v)]
theorem TI{a b:List aA}(ha:a.length<=fB)(h:∀x∈a,OE x.Type_)(h':∀x∈b,OE x.Type_):tb a b=some (decide (a=b)):=by
 unfold tb td
 refine xI ha _ (fun i h1 h2=>?_) ?_ rfl rfl
 ·show gd a b (i:Int)=_
  unfold gd tc
  rw[vaq (by simpa using h1),bo a i h1]
  simp only[vaa]
  rw[bo b i h2]
  simp only[vaa]
  rw[JQ _ _ (h _ (van h1)) (h' _ (van h2))]
  simp only[vaa,WZ]
  have he:=NG (a:=a[i]) (b:=b[i])
  by_cases e1:a[i].Name=b[i].Name<;>by_cases e2:a[i].Type_=b[i].Type_<;>simp[he,e1,e2]
 ·show gd a b (a.length:Int)=_
  unfold gd
  rw[vas (by simp)]
theorem Xi(a b:af)(ha:Dh a)(hb:Dh b):DH a b=some (decide (a=b)):=by
 refine vo (F:=Gt) (fun x=>nE x.1) (fun x=>Dh x.1/\Dh x.2) (fun x=>decide (x.1=x.2)) (fun R x hx ih=>?_) (a,b) ⟨ha,hb⟩ (qk (oe ha))
 obtain⟨u,v⟩:=x
 obtain⟨hu,hv⟩:Dh u/\Dh v:=hx
 have l0:=oe hu
 have l1:=E7 u
 have l2:=sq u
 have l3:=px u
 have l4:=CK u
 show B6 (fun a a2=>R (a,a2)) u v=some (decide (u=v))
 unfold B6 DK DL
 rw[TI (by omega) (fun x hx=>BF hu hx) (fun x hx=>BF hv hx),PD (R:=mo) (a:=u.Types) (b:=v.Types) (by omega) (fun x hx y hy=>JQ x y (Ia hu hx) (Ia hv hy))]
 simp only[vaa,WZ]
 by_cases h0:(u.Op !=v.Op||(!(u.Name==v.Name)||(u.N !=v.N||(!decide (u.Params=v.Params)||!decide (u.Types=v.Types)))))=true
 ·rw[vaq h0]
  congr 1;symm
  rw[va1,u4]
  rintro⟨e1,e2,e3,e4,e5,e6,e7⟩
  simp[e1,e2,e3,e5,e6]at h0
 ·rw [vas h0]
  simp only[vaZ,not_or,vaJ,bne_iff_ne,ne_eq,Decidable.not_not,vcW,vaW,vak]at h0
  obtain⟨e1,e2,e3,e6,e5⟩:=h0
  by_cases hk:u.Kids.length=v.Kids.length
  ·by_cases hal:u.Alts.length=v.Alts.length
   ·rw [vas (by simp [hk,hal])]
    unfold DN
    rw[Br hk (by unfold fB at l0;omega) (fun zz=>kP (fun a a2=>R (a,a2)) u v zz) (.inl ()) (.inr ()) (fun i h1 h2=>?_) ?_]
    ·by_cases e4:u.Kids=v.Kids
     ·simp only[e4,decide_true,if_true,vaa]
      unfold DO
      rw[Br hal (by unfold fB at l0;omega) (fun zz=>kR (fun a a2=>R (a,a2)) u v zz) (.inl ()) (.inr ()) (fun i h1 h2=>?_) ?_]
      ·by_cases e7:u.Alts=v.Alts
       ·simp[e7,u4 (a:=u) (b:=v),e1,e2,e3,e4,e5,e6]
       ·simp[e7,u4 (a:=u) (b:=v)]
      ·show kR (fun a a2=>R (a,a2)) u v (u.Alts.length:Int)=_
       unfold kR
       rw[vas (by simp)]
      ·show kR (fun a a2=>R (a,a2)) u v (i:Int)=_
       unfold kR
       rw[vaq (by simpa using h1),bo _ i h1]
       simp only[vaa]
       rw[bo _ i h2]
       simp only[vaa,O6]
       unfold DM
       rw[PB (Sg hu (van h1))]
       have hih:=ih (u.Alts[i].Body,v.Alts[i].Body) (LB (van h1)) ⟨JG hu (van h1),JG hv (van h2)⟩
       simp only[O6,vaa,hih,WZ]
       have he:=SI (a:=u.Alts[i]) (b:=v.Alts[i])
       by_cases f1:u.Alts[i].Con=v.Alts[i].Con<;>by_cases f2:u.Alts[i].Names=v.Alts[i].Names<;>by_cases f3:u.Alts[i].Body=v.Alts[i].Body<;>simp[he,f1,f2,f3]
     ·simp[e4,u4 (a:=u) (b:=v)]
    ·show kP (fun a a2=>R (a,a2)) u v (u.Kids.length:Int)=_
     unfold kP
     rw[vas (by simp)]
    ·show kP (fun a a2=>R (a,a2)) u v (i:Int)=_
     unfold kP
     rw[vaq (by simpa using h1),bo _ i h1]
     simp only[vaa]
     rw[bo _ i h2]
     simp only[vaa]
     rw[ih (u.Kids[i],v.Kids[i]) (LI (van h1)) ⟨QL hu (van h1),QL hv (van h2)⟩]
     simp only[vaa]
     by_cases he:u.Kids[i]=v.Kids[i]<;>simp[he]
   ·have hx:((u.Alts.length:Int)!=(v.Alts.length:Int))=true:=by simp;omega
    rw[vaq (by simp[hx])]
    congr 1;symm
    rw[va1,u4]
    rintro⟨_,_,_,_,_,_,e7⟩
    exact hal (by rw[e7])
  ·have hx:((u.Kids.length:Int)!=(v.Kids.length:Int))=true:=by simp;omega
   rw[vaq (by simp[hx])]
   congr 1;symm
   rw[va1,u4]
   rintro⟨_,_,_,e4,_⟩
   exact hk (by rw[e4])
def F7(l:List ah)(s:ah):Int:=match l.findIdx? (fun x=>x==s)with|some j=>(j:Int)|none=>-1
theorem Dt(l:List ah)(s:ah)(hl:l.length<9223372036854775808):Dq l s=some (F7 l s):=by
 unfold Dq Dr
 have:=Pj l hl (fun zz=>qB l s l.length zz) (fun x=>x==s) (fun j=>Sum.inl (j:Int)) (Sum.inr ()) (fun i h=>by
  simp only[qB]
  rw[vaq (by simp;omega),bo _ i h]
  simp only[vaa]
  split<;>simp_all) (by simp only[qB];rw[vas (by simp)])
 rw[this]
 unfold F7
 cases l.findIdx? (fun x=>x==s)<;>rfl
theorem Qt(l:List ah)(s:ah):decide (F7 l s>=0)=l.any fun k=>k==s:=by
 unfold F7
 cases h:l.findIdx? (fun x=>x==s)with
 |none=>
  rw[vbs]at h
  symm
  simp only[vbd]
  rw[show decide ((-1:Int)>=0)=false from rfl]
  simp only[vbd,vcy]
  exact h
 | some j =>
  have h2:l.any (fun x=>x==s)=true:=by
   have:=List.findIdx?_isSome (xs:=l) (p:=fun x=>x==s)
   rw[h]at this
   exact this.symm
  rw[h2]
  simp
theorem Pk{α:Type}(k:ah)(v:α)(j:ah):∀(m:List (ah×α)),Co (Ej m k v) j=if(j==k)=true then some v else Co m j
 |[]=>by
  simp only[Ej,Co,List.find?_cons,List.find?_nil]
  cases(j==k)<;>rfl
 | e :: r => by
  have ih:=Pk k v j r
  unfold Ej
  by_cases h:(k==e.1)=true
  ·have h':k=e.1:=by simpa using h
   rw[vaq h]
   unfold Co
   simp only[List.find?_cons]
   rw[<-h']
   cases hj:(j==k)<;>simp
  ·rw [vas h]
   unfold Co at ih ⊢
   simp only[List.find?_cons]
   cases hj:(j==e.1)
   ·simpa using ih
   ·have:¬(j==k)=true:=fun hk=>h (by
      have h1:j=e.1:=by simpa using hj
      have h2:j=k:=by simpa using hk
      simp[<-h1,<-h2])
    simp[this]
theorem SJ{X:Type}(n:Nat)(hn:n<9223372036854775808){body:Int->Option (Int⊕X)}(k:Int->Option (Int⊕X))(e:X)(hb:∀i:Int,body i=if decide (i<(n:Int))=true then k i else some (.inr e))
  (hk:∀i:Nat,i<n->lW (k (i:Int)) (fun r=>match r with|.inl t=>t=bN ((i:Int)+1)|.inr _=>True)):lW (loop body 0) (fun _=>True):=by
 have e1:(List.replicate n ()).length=n:=List.length_replicate
 refine Fl (List.replicate n ()) (by omega) (fun i (_:Unit)=>i) (fun _ _=>True) (fun i hi s _=>?_) (fun s _=>?_) () trivial
 ·rw[e1]at hi
  rw[hb,vaq (va3 (by omega))]
  exact(hk i hi).mono fun r hr=>by
   cases r with
   |inl t=>exact⟨(),hr,trivial⟩
   |inr _=>trivial
 ·rw[hb,vas (by rw[e1];simp)]
  exact aC trivial
theorem yp(c:Int):lW (ls c) (fun _=>True):=by unfold ls;exact bL (fun _=>aC trivial) (fun _=>aC trivial)
theorem E4(c:Int):lW (pG c) (fun _=>True):=by unfold pG;exact bL (fun _=>aC trivial) (fun _=>aC trivial)
theorem D9(c:Int):lW (l8 c) (fun _=>True):=by unfold l8;exact bL (fun _=>aC trivial) (fun _=>aC trivial)
theorem kE{s:ah}{i:Nat}(h:i<s.length):lW (ms s (i:Int)) (fun _=>True):=Xr (pl s i h) trivial
theorem Bn{s:ah}(h:0<s.length):lW (ms s 0) (fun _=>True):=kE (i:=0) h
theorem R2(s:ah):lW (rZ s) (fun _=>True):=by
 unfold rZ
 exact aQ (R:=fun l=>l.length<9223372036854775808) ⟨_,rfl,by decide⟩ (fun l hl=>jo (Dt l s hl) (aC trivial))
theorem S4{s:ah}{i:Nat}(h:i<s.length):lW (ml s i) (fun _=>True):=by
 unfold ml
 exact aQ (kE h) fun _ _=>aQ (yp _) fun _ _=>bL (fun _=>aQ (kE h) fun _ _=>aQ (E4 _) fun _ _=>bL (fun _=>aQ (kE h) fun _ _=>aC trivial) fun _=>aC trivial) fun _=>aC trivial
theorem UD(s:ah):lW (yg s) (fun _=>True):=by
 unfold yg
 refine aQ (R:=fun o=>o=true\/s.length<=24) ?_ fun o ho=>bL (fun _=>aC trivial) fun hn=>?_
 ·unfold sV
  refine bL (fun _=>aC (.inl rfl)) fun h1=>bL (fun _=>aC (.inl rfl)) fun h2=>?_
  rw[vak]at h1 h2
  exact aQ (Bn (by omega)) fun _ _=>aQ (yp _) fun _ _=>bL (fun _=>aC (.inl rfl)) fun _=>aQ (R2 s) fun _ _=>aC (.inr (by omega))
 ·have hs:s.length<=24:=ho.resolve_left hn
  unfold sX
  refine aQ (SJ s.length (by omega) (fun i=>(ml s i).bind fun o=>if o=true then some (.inr (.inl ()))else some (.inl (bN (i+1)))) (.inr ()) (fun i=>rfl) fun i hi=>aQ (S4 hi) fun _ _=>bL (fun _=>aC trivial) fun _=>aC rfl) fun o _=>?_
  cases o<;>exact aC trivial
theorem TK{s:ah}{i:Nat}(h:i<s.length):lW (mn s i) (fun _=>True):=by
 unfold mn
 exact aQ (kE h) fun _ _=>aQ (yp _) fun _ _=>bL (fun _=>aQ (kE h) fun _ _=>aQ (D9 _) fun _ _=>bL (fun _=>aQ (kE h) fun _ _=>aQ (E4 _) fun _ _=>aC trivial) fun _=>aC trivial) fun _=>aC trivial
theorem UF(s:ah):lW (yh s) (fun _=>True):=by
 unfold yh
 refine aQ (R:=fun o=>o=true\/s.length<=24) ?_ fun o ho=>bL (fun _=>aC trivial) fun hn=>?_
 ·unfold sY
  refine bL (fun _=>aC (.inl rfl)) fun h1=>bL (fun _=>aC (.inl rfl)) fun h2=>?_
  rw[vak]at h1 h2
  have h3:s.length<=24:=by omega
  exact aQ (Bn (by omega)) fun _ _=>aQ (D9 _) fun _ _=>bL (fun _=>aC (.inl rfl)) fun _=>bL (fun _=>aC (.inl rfl)) fun _=>bL (fun _=>aC (.inl rfl)) fun _=>bL (fun _=>aC (.inl rfl)) fun _=>aC (.inr h3)
 ·have hs:s.length<=24:=ho.resolve_left hn
  unfold s4
  refine aQ (SJ s.length (by omega) (fun i=>(mn s i).bind fun o=>if o=true then some (.inr (.inl ()))else some (.inl (bN (i+1)))) (.inr ()) (fun i=>rfl) fun i hi=>aQ (TK hi) fun _ _=>bL (fun _=>aC trivial) fun _=>aC rfl) fun o _=>?_
  cases o<;>exact aC trivial
theorem Ve{s:ah}(b:Bool){i:Nat}(h:i<s.length):lW (sa s b i) (fun _=>True):=by
 unfold sa
 exact bL (fun _=>aQ (kE h) fun _ _=>aQ (yp _) fun _ _=>bL (fun _=>aC trivial) fun _=>aQ (kE h) fun _ _=>aQ (D9 _) fun _ _=>bL (fun _=>aC trivial) fun _=>aQ (kE h) fun _ _=>aQ (E4 _) fun _ _=>aC trivial) fun _=>aC trivial
theorem W2(s:ah):lW (A9 s) (fun _=>True):=by
 unfold A9
 refine aQ (R:=fun o=>o=true\/(0<s.length/\s.length<=24)) ?_ fun o ho=>bL (fun _=>aC trivial) fun hn=>?_
 ·unfold zH
  refine bL (fun _=>aC (.inl rfl)) fun h1=>aC ?_
  rw[vak]at h1
  by_cases h2:(s.length:Int)>24
  ·exact .inl (va3 h2)
  ·exact .inr ⟨by omega,by omega⟩
 ·obtain⟨h0,hs⟩:=ho.resolve_left hn
  refine aQ (Bn h0) fun _ _=>aQ (yp _) fun r6 _=>?_
  unfold vS
  refine aQ (R:=fun _=>True) (Fl s (by omega) (fun i (z:Bool×Bool)=>(z.1,z.2,i)) (fun _ _=>True) (fun i hi z _=>?_) (fun z _=>?_) (true,r6) trivial) fun o _=>bL (fun _=>aC trivial) fun _=>aC trivial
  ·show lW (gV s s.length z.1 z.2 i) _
   unfold gV
   rw[vaq (va3 (by omega))]
   exact aQ (Ve _ hi) fun o _=>bL (fun _=>aQ (kE hi) fun _ _=>aQ (yp _) fun _ _=>bL (fun _=>aC ⟨(o,true),rfl,trivial⟩) fun _=>aQ (kE hi) fun _ _=>aQ (E4 _) fun _ _=>bL (fun _=>aC ⟨(o,true),rfl,trivial⟩) fun _=>aQ (kE hi) fun c _=>aC ⟨(o,c==95),rfl,trivial⟩) fun _=>aC ⟨(o,false),rfl,trivial⟩
  ·show lW (gV s s.length z.1 z.2 s.length) _
   unfold gV
   rw[vas (by simp)]
   exact aC trivial
theorem SG{α:Type}(l:List α)(a b:Nat)(h:a<=b)(h2:b<=l.length):Rd l (some (a:Int)) (some (b:Int))=some ((l.take b).drop a):=by
 simp[Rd,bd,h,h2]
theorem Vf(s:ah)(hs:s.length<=120):lW (yi s) (fun l=>l≠[]/\l.length<=121):=by
 unfold yi xp
 refine aQ (R:=fun o=>o.1.length<=s.length/\∃b:Nat,o.2=(b:Int)/\b<=s.length) (Fl s (by omega) (fun i (z:List ah×Int)=>(z.1,z.2,i)) (fun i z=>z.1.length<=i/\∃b:Nat,z.2=(b:Int)/\b<=i) (fun i hi z hz=>?_) (fun z hz=>?_) ([],0) ⟨vaj _,0,rfl,vaj _⟩) fun o ho=>?_
 ·obtain⟨out,bg⟩:=z
  obtain⟨h1,b,hb,hbi⟩:=hz
  simp only at h1 hb
  subst hb
  show lW (fU s s.length out b i) _
  unfold fU
  rw[vaq (va3 (by omega))]
  refine aQ (kE hi) fun c _=>bL (fun _=>?_) fun _=>aC ⟨(out,b),rfl,by simp only;omega,b,rfl,by omega⟩
  refine jo (SG s b i hbi (by omega)) (jo (th (by simp;omega)) (aC ⟨(_,bN ((i:Int)+1)),rfl,by simp;omega,i+1,?_,vaj _⟩))
  simp only
  rw[cJ (by omega) (by omega)]
  omega
 ·obtain⟨out,bg⟩:=z
  show lW (fU s s.length out bg s.length) _
  unfold fU
  rw[vas (by simp)]
  exact aC hz
 ·obtain⟨h1,b,hb,hbi⟩:=ho
  rw[hb]
  exact jo (EB s b hbi) (jo (th (by simp;omega)) (aC ⟨by simp,by simp;omega⟩))
theorem UQ{v:List ah}(h:v≠[]):lW (rX v) (fun _=>True):=by
 obtain⟨x,r,rfl⟩:=List.exists_cons_of_ne_nil h
 unfold rX
 exact jo (HS x r) (aQ (UD x) fun _ _=>bL (fun _=>jo (HS x r) (aQ (UF x) fun _ _=>bL (fun _=>jo (HS x r) (bL (fun _=>aC trivial) fun _=>aC trivial)) fun _=>aC trivial)) fun _=>aC trivial)
theorem Wm:oJ []=some 3:=by kernel_rfl
theorem VZ(s:ah):lW (oJ s) (fun r=>(r==0)=true->0<s.length):=by
 by_cases hs:s=[]
 ·subst hs
  exact Xr Wm fun h=>by simp at h
 have hp:0<s.length:=vcP.2 hs
 unfold oJ
 refine bL (fun _=>aC fun _=>hp) fun h1=>?_
 rw[vak]at h1
 refine aQ (Vf s (by omega)) fun l hl=>aQ (UQ hl.1) fun _ _=>bL (fun _=>aC fun _=>hp) fun _=>?_
 have h2:1<=l.length:=vcP.2 hl.1
 refine jo (EB l 1 h2) ?_
 unfold zG
 refine aQ (PM (l.drop 1) (by simp;omega) _ (fun _=>True) (fun _=>True) (fun i=>rfl) (fun x hx i=>aQ (W2 x) fun _ _=>bL (fun _=>aC trivial) fun _=>aC ⟨rfl,trivial⟩)) fun o _=>?_
 cases o<;>exact aC fun _=>hp
theorem RG(s:ah)(b:Bool):lW (vT s b) (fun _=>True):=by
 unfold vT
 exact aQ (VZ s) fun r hr=>bL (fun h=>aQ (Bn (hr h)) fun _ _=>bL (fun _=>aQ (Bn (hr h)) fun _ _=>aC trivial) fun _=>aC trivial) fun _=>aC trivial
theorem Hd{A:Type}(n:Nat)(hn:n<9223372036854775808){body:Int->Option (Int⊕(A⊕Unit))}(P:Nat->Prop)(B:A->Prop)
  (hin:∀i:Nat,i<n->lW (body (i:Int)) (fun r=>r.elim (fun t=>t=bN ((i:Int)+1)/\P i) (fun y=>y.elim B (fun _=>False)))) (hend:body (n:Int)=some (.inr (.inr ()))):lW (loop body 0) (fun r=>r.elim B (fun _=>∀i,i<n->P i)):=by
 have key:∀k i,k+i=n->(∀j,j<i->P j)->lW (loop body (i:Int)) (fun r=>r.elim B (fun _=>∀i,i<n->P i)):=by
  intro k
  induction k with
  |zero=>
   intro i hi hP
   have:i=n:=by omega
   subst this
   rw[nM hend]
   exact aC hP
  | succ k ih =>
   intro i hi hP
   obtain⟨r,e,hr⟩:=hin i (by omega)
   rw[jX,e]
   cases r with
   | inl t =>
    obtain⟨rfl,hp⟩:=hr
    simp only
    rw[cJ (by omega) (by omega),show((i:Int)+1)=((i+1:Nat):Int) by omega]
    exact ih (i+1) (by omega) fun j hj=>by
     by_cases he:j=i
     ·subst he;exact hp
     ·exact hP j (by omega)
   |inr y=>
    cases y with
    |inl a=>exact⟨_,rfl,hr⟩
    |inr u=>exact hr.elim
 exact key n 0 (by omega) fun j hj=>absurd hj (vaG _)
theorem Ws{l:List ah}{i:Nat}(h:i<l.length)(hf:F7 l l[i]=(i:Int)):∀k (hk:k<l.length),k<i->l[i]≠l[k]:=by
 intro k hk hki he
 unfold F7 at hf
 cases hx:l.findIdx? (fun x=>x==l[i])with
 |none=>
  rw[vbs]at hx
  have:=hx _ (van h)
  simp at this
 | some j =>
  obtain⟨hj,_,hj3⟩:=va7.1 hx
  rw[hx]at hf
  have hji:j=i:=by
   have:(j:Int)=(i:Int):=by simpa using hf
   omega
  subst hji
  have:=hj3 k hki
  rw[he]at this
  simp at this
theorem U7{l:List ah}(h:∀i (hi:i<l.length),∀k (hk:k<l.length),k<i->l[i]≠l[k]):l.Nodup:=by
 unfold List.Nodup
 rw[vcl]
 intro i j hi hj hij he
 exact h j hj i hi hij he.symm
theorem RP{l:List ah}(h:l.Nodup){i:Nat}(hi:i<l.length):F7 l l[i]=(i:Int):=by
 have hx:l.findIdx? (fun x=>x==l[i])=some i:=by
  rw[va7]
  refine⟨hi,by simp,fun k hk=>?_⟩
  unfold List.Nodup at h
  rw[vcl]at h
  simpa using h k i (by omega) hi hk
 unfold F7
 rw[hx]
theorem Cy(l:List ah)(hl:l.length<9223372036854775808):mm l=some (decide l.Nodup):=by
 have:lW (mm l) (fun r=>r=decide l.Nodup):=by
  unfold mm wx
  refine aQ (Hd l.length hl (fun i=>∀(hi:i<l.length),F7 l l[i]=(i:Int)) (fun _=>¬l.Nodup) (fun i hi=>?_) ?_) (fun o ho=>?_)
  ·unfold n8
   rw[vaq (va3 (by omega)),bo _ i hi]
   simp only[vaa]
   refine jo (Dt l _ hl) (bL (fun hne=>aC (fun hd=>?_)) (fun hne=>aC ⟨rfl,fun _=>by simpa using hne⟩))
   rw[RP hd hi]at hne
   simp at hne
  ·unfold n8
   rw[vas (by simp)]
  ·cases o with
   |inl _=>
    have ho:¬l.Nodup:=ho
    exact aC (decide_eq_false ho).symm
   |inr _=>
    have ho:∀i,i<l.length->∀(hi:i<l.length),F7 l l[i]=(i:Int):=ho
    exact aC (va3 (U7 (fun i hi=>Ws hi (ho i hi hi)))).symm
 exact Yz.1 this
def GT(l:List ah):List (ah×Bool):=l.foldl (fun m x=>Ej m x true) []
theorem PH(l:List ah)(x:ah):GT (l++[x])=Ej (GT l) x true:=by unfold GT;rw[vcV];rfl
theorem SF(x:ah):∀(n:Nat) (l:List ah),l.length=n->(Co (GT l) x).getD false=decide (x∈l)
 |0,l,h=>by
  have:l=[]:=vcu.1 h
  subst this
  simp[GT,Co]
 | n + 1,l,h => by
  obtain⟨l',y,rfl⟩:∃l' y,l=l'++[y]:=by
   have hne:l≠[]:=fun hc=>by rw[hc]at h;cases h
   exact⟨l.dropLast,l.getLast hne,(vca hne).symm⟩
  rw[PH,Pk]
  have ih:=SF x n l' (by simpa using h)
  by_cases hxy:x=y
  ·subst hxy;simp
  ·have:(x==y)=false:=by simpa using hxy
   rw[this]
   simp only[vaz,if_false]
   rw[ih]
   simp[hxy]
theorem QO(l:List ah)(hl:l.length<9223372036854775808):tn l=some (decide l.Nodup):=by
 unfold tn tp
 have key:∀k i:Nat,k+i=l.length->(l.take i).Nodup->lW (loop (fun(zz:Int×(List (ah×Bool)))=>ck l (l.length:Int) zz.1 zz.2) ((i:Int),GT (l.take i))) (fun o=>o.elim (fun _=>¬l.Nodup) (fun _=>l.Nodup)):=by
  intro k
  induction k with
  | zero =>
   intro i hi hn
   have hi:i=l.length:=by omega
   subst hi
   rw[vaT]at hn ⊢
   have hb:(fun(zz:Int×(List (ah×Bool)))=>ck l (l.length:Int) zz.1 zz.2) ((l.length:Int),GT l)=some (.inr (.inr (GT l))):=by
    show ck l (l.length:Int) (l.length:Int) (GT l)=_
    unfold ck
    rw[vas (by simp)]
   rw[nM hb]
   exact aC hn
  | succ k ihk =>
   intro i hi hn
   have hil:i<l.length:=by omega
   have hg:=SF l[i] _ (l.take i) rfl
   have ht:=vav hil
   by_cases hm:l[i]∈l.take i
   ·have hb:(fun(zz:Int×(List (ah×Bool)))=>ck l (l.length:Int) zz.1 zz.2) ((i:Int),GT (l.take i))=some (.inr (.inl (GT (l.take i)))):=by
     show ck l (l.length:Int) (i:Int) (GT (l.take i))=_
     unfold ck
     rw[vaq (va3 (by omega)),bo _ i hil]
     simp only[vaa]
     rw[hg,va3 hm,vaq rfl]
    rw[nM hb]
    refine aC (fun hd=>?_)
    have h2:=(List.take_sublist (i+1) l).nodup hd
    rw[ht,vbX]at h2
    exact h2.2.2 _ hm _ (vbm.2 rfl) rfl
   ·have hb:(fun(zz:Int×(List (ah×Bool)))=>ck l (l.length:Int) zz.1 zz.2) ((i:Int),GT (l.take i))=some (.inl (((i+1:Nat):Int),GT (l.take (i+1)))):=by
     show ck l (l.length:Int) (i:Int) (GT (l.take i))=_
     unfold ck
     rw[vaq (va3 (by omega)),bo _ i hil]
     simp only[vaa]
     rw[hg,decide_eq_false hm,vas (by simp),cJ (by omega) (by omega),ht,PH,show((i:Int)+1)=((i+1:Nat):Int) by omega]
    rw[Bq hb]
    refine ihk (i+1) (by omega) ?_
    rw[ht,vbX]
    exact⟨hn,by simp,fun a ha b hb he=>hm (by rw[vbm.1 hb]at he;exact he▸ha)⟩
 obtain⟨o,e,ho⟩:=key l.length 0 (by omega) (by simp)
 rw[List.take_zero]at e
 have e':loop (fun(zz:Int×(List (ah×Bool)))=>ck l (l.length:Int) zz.1 zz.2) (0,[])=some o:=e
 rw[e']
 simp only[vaa]
 cases o with
 |inl _=>
  have ho:¬l.Nodup:=ho
  simp[ho]
 |inr _=>
  have ho:l.Nodup:=ho
  simp[ho]
theorem U5{X:Type}(n:Nat)(hn:n<9223372036854775808){b1 b2:Int->Option (Int⊕X)}(h:∀i:Nat,i<n->b1 (i:Int)=b2 (i:Int)/\∀t,b2 (i:Int)=some (.inl t)->t=bN ((i:Int)+1))(he:b1 (n:Int)=b2 (n:Int))(hx:∀t,b2 (n:Int)≠some (.inl t)):loop b1 0=loop b2 0:=by
 have key:∀k i:Nat,k+i=n->loop b1 (i:Int)=loop b2 (i:Int):=by
  intro k
  induction k with
  | zero =>
   intro i hi
   have hi:i=n:=by omega
   subst hi
   rw[jX b1,jX b2,he]
   cases hb:b2 (i:Int)with
   |none=>rfl
   |some y=>
    cases y with
    |inl t=>exact absurd hb (hx t)
    |inr _=>rfl
  | succ k ihk =>
   intro i hi
   obtain⟨h1,h2⟩:=h i (by omega)
   rw[jX b1,jX b2,h1]
   cases hb:b2 (i:Int)with
   |none=>rfl
   | some y =>
    cases y with
    |inl t=>
     have ht:=h2 t hb
     simp only
     rw[ht,cJ (by omega) (by omega),show((i:Int)+1)=((i+1:Nat):Int) by omega]
     exact ihk (i+1) (by omega)
    |inr _=>rfl
 exact key n 0 (by omega)
end Go.Proofs.YtkdahfeiedaahaaGreatDoor
