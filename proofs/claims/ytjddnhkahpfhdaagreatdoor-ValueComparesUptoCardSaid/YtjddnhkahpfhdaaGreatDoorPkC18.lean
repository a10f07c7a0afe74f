/- PROVED: a part of the proof. Conditions: none. -/
import Derived.Test.YtjddnhkahpfhdaaGreatDoorPkC17
import Derived.Test.YtjddnhkahpfhdaaGreatDoorPkC8
set_option linter.unusedSimpArgs false
set_option linter.unusedVariables false
noncomputable section
namespace Go.Proofs.YtjddnhkahpfhdaaGreatDoor
open Go
set_option linter.unusedVariables false
set_option linter.unusedSimpArgs false
theorem fg{α:Type}{l:List α}{i:Nat}{n most:Int}(h:i<l.length)(hm:n<=most):(if decide ((i:Int)<(l.length:Int))=true then some (decide (n<=most))else some false)=some true:=by
 rw[vaA (by simp;omega),vce hm]
theorem dE{α:Type}{l:List α}{i:Nat}{n most:Int}(h:i=l.length\/¬n<=most):(if decide ((i:Int)<(l.length:Int))=true then some (decide (n<=most))else some false)=some false:=by
 by_cases hi:i<l.length
 ·rw[vaA (by simp;omega)]
  rcases h with h|h
  ·omega
  ·rw[decide_eq_false h]
 ·rw[vaz (by simp;omega)]
theorem nx{α:Type}(l:List α)(hl:l.length<9223372036854775808){body:Int×Int->Option ((Int×Int)⊕Int)}(most:Int)(I:Nat->Int->Prop)
  (hin:∀(i:Nat) (h:i<l.length) n,I i n->n<=most->tot (body (n,(i:Int))) (λr=>∃n',r=.inl (n',bw ((i:Int)+1))/\I (i+1) n'))
  (hout:∀(i:Nat) n,i<=l.length->(i=l.length\/¬n<=most)->body (n,(i:Int))=some (.inr n)) (n:Int) (h0:I 0 n):tot (loop body (n,0)) (λr=>∃i,i<=l.length/\I i r/\(i=l.length\/¬r<=most)):=by
 have key:∀k i n,k+i=l.length->I i n->tot (loop body (n,(i:Int))) (λr=>∃i,i<=l.length/\I i r/\(i=l.length\/¬r<=most)):=by
  intro k
  induction k with
  |zero=>
   intro i n hi hI
   rw[jl,hout i n (by omega) (.inl (by omega))]
   exact aY ⟨i,by omega,hI,.inl (by omega)⟩
  | succ k ih =>
   intro i n hi hI
   by_cases hm:n<=most
   ·obtain⟨r,e,n',rfl,hI'⟩:=hin i (by omega) n hI hm
    rw[jl,e]
    simp only
    rw[bK (by omega) (by omega),show((i:Int)+1)=((i+1:Nat):Int) by omega]
    exact ih (i+1) n' (by omega) hI'
   ·rw[jl,hout i n (by omega) (.inr hm)]
    exact aY ⟨i,by omega,hI,.inr hm⟩
 exact key l.length 0 n (by omega) h0
theorem vb(a b:Nat)(hb:0<b)(ha:a<9223372036854775808):qu .i64 (a:Int) (b:Int)=some ((a / b:Nat):Int):=by
 unfold qu
 rw[vaz (by omega)]
 have h:((a:Int).tdiv (b:Int))=((a / b:Nat):Int):=by
  rw[Int.tdiv_eq_ediv_of_nonneg (by omega)];rfl
 rw[h]
 have h2:=vbv a b
 generalize a / b=q at *
 congr 1
 exact bK (by omega) (by omega)
theorem uT(p:ah):bU (aj p)=1+(p.Name.length+1+(1+(aN (p.Kids.map aj)+1+0))):=by
 rw[bG];simp only[bU,pm,sl]
theorem jo{α:Type}(c:α->List PVal)(l:List α)(i:Nat)(h:i<l.length):aN ((l.take (i+1)).map c)=aN ((l.take i).map c)+bU (c l[i]):=by
 rw[vbo h,vcx]
 have:∀(a b:List (List PVal)),aN (a++b)=aN a+aN b:=by
  intro a
  induction a with
  |nil=>intro b;simp[aN]
  |cons x a ih=>intro b;rw[vaS,aN,ih,aN];omega
 rw[this]
 simp[aN]
theorem cb{α:Type}(c:α->List PVal)(l:List α)(i:Nat):aN ((l.take i).map c)<=aN (l.map c):=by
 have:∀(l:List α) (i:Nat),aN ((l.take i).map c)<=aN (l.map c):=by
  intro l
  induction l with
  |nil=>intro i;simp
  |cons x l ih=>
   intro i
   cases i with
   |zero=>simp[aN]
   |succ i=>have:=ih i;simp only[List.take_succ_cons,vaM,aN];omega
 exact this l i
theorem dp{α:Type}(c:α->List PVal)(h:∀x,1<=bU (c x)):∀(l:List α),l.length<=aN (l.map c)
 |[]=>by simp
 |x::l=>by have:=dp c h l;have:=h x;simp only[vaM,aN,vaZ];omega
theorem JA(p:ah):1<=bU (aj p):=by rw[uT];omega
theorem Jk(l:List ah):nL (l.take l.length)=nL l:=by rw[vbm]
abbrev kh:Nat:=4000000
structure TT(l:List ah)(most r:Int):Prop where
 lo:0<=r
 hi:r<=(aN (l.map aj):Int)
 sm:r<=most->(nL l:Int)<=r
theorem Ro(l:List ah)(most:Int)(hl:aN (l.map aj)<=kh)(h1: -8000000<=most)(h2:most<=1000000000):tot (zM l most) (TT l most):=by
 refine oI (F:=tR) (λx=>aN (x.1.map aj)) (λx=>aN (x.1.map aj)<=kh/\-8000000<=x.2/\x.2<=1000000000) (λx r=>TT x.1 x.2 r) (λR x hx ih=>?_) (l,most) ⟨hl,h1,h2⟩ (jC (vav hl (by decide)))
 obtain⟨l,most⟩:=x
 obtain⟨hl,h1,h2⟩:=hx
 have hl:aN (l.map aj)<=kh:=hl
 have h1: -8000000<=most:=h1
 have h2:most<=1000000000:=h2
 have hlen:=dp aj JA l
 show tot (pd (λa most=>R (a,most)) l most) _
 unfold pd yh
 unfold kh at hl
 refine aE (nx l (by omega) most (λi n=>0<=n/\n<=(aN ((l.take i).map aj):Int)/\(n<=most->(nL (l.take i):Int)<=n)) (λi hi n hI hm=>?_) (λi n _ h=>?_) 0 ⟨by omega,by omega,λ_=>by simp[nL]⟩) (λr hr=>aY ?_)
 ·obtain⟨g1,g2,g3⟩:=hI
  have e:=jo aj l i hi
  have e2:=cb aj l (i+1)
  have ep:=uT l[i]
  have en:=Q4 l i hi
  have enp:=Jl l[i]
  show tot (gh (λa most=>R (a,most)) l most n i) _
  unfold gh mT
  rw[fg hi hm,aU l i hi]
  simp only[vab,if_true]
  have hq:=vbv l[i].Name.length 50
  rw[show(50:Int)=((50:Nat):Int)from rfl,vb _ 50 (by omega) (by omega)]
  simp only[vab]
  rw[bK (n:=n+1) (by omega) (by omega),bK (n:=n+1+_) (by omega) (by omega),bK (n:=most - _) (by omega) (by omega)]
  refine aE (ih (l[i].Kids,most - (n+1+((l[i].Name.length / 50:Nat):Int))) (by show _<aN (l.map aj);show aN (l[i].Kids.map aj)<_;omega) ⟨by show aN (l[i].Kids.map aj)<=kh;unfold kh;omega,by show -8000000<=most - _;omega,by show most - _<=1000000000;omega⟩) (λr hr=>?_)
  have q1:=hr.lo
  have q2:r<=(aN (l[i].Kids.map aj):Int):=hr.hi
  have q3:r<=most - (n+1+((l[i].Name.length / 50:Nat):Int))->(nL l[i].Kids:Int)<=r:=hr.sm
  rw[bK (n:=n+1+_+r) (by omega) (by omega)]
  refine aY ⟨_,rfl,by omega,by omega,λhm'=>?_⟩
  have:=q3 (by omega)
  have:=g3 hm
  omega
 ·show gh (λa most=>R (a,most)) l most n i=_
  unfold gh mT
  rw[dE h]
  rfl
 ·obtain⟨i,hi,⟨g1,g2,g3⟩,h⟩:=hr
  have e2:=cb aj l i
  refine⟨g1,by show r<=(aN (l.map aj):Int);omega,λhm=>?_⟩
  have hm:r<=most:=hm
  have:i=l.length:=by
   rcases h with h|h
   ·exact h
   ·exact absurd hm h
  subst this
  rw[Jk]at g3
  exact g3 hm
theorem KH(l:List ae)(i:Nat)(h:i<l.length):eU (l.take (i+1))=eU (l.take i)+yP l[i]:=by
 have ap:∀(a b:List ae),eU (a++b)=eU a+eU b:=by
  intro a
  induction a with
  |nil=>intro b;simp[eU]
  |cons x a ih=>intro b;rw[vaS,eU,ih,eU];omega
 rw[vbo h,ap]
 simp[eU]
theorem y5(t:ae):1<=bU (af t):=by rw[uU];omega
theorem GW(t:ae):bU (af t)=1+(t.Name.length+1)+(aN (t.Args.map af)+1)+(aN (t.Names.map cS)+1)+bU (aj t.Pred)+(aN (t.Preds.map aj)+1):=by
 rw[uU,uT];simp only[pm,sl];omega
structure TU(l:List ae)(most r:Int):Prop where
 lo:0<=r
 hi:r<=(aN (l.map af):Int)
 sm:r<=most->(eU l:Int)<=r/\(J4 l:Int)<=r
theorem Mt(l:List ae)(most:Int)(hl:aN (l.map af)<=kh)(h1: -8000000<=most)(h2:most<=1000000000):tot (vF l most) (TU l most):=by
 refine oI (F:=tT) (λx=>aN (x.1.map af)) (λx=>aN (x.1.map af)<=kh/\-8000000<=x.2/\x.2<=1000000000) (λx r=>TU x.1 x.2 r) (λR x hx ih=>?_) (l,most) ⟨hl,h1,h2⟩ (jC (vav hl (by decide)))
 obtain⟨l,most⟩:=x
 obtain⟨hl,h1,h2⟩:=hx
 have hl:aN (l.map af)<=kh:=hl
 have h1: -8000000<=most:=h1
 have h2:most<=1000000000:=h2
 have hlen:=dp af y5 l
 show tot (pe (λa most=>R (a,most)) l most) _
 unfold pe yi
 unfold kh at hl
 refine aE (nx l (by omega) most (λi n=>0<=n/\n<=(aN ((l.take i).map af):Int)/\(n<=most->(eU (l.take i):Int)<=n/\(J4 (l.take i):Int)<=n)) (λi hi n hI hm=>?_) (λi n _ h=>?_) 0 ⟨by omega,by omega,λ_=>by simp[eU,J4]⟩) (λr hr=>aY ?_)
 ·obtain⟨g1,g2,g3⟩:=hI
  have e:=jo af l i hi
  have e2:=cb af l (i+1)
  have ep:=GW l[i]
  have epp:=uT l[i].Pred
  have en:=KH l i hi
  have en2:=Qf l i hi
  have enp:=pK l[i]
  have enp2:=UO l[i]
  have hns:=Gu l[i].Names
  have hps:=RT l[i].Preds
  have hpl:=HW l[i].Preds
  show tot (gi (λa most=>R (a,most)) l most n i) _
  unfold gi mU
  rw[fg hi hm,aU l i hi]
  simp only[vab,if_true]
  have hq:=vbv l[i].Name.length 50
  rw[show(50:Int)=((50:Nat):Int)from rfl,vb _ 50 (by omega) (by omega)]
  simp only[vab]
  rw[Sg (by simp;omega)]
  simp only[vab]
  refine aE (Ro ([l[i].Pred]++l[i].Preds) most (by unfold kh;simp only[List.singleton_append,vaM,aN];omega) h1 h2) (λrp hp=>?_)
  have p1:=hp.lo
  have p2:rp<=((bU (aj l[i].Pred)+aN (l[i].Preds.map aj):Nat):Int):=by
   have:=hp.hi
   simp only[List.singleton_append,vaM,aN]at this
   exact this
  have p3:rp<=most->((nP l[i].Pred+nL l[i].Preds:Nat):Int)<=rp:=by
   have:=hp.sm
   simp only[List.singleton_append,nL]at this
   exact this
  rw[bK (n:=n+1) (by omega) (by omega),bK (n:=n+1+_) (by omega) (by omega),bK (n:=n+1+_+_) (by omega) (by omega),bK (n:=n+1+_+_+_) (by omega) (by omega),bK (n:=most - _) (by omega) (by omega)]
  refine aE (ih (l[i].Args,most - (n+1+((l[i].Name.length / 50:Nat):Int)+(l[i].Names.length:Int)+rp)) (by show _<aN (l.map af);show aN (l[i].Args.map af)<_;omega) ⟨by show aN (l[i].Args.map af)<=kh;unfold kh;omega,by show -8000000<=most - _;omega,by show most - _<=1000000000;omega⟩) (λr hr=>?_)
  have q1:=hr.lo
  have q2:r<=(aN (l[i].Args.map af):Int):=hr.hi
  have q3:r<=most - (n+1+((l[i].Name.length / 50:Nat):Int)+(l[i].Names.length:Int)+rp)->(eU l[i].Args:Int)<=r/\(J4 l[i].Args:Int)<=r:=hr.sm
  rw[bK (n:=_+r) (by omega) (by omega)]
  refine aY ⟨_,rfl,by omega,by omega,λhm'=>?_⟩
  have:=q3 (by omega)
  have:=p3 (by omega)
  have:=g3 hm
  have:=Ph l[i].Pred
  omega
 ·show gi (λa most=>R (a,most)) l most n i=_
  unfold gi mU
  rw[dE h]
  rfl
 ·obtain⟨i,hi,⟨g1,g2,g3⟩,h⟩:=hr
  have e2:=cb af l i
  refine⟨g1,by show r<=(aN (l.map af):Int);omega,λhm=>?_⟩
  have hm:r<=most:=hm
  have:i=l.length:=by
   rcases h with h|h
   ·exact h
   ·exact absurd hm h
  subst this
  rw[vbm]at g3
  exact g3 hm
theorem ml(e:al):bU (ak e)=1+(e.Name.length+1+(1+(aN (e.Kids.map ak)+1+(aN (e.Params.map aJ)+1+(aN (e.Alts.map bm)+1+(aN (e.Types.map af)+1+0)))))):=by
 rw[ce];simp only[bU,pm,sl]
theorem CL(a:dR):bU (bm a)=a.Con.length+1+(aN (a.Names.map cS)+1+bU (ak a.Body)):=by
 obtain⟨c,ns,b⟩:=a
 rw[bm]
 show bU (PVal.str c::sl cS ns::ak b)=_
 simp only[bU,pm,sl];rfl
theorem AM(p:cD):bU (aJ p)=p.Name.length+1+bU (af p.Type_):=by
 show bU (PVal.str p.Name::af p.Type_)=_
 simp only[bU,pm]
theorem Jz(e:al):1<=bU (ak e):=by rw[ml];omega
theorem Rk(a:dR):1<=bU (bm a):=by rw[CL];omega
theorem GS(p:cD):1<=bU (aJ p):=by rw[AM];omega
theorem lN{α:Type}(c:α->List PVal){l:List α}{x:α}(h:x∈l):bU (c x)<=aN (l.map c):=qL (vah.2 ⟨x,h,rfl⟩)
theorem PK{e x:al}(h:x∈e.Kids):bU (ak x)<bU (ak e):=by have:=lN ak h;rw[ml e];omega
theorem S2{e:al}{a:dR}(h:a∈e.Alts):bU (bm a)<bU (ak e):=by have:=lN bm h;rw[ml e];omega
theorem Jy{e:al}{a:dR}(h:a∈e.Alts):bU (ak a.Body)<bU (ak e):=by have:=S2 h;have:=CL a;omega
theorem PL{e:al}{p:cD}(h:p∈e.Params):bU (aJ p)<bU (ak e):=by have:=lN aJ h;rw[ml e];omega
theorem Rn{e:al}{t:ae}(h:t∈e.Types):bU (af t)<bU (ak e):=by have:=lN af h;rw[ml e];omega
mutual
theorem Pe:∀(e:al),nE e<=bU (ak e)
 |⟨o,n,k,ks,ps,as1,ts⟩=>by
  have h1:=KO ks
  have h2:=Pc as1
  have h3:=dp aJ GS ps
  have h4:=dp af y5 ts
  rw[nE,ml]
  show _<=1+(n.length+1+(1+(aN (ks.map ak)+1+(aN (ps.map aJ)+1+(aN (as1.map bm)+1+(aN (ts.map af)+1+0))))))
  omega
theorem Un:∀(a:dR),nA a<=bU (bm a)
 |⟨c,ns,b⟩=>by
  have h1:=Pe b
  have h2:=Gu ns
  rw[nA,CL]
  show _<=c.length+1+(aN (ns.map cS)+1+bU (ak b))
  omega
theorem KO:∀(l:List al),HU l<=aN (l.map ak)
 |[]=>by simp[HU]
 |e::l=>by
  have:=Pe e
  have:=KO l
  rw[HU]
  simp only[vaM,aN]
  omega
theorem Pc:∀(l:List dR),Pb l<=aN (l.map bm)
 |[]=>by simp[Pb]
 |a::l=>by
  have:=Un a
  have:=Pc l
  rw[Pb]
  simp only[vaM,aN]
  omega
end
theorem Pn{t:ae}(h:bU (af t)<=ee):NZ t:=⟨vav (LZ t) h,Ly ee t h⟩
theorem Q5(l:List ai)(most:Int)(hl:aN (l.map cS)<=kh):tot (vE l most) (λr=>0<=r/\r<=(aN (l.map cS):Int)):=by
 unfold vE yg
 unfold kh at hl
 have hlen:=Gu l
 refine aE (nx l (by omega) most (λi n=>0<=n/\n<=(aN ((l.take i).map cS):Int)) (λi hi n hI hm=>?_) (λi n _ h=>?_) 0 ⟨by omega,by omega⟩) (λr hr=>aY ?_)
 ·obtain⟨g1,g2⟩:=hI
  have e:=jo cS l i hi
  have e2:=cb cS l (i+1)
  have e3:bU (cS l[i])=l[i].length+1:=by simp only[cS,bU,pm]
  show tot (gf l most n i) _
  unfold gf mS
  rw[fg hi hm,aU l i hi]
  simp only[vab,if_true]
  have hq:=vbv l[i].length 50
  rw[show(50:Int)=((50:Nat):Int)from rfl,vb _ 50 (by omega) (by omega)]
  simp only[vab]
  rw[bK (n:=n+1) (by omega) (by omega),bK (n:=n+1+_) (by omega) (by omega)]
  exact aY ⟨_,rfl,by omega,by omega⟩
 ·show gf l most n i=_
  unfold gf mS
  rw[dE h]
  rfl
 ·obtain⟨i,hi,⟨g1,g2⟩,h⟩:=hr
  have e2:=cb cS l i
  exact⟨g1,by omega⟩
theorem TQ(e:al)(most:Int)(he:bU (ak e)<=kh)(h1: -4000000<=most)(h2:most<=1000000000):tot (CR e most) (λr=>0<=r/\r<=(bU (ak e):Int)):=by
 refine oI (F:=xc) (λx=>bU (ak x.1)) (λx=>bU (ak x.1)<=kh/\-4000000<=x.2/\x.2<=1000000000) (λx r=>0<=r/\r<=(bU (ak x.1):Int)) (λR x hx ih=>?_) (e,most) ⟨he,h1,h2⟩ (jC (vav he (by decide)))
 obtain⟨e,most⟩:=x
 obtain⟨he,h1,h2⟩:=hx
 have he:bU (ak e)<=kh:=he
 have h1: -4000000<=most:=h1
 have h2:most<=1000000000:=h2
 have hpm:=ml e
 have l1:=dp aJ GS e.Params
 have l2:=dp ak Jz e.Kids
 have l3:=dp bm Rk e.Alts
 show tot (ry (λe most=>R (e,most)) e most) (λr=>0<=r/\r<=(bU (ak e):Int))
 unfold ry
 unfold kh at he
 have hq:=vbv e.Name.length 50
 rw[show(50:Int)=((50:Nat):Int)from rfl,vb _ 50 (by omega) (by omega)]
 simp only[vab]
 refine aE (Mt e.Types most (by unfold kh;omega) (by omega) h2) (λrt ht=>?_)
 have t1:=ht.lo
 have t2:=ht.hi
 rw[bK (n:=1+_) (by omega) (by omega),bK (n:=1+_+rt) (by omega) (by omega)]
 generalize hb:(1:Int)+((e.Name.length / 50:Nat):Int)+rt=b0
 have b1:0<=b0:=by omega
 have b2:b0<=((1+e.Name.length+aN (e.Types.map af):Nat):Int):=by omega
 refine aE (R:=λr=>0<=r/\r<=b0+(aN (e.Params.map aJ):Int)) ?_ (λr1 hr1=>?_)
 ·unfold Bb
  refine(nx e.Params (by omega) most (λi n=>0<=n/\n<=b0+(aN ((e.Params.take i).map aJ):Int)) (λi hi n hI hm=>?_) (λi n _ h=>?_) b0 ⟨b1,by simp[aN]⟩).mono (λr hr=>?_)
  ·obtain⟨g1,g2⟩:=hI
   have e1:=jo aJ e.Params i hi
   have e2:=cb aJ e.Params (i+1)
   have e3:=AM e.Params[i]
   show tot (ik most e n i) _
   unfold ik o0
   rw[fg hi hm,aU e.Params i hi]
   simp only[vab,if_true]
   have hq:=vbv e.Params[i].Name.length 50
   rw[show(50:Int)=((50:Nat):Int)from rfl,vb _ 50 (by omega) (by omega)]
   simp only[vab]
   refine aE (Mt [e.Params[i].Type_] most (by unfold kh;simp only[vaM,vbV,aN];omega) (by omega) h2) (λrp hp=>?_)
   have p1:=hp.lo
   have p2:rp<=((bU (af e.Params[i].Type_)+0:Nat):Int):=by
    have:=hp.hi
    simp only[vaM,vbV,aN]at this
    exact this
   rw[bK (n:=n+1) (by omega) (by omega),bK (n:=n+1+_) (by omega) (by omega),bK (n:=n+1+_+_) (by omega) (by omega)]
   exact aY ⟨_,rfl,by omega,by omega⟩
  ·show ik most e n i=_
   unfold ik o0
   rw[dE h]
   rfl
  ·obtain⟨i,hi,⟨g1,g2⟩,h⟩:=hr
   have e2:=cb aJ e.Params i
   exact⟨g1,by omega⟩
 obtain⟨c1,c2⟩:=hr1
 refine aE (R:=λr=>0<=r/\r<=r1+(aN (e.Kids.map ak):Int)) ?_ (λr2 hr2=>?_)
 ·unfold Bd
  refine(nx e.Kids (by omega) most (λi n=>0<=n/\n<=r1+(aN ((e.Kids.take i).map ak):Int)) (λi hi n hI hm=>?_) (λi n _ h=>?_) r1 ⟨c1,by simp[aN]⟩).mono (λr hr=>?_)
  ·obtain⟨g1,g2⟩:=hI
   have e1:=jo ak e.Kids i hi
   have e2:=cb ak e.Kids (i+1)
   have hk:=PK (vay hi)
   show tot (il (λe most=>R (e,most)) most e n i) _
   unfold il o9
   rw[fg hi hm,aU e.Kids i hi]
   simp only[vab,if_true]
   rw[bK (n:=most - n) (by omega) (by omega)]
   refine aE (ih (e.Kids[i],most - n) hk ⟨by show bU (ak e.Kids[i])<=kh;unfold kh;omega,by show -4000000<=most - n;omega,by show most - n<=1000000000;omega⟩) (λr hr=>?_)
   have q1:0<=r:=hr.1
   have q2:r<=(bU (ak e.Kids[i]):Int):=hr.2
   rw[bK (n:=n+r) (by omega) (by omega)]
   exact aY ⟨_,rfl,by omega,by omega⟩
  ·show il (λe most=>R (e,most)) most e n i=_
   unfold il o9
   rw[dE h]
   rfl
  ·obtain⟨i,hi,⟨g1,g2⟩,h⟩:=hr
   have e2:=cb ak e.Kids i
   exact⟨g1,by omega⟩
 obtain⟨d1,d2⟩:=hr2
 refine aE (R:=λr=>0<=r/\r<=r2+(aN (e.Alts.map bm):Int)) ?_ (λr3 hr3=>aY ⟨hr3.1,by have:=hr3.2;omega⟩)
 unfold Be
 refine(nx e.Alts (by omega) most (λi n=>0<=n/\n<=r2+(aN ((e.Alts.take i).map bm):Int)) (λi hi n hI hm=>?_) (λi n _ h=>?_) r2 ⟨d1,by simp[aN]⟩).mono (λr hr=>?_)
 ·obtain⟨g1,g2⟩:=hI
  have e1:=jo bm e.Alts i hi
  have e2:=cb bm e.Alts (i+1)
  have e3:=CL e.Alts[i]
  have hk:=Jy (vay hi)
  show tot (im (λe most=>R (e,most)) most e n i) _
  unfold im pb
  rw[fg hi hm,aU e.Alts i hi]
  simp only[vab,if_true]
  have hq:=vbv e.Alts[i].Con.length 50
  rw[show(50:Int)=((50:Nat):Int)from rfl,vb _ 50 (by omega) (by omega)]
  simp only[vab]
  refine aE (Q5 e.Alts[i].Names most (by unfold kh;omega)) (λrn hn=>?_)
  obtain⟨n1,n2⟩:=hn
  rw[bK (n:=n+1) (by omega) (by omega),bK (n:=n+1+_) (by omega) (by omega),bK (n:=n+1+_+_) (by omega) (by omega),bK (n:=most - _) (by omega) (by omega)]
  refine aE (ih (e.Alts[i].Body,most - (n+1+((e.Alts[i].Con.length / 50:Nat):Int)+rn)) hk ⟨by show bU (ak e.Alts[i].Body)<=kh;unfold kh;omega,by show -4000000<=most - _;omega,by show most - _<=1000000000;omega⟩) (λr hr=>?_)
  have q1:0<=r:=hr.1
  have q2:r<=(bU (ak e.Alts[i].Body):Int):=hr.2
  rw[bK (n:=_+r) (by omega) (by omega)]
  exact aY ⟨_,rfl,by omega,by omega⟩
 ·show im (λe most=>R (e,most)) most e n i=_
  unfold im pb
  rw[dE h]
  rfl
 ·obtain⟨i,hi,⟨g1,g2⟩,h⟩:=hr
  have e2:=cb bm e.Alts i
  exact⟨g1,by omega⟩
set_option maxRecDepth 100000
theorem J8:qy=some true:=by kernel_rfl
theorem fI(v:aa):bU (ac v)=1+(1+(v.Name.length+1+(aN (v.Kids.map ac)+1+(aN (v.Params.map cS)+1+(aN (v.Body.map ak)+1+(aN (v.Binds.map aP)+1+0)))))):=by
 rw[aZ];simp only[bU,pm,sl]
theorem D9(b:aB):bU (aP b)=b.Name.length+1+bU (ac b.Value):=by
 obtain⟨n,v⟩:=b
 rw[aP]
 show bU (PVal.str n::ac v)=_
 simp only[bU,pm];rfl
theorem Nu(v:aa):1<=bU (ac v):=by rw[fI];omega
theorem PJ(b:aB):1<=bU (aP b):=by rw[D9];omega
theorem rY{v x:aa}(h:x∈v.Kids):bU (ac x)<bU (ac v):=by have:=lN ac h;rw[fI v];omega
theorem Ed{v:aa}{x:aB}(h:x∈v.Binds):bU (ac x.Value)<bU (ac v):=by have:=lN aP h;have:=D9 x;rw[fI v];omega
theorem JG{v:aa}{x:al}(h:x∈v.Body):bU (ak x)<bU (ac v):=by have:=lN ak h;rw[fI v];omega
theorem rj(v:aa):v.Kids.length<bU (ac v):=by have:=dp ac Nu v.Kids;rw[fI v];omega
theorem EN(v:aa):v.Binds.length<bU (ac v):=by have:=dp aP PJ v.Binds;rw[fI v];omega
theorem NU(v:aa):v.Body.length<bU (ac v):=by have:=dp ak Jz v.Body;rw[fI v];omega
theorem BJ(v:aa):v.Params.length<bU (ac v):=by have:=Gu v.Params;rw[fI v];omega
theorem Ms{α:Type}(l:List α)(hl:l.length<9223372036854775808){body:Int×Int->Option ((Int×Int)⊕Int)}(I:Nat->Int->Prop)
  (hin:∀(i:Nat) (h:i<l.length) n,I i n->tot (body (n,(i:Int))) (λr=>∃n',r=.inl (n',bw ((i:Int)+1))/\I (i+1) n'))
  (hout:∀n,body (n,(l.length:Int))=some (.inr n)) (n:Int) (h0:I 0 n):tot (loop body (n,0)) (I l.length):=by
 have key:∀k i n,k+i=l.length->I i n->tot (loop body (n,(i:Int))) (I l.length):=by
  intro k
  induction k with
  |zero=>
   intro i n hi hI
   obtain rfl:i=l.length:=by omega
   rw[jl,hout n]
   exact aY hI
  |succ k ih=>
   intro i n hi hI
   obtain⟨r,e,n',rfl,hI'⟩:=hin i (by omega) n hI
   rw[jl,e]
   simp only
   rw[bK (by omega) (by omega),show((i:Int)+1)=((i+1:Nat):Int) by omega]
   exact ih (i+1) n' (by omega) hI'
 exact key l.length 0 n (by omega) h0
theorem TR(v:aa)(most:Int)(he:bU (ac v)<=kh)(h1: -4000000<=most)(h2:most<=1000000000):tot (C8 v most) (λr=>0<=r/\r<=(bU (ac v):Int)):=by
 refine oI (F:=xh) (λx=>bU (ac x.1)) (λx=>bU (ac x.1)<=kh/\-4000000<=x.2/\x.2<=1000000000) (λx r=>0<=r/\r<=(bU (ac x.1):Int)) (λR x hx ih=>?_) (v,most) ⟨he,h1,h2⟩ (jC (vav he (by decide)))
 obtain⟨v,most⟩:=x
 obtain⟨he,h1,h2⟩:=hx
 have he:bU (ac v)<=kh:=he
 have h1: -4000000<=most:=h1
 have h2:most<=1000000000:=h2
 have hpm:=fI v
 have l1:=NU v
 have l2:=rj v
 have l3:=EN v
 have l4:=BJ v
 have l5:=Gu v.Params
 show tot (rA (λv most=>R (v,most)) v most) (λr=>0<=r/\r<=(bU (ac v):Int))
 unfold rA
 unfold kh at he
 have hq:=vbv v.Name.length 50
 rw[show(50:Int)=((50:Nat):Int)from rfl,vb _ 50 (by omega) (by omega)]
 simp only[vab]
 rw[bK (n:=1+_) (by omega) (by omega),bK (n:=1+_+_) (by omega) (by omega)]
 generalize hb:(1:Int)+((v.Name.length / 50:Nat):Int)+(v.Params.length:Int)=b0
 have b1:0<=b0:=by omega
 have b2:b0<=((1+v.Name.length+aN (v.Params.map cS):Nat):Int):=by omega
 refine aE (R:=λr=>0<=r/\r<=b0+(aN (v.Body.map ak):Int)) ?_ (λr1 hr1=>?_)
 ·unfold Bf
  refine(Ms v.Body (by omega) (λi n=>0<=n/\n<=b0+(aN ((v.Body.take i).map ak):Int)) (λi hi n hI=>?_) (λn=>?_) b0 ⟨b1,by simp[aN]⟩).mono (λr hr=>?_)
  ·obtain⟨g1,g2⟩:=hI
   have e1:=jo ak v.Body i hi
   have e2:=cb ak v.Body (i+1)
   have hk:=JG (vay hi)
   show tot (io most v n i) _
   unfold io
   rw[vaA (by simpa using hi),aU v.Body i hi]
   simp only[vab]
   refine aE (TQ v.Body[i] most (by unfold kh;omega) h1 h2) (λr hr=>?_)
   obtain⟨q1,q2⟩:=hr
   rw[bK (n:=n+r) (by omega) (by omega)]
   exact aY ⟨_,rfl,by omega,by omega⟩
  ·show io most v n (v.Body.length:Int)=_
   unfold io
   rw[vaz (by simp)]
  ·rw[vbm]at hr
   exact hr
 obtain⟨c1,c2⟩:=hr1
 refine aE (R:=λr=>0<=r/\r<=r1+(aN (v.Kids.map ac):Int)) ?_ (λr2 hr2=>?_)
 ·unfold Bg
  refine(nx v.Kids (by omega) most (λi n=>0<=n/\n<=r1+(aN ((v.Kids.take i).map ac):Int)) (λi hi n hI hm=>?_) (λi n _ h=>?_) r1 ⟨c1,by simp[aN]⟩).mono (λr hr=>?_)
  ·obtain⟨g1,g2⟩:=hI
   have e1:=jo ac v.Kids i hi
   have e2:=cb ac v.Kids (i+1)
   have hk:=rY (vay hi)
   show tot (ip (λv most=>R (v,most)) most v n i) _
   unfold ip pj
   rw[fg hi hm,aU v.Kids i hi]
   simp only[vab,if_true]
   rw[bK (n:=most - n) (by omega) (by omega)]
   refine aE (ih (v.Kids[i],most - n) hk ⟨by show bU (ac v.Kids[i])<=kh;unfold kh;omega,by show -4000000<=most - n;omega,by show most - n<=1000000000;omega⟩) (λr hr=>?_)
   have q1:0<=r:=hr.1
   have q2:r<=(bU (ac v.Kids[i]):Int):=hr.2
   rw[bK (n:=n+r) (by omega) (by omega)]
   exact aY ⟨_,rfl,by omega,by omega⟩
  ·show ip (λv most=>R (v,most)) most v n i=_
   unfold ip pj
   rw[dE h]
   rfl
  ·obtain⟨i,hi,⟨g1,g2⟩,h⟩:=hr
   have e2:=cb ac v.Kids i
   exact⟨g1,by omega⟩
 obtain⟨d1,d2⟩:=hr2
 refine aE (R:=λr=>0<=r/\r<=r2+(aN (v.Binds.map aP):Int)) ?_ (λr3 hr3=>aY ⟨hr3.1,by have:=hr3.2;omega⟩)
 unfold Bh
 refine(nx v.Binds (by omega) most (λi n=>0<=n/\n<=r2+(aN ((v.Binds.take i).map aP):Int)) (λi hi n hI hm=>?_) (λi n _ h=>?_) r2 ⟨d1,by simp[aN]⟩).mono (λr hr=>?_)
 ·obtain⟨g1,g2⟩:=hI
  have e1:=jo aP v.Binds i hi
  have e2:=cb aP v.Binds (i+1)
  have e3:=D9 v.Binds[i]
  have hk:=Ed (vay hi)
  show tot (iq (λv most=>R (v,most)) most v n i) _
  unfold iq pk
  rw[fg hi hm,aU v.Binds i hi]
  simp only[vab,if_true]
  have hq:=vbv v.Binds[i].Name.length 50
  rw[show(50:Int)=((50:Nat):Int)from rfl,vb _ 50 (by omega) (by omega)]
  simp only[vab]
  rw[bK (n:=n+1) (by omega) (by omega),bK (n:=n+1+_) (by omega) (by omega),bK (n:=most - _) (by omega) (by omega)]
  refine aE (ih (v.Binds[i].Value,most - (n+1+((v.Binds[i].Name.length / 50:Nat):Int))) hk ⟨by show bU (ac v.Binds[i].Value)<=kh;unfold kh;omega,by show -4000000<=most - _;omega,by show most - _<=1000000000;omega⟩) (λr hr=>?_)
  have q1:0<=r:=hr.1
  have q2:r<=(bU (ac v.Binds[i].Value):Int):=hr.2
  rw[bK (n:=_+r) (by omega) (by omega)]
  exact aY ⟨_,rfl,by omega,by omega⟩
 ·show iq (λv most=>R (v,most)) most v n i=_
  unfold iq pk
  rw[dE h]
  rfl
 ·obtain⟨i,hi,⟨g1,g2⟩,h⟩:=hr
  have e2:=cb aP v.Binds i
  exact⟨g1,by omega⟩
theorem Ll(v:aa)(he:bU (ac v)<=kh):∃b,nF v=some b:=by
 obtain⟨r,h,_⟩:=TR v 300 he (by omega) (by omega)
 exact⟨_,by unfold nF;rw[h];rfl⟩
def Gm(m:am)(name:ai):Option (aM×Nat):=m.Datas.findSome? λd=>(d.Cons.findIdx? (λc=>c.Name==name)).map λj=>(d,j)
abbrev T5:Type:=Int×ai×List ai×List ch×List aO
def SB(x:aM×Nat):T5:=((x.2:Int),x.1.Name,x.1.Vars,x.1.Preds,x.1.Cons)
theorem Kp{m:am}{name:ai}{d:aM}{j:Nat}(h:Gm m name=some (d,j)):d∈m.Datas/\j<d.Cons.length:=by
 unfold Gm at h
 obtain⟨d',hd,he⟩:=List.exists_of_findSome?_eq_some h
 cases hf:d'.Cons.findIdx? (λc=>c.Name==name)with
 |none=>rw[hf]at he;cases he
 |some k=>
  rw[hf]at he
  cases he
  exact⟨hd,(List.findIdx?_eq_some_iff_getElem.1 hf).1⟩
theorem Rv(m:am)(name:ai)(h1:m.Datas.length<9223372036854775808)(h2:∀d∈m.Datas,d.Cons.length<9223372036854775808):fZ m name=some ((Gm m name).elim (⟨[],[],[],[]⟩,0,false) (λx=>(x.1,(x.2:Int),true))):=by
 unfold fZ qi Gm
 have:=KN m.Datas h1 (λi=>(i,[],[],[],[])) (λ(zz:Int×ai×(List ai)×(List ch)×(List aO))=>eN name m.Datas (m.Datas.length:Int) zz.1 zz.2.1 zz.2.2.1 zz.2.2.2.1 zz.2.2.2.2)
  (λd=>((d.Cons.findIdx? (λc=>c.Name==name)).map λj=>(Sum.inl (SB (d,j)):T5⊕(ai×(List ai)×(List ch)×(List aO))))) (.inr ([],[],[],[])) (λi hi=>?_) ?_
 ·rw[this]
  simp only[vab]
  have key:∀l:List aM,(l.findSome? (λd=>((d.Cons.findIdx? (λc=>c.Name==name)).map λj=>(Sum.inl (SB (d,j)):T5⊕(ai×(List ai)×(List ch)×(List aO))))))=(l.findSome? λd=>(d.Cons.findIdx? (λc=>c.Name==name)).map λj=>(d,j)).map (λx=>Sum.inl (SB x)):=by
   intro l
   induction l with
   |nil=>rfl
   |cons d l ih=>
    rw[List.findSome?_cons,List.findSome?_cons,ih]
    cases d.Cons.findIdx? (λc=>c.Name==name)<;>rfl
  rw[key]
  cases(m.Datas.findSome? λd=>(d.Cons.findIdx? (λc=>c.Name==name)).map λj=>(d,j))<;>rfl
 ·show eN name m.Datas (m.Datas.length:Int) (i:Int) [] [] [] []=_
  unfold eN
  rw[vaA (by simp;omega),aU _ i hi]
  simp only[vab]
  have hd:=h2 _ (vay hi)
  generalize m.Datas[i]=d at hd
  unfold qj
  have:=KL d.Cons hd (λi=>(i,[],[],[],[])) (λ(zz:Int×ai×(List ai)×(List ch)×(List aO))=>eO name d.Cons (d.Cons.length:Int) zz.1 zz.2.1 zz.2.2.1 zz.2.2.2.1 zz.2.2.2.2)
   (λc=>c.Name==name) (λj=>Sum.inl (j:Int)) (.inr ([],[],[],[])) (λk hk=>?_) ?_
  ·rw[this]
   cases d.Cons.findIdx? (λc=>c.Name==name)<;>rfl
  ·show eO name d.Cons (d.Cons.length:Int) (k:Int) [] [] [] []=_
   unfold eO
   rw[vaA (by simp;omega),aU _ k hk]
   simp only[vab]
   by_cases hn:(d.Cons[k].Name==name)=true<;>simp[hn]
  ·show eO name d.Cons (d.Cons.length:Int) (d.Cons.length:Int) [] [] [] []=_
   unfold eO
   rw[vaz (by simp)]
 ·show eN name m.Datas (m.Datas.length:Int) (m.Datas.length:Int) [] [] [] []=_
  unfold eN
  rw[vaz (by simp)]
theorem fm{α:Type}(l:List α)(hl:l.length<9223372036854775808){body:Int×Int->Option ((Int×Int)⊕Int)}(most:Int)
  (hin:∀(i:Nat) (h:i<l.length) n,n<=most->tot (body (n,(i:Int))) (λr=>∃n',r=.inl (n',bw ((i:Int)+1))))
  (hout:∀(i:Nat) n,i<=l.length->(i=l.length\/¬n<=most)->body (n,(i:Int))=some (.inr n)) (n:Int):tot (loop body (n,0)) (λ_=>True):=
 (nx l hl most (λ_ _=>True) (λi h n _ hm=>(hin i h n hm).mono λr ⟨n',e⟩=>⟨n',e,vzz⟩) hout n vzz).mono λ_ _=>trivial
theorem AO(k:IntKind)(a b:Int)(hb:b≠0):tot (qu k a b) (λ_=>True):=by
 unfold qu;rw[vaz hb];exact aY vzz
theorem sa(l:List ah)(most:Int)(hl:aN (l.map aj)<=kh):tot (dw l most) (λ_=>True):=by
 refine oI (F:=kY) (λx=>aN (x.1.map aj)) (λx=>aN (x.1.map aj)<=kh) (λ_ _=>True) (λR x hx ih=>?_) (l,most) hl (jC (vav hl (by decide)))
 obtain⟨l,most⟩:=x
 have hl:aN (l.map aj)<=kh:=hx
 have hlen:=dp aj JA l
 show tot (je (λa most=>R (a,most)) l most) _
 unfold je pg
 unfold kh at hl
 refine aE (fm l (by omega) most (λi hi n hm=>?_) (λi n _ h=>?_) 0) (λr _=>aY vzz)
 ·have e:=qL (vah.2 ⟨_,vay hi,rfl⟩:aj l[i]∈l.map aj)
  have ep:=uT l[i]
  show tot (dI (λa most=>R (a,most)) l most n i) _
  unfold dI iI
  rw[fg hi hm,aU l i hi]
  simp only[vab,if_true]
  exact aE (AO _ _ _ (by decide)) λq _=>aE (ih (l[i].Kids,_) (by show aN (l[i].Kids.map aj)<aN (l.map aj);omega) (by show aN (l[i].Kids.map aj)<=kh;unfold kh;omega)) λr _=>aY ⟨_,rfl⟩
 ·show dI (λa most=>R (a,most)) l most n i=_
  unfold dI iI
  rw[dE h]
  rfl
theorem Ie(p:ah):aN ([p].map aj)=bU (aj p):=by simp[aN]
theorem wb(l:List ae)(most:Int)(hl:aN (l.map af)<=kh):tot (er l most) (λ_=>True):=by
 refine oI (F:=kZ) (λx=>aN (x.1.map af)) (λx=>aN (x.1.map af)<=kh) (λ_ _=>True) (λR x hx ih=>?_) (l,most) hl (jC (vav hl (by decide)))
 obtain⟨l,most⟩:=x
 have hl:aN (l.map af)<=kh:=hx
 have hlen:=dp af y5 l
 show tot (jf (λa most=>R (a,most)) l most) _
 unfold jf ph
 unfold kh at hl
 refine aE (fm l (by omega) most (λi hi n hm=>?_) (λi n _ h=>?_) 0) (λr _=>aY vzz)
 ·have e:=qL (vah.2 ⟨_,vay hi,rfl⟩:af l[i]∈l.map af)
  have ep:=GW l[i]
  show tot (dJ (λa most=>R (a,most)) l most n i) _
  unfold dJ iJ
  rw[fg hi hm,aU l i hi]
  simp only[vab,if_true]
  exact aE (AO _ _ _ (by decide)) λq _=>aE (sa _ _ (by unfold kh;omega)) λ_ _=>aE (sa _ _ (by rw[Ie];unfold kh;omega)) λ_ _=>aE (ih (l[i].Args,_) (by show aN (l[i].Args.map af)<aN (l.map af);omega) (by show aN (l[i].Args.map af)<=kh;unfold kh;omega)) λr _=>aY ⟨_,rfl⟩
 ·show dJ (λa most=>R (a,most)) l most n i=_
  unfold dJ iJ
  rw[dE h]
  rfl
theorem CK(t:ae):aN ([t].map af)=bU (af t):=by simp[aN]
theorem GV(e:al):bU (ak e)=1+(e.Name.length+1)+1+(aN (e.Kids.map ak)+1)+(aN (e.Params.map aJ)+1)+(aN (e.Alts.map bm)+1)+(aN (e.Types.map af)+1):=by
 rw[ce];simp only[bU,pm,sl];omega
theorem JB(a:dR):bU (bm a)=(a.Con.length+1)+(aN (a.Names.map cS)+1)+bU (ak a.Body):=by
 rw[jW,ce];simp only[bU,pm,sl];omega
theorem Ec(a:cD):bU (aJ a)=(a.Name.length+1)+bU (af a.Type_):=by
 unfold aJ;rw[cX];simp only[bU,pm]
theorem Ax(α:Type){c:α->List PVal}(h:∀x,1<=bU (c x)){l:List α}(hl:aN (l.map c)<=kh):l.length<9223372036854775808:=by
 have:=dp c h l
 unfold kh at hl;omega
theorem Az{α:Type}{c:α->List PVal}{l:List α}{i:Nat}(h:i<l.length):bU (c l[i])<=aN (l.map c):=qL (vah.2 ⟨_,vay h,rfl⟩)
theorem Rg(e:al)(most:Int)(he:bU (ak e)<=kh):tot (zP e most) (λ_=>True):=by
 refine oI (F:=tW) (λx=>bU (ak x.1)) (λx=>bU (ak x.1)<=kh) (λ_ _=>True) (λR x hx ih=>?_) (e,most) he (jC (vav he (by decide)))
 obtain⟨e,most⟩:=x
 have he:bU (ak e)<=kh:=hx
 have hp:=GV e
 show tot (pf (λa most=>R (a,most)) e most) _
 unfold pf yk yl ym
 refine aE (AO _ _ _ (by decide)) λq _=>aE (wb _ _ (by omega)) λ_ _=>aE (fm e.Params (Ax _ (λx=>by rw[Ec];omega) (c:=aJ) (by omega)) most (λi hi n hm=>?_) (λi n _ h=>?_) _) λ_ _=>aE (fm e.Kids (Ax _ (λx=>by rw[GV];omega) (c:=ak) (by omega)) most (λi hi n hm=>?_) (λi n _ h=>?_) _) λ_ _=>aE (fm e.Alts (Ax _ (λx=>by rw[JB];omega) (c:=bm) (by omega)) most (λi hi n hm=>?_) (λi n _ h=>?_) _) λ_ _=>aY vzz
 ·have:=Az (c:=aJ) hi
  have:=Ec e.Params[i]
  show tot (gj most e n i) _
  unfold gj mV
  rw[fg hi hm,aU _ i hi]
  simp only[vab,if_true]
  exact aE (AO _ _ _ (by decide)) λq _=>aE (wb _ _ (by rw[CK];omega)) λr _=>aY ⟨_,rfl⟩
 ·show gj most e n i=_
  unfold gj mV
  rw[dE h]
  rfl
 ·have:=Az (c:=ak) hi
  show tot (gm (λa most=>R (a,most)) most e n i) _
  unfold gm mW
  rw[fg hi hm,aU _ i hi]
  simp only[vab,if_true]
  exact aE (ih (e.Kids[i],_) (by show bU (ak e.Kids[i])<bU (ak e);omega) (by show bU (ak e.Kids[i])<=kh;omega)) λr _=>aY ⟨_,rfl⟩
 ·show gm (λa most=>R (a,most)) most e n i=_
  unfold gm mW
  rw[dE h]
  rfl
 ·have:=Az (c:=bm) hi
  have:=JB e.Alts[i]
  show tot (gn (λa most=>R (a,most)) most e n i) _
  unfold gn mX
  rw[fg hi hm,aU _ i hi]
  simp only[vab,if_true]
  exact aE (ih (e.Alts[i].Body,_) (by show bU (ak e.Alts[i].Body)<bU (ak e);omega) (by show bU (ak e.Alts[i].Body)<=kh;omega)) λr _=>aY ⟨_,rfl⟩
 ·show gn (λa most=>R (a,most)) most e n i=_
  unfold gn mX
  rw[dE h]
  rfl
theorem GT(b:kT):bU (bZ b)=(b.Name.length+1)+(aN (b.Vars.map bT)+1)+bU (aj b.Hyp)+bU (aj b.Goal):=by
 unfold bZ;simp only[cX,bU,pm,sl];omega
theorem Rm(b:NN):(aN (b.Bounds.map bZ)+1)+bU (af b.Type_)+(aN (b.Metric.map aj)+1)<=bU (rI b):=by
 unfold rI;simp only[cX,bU,pm,sl];omega
theorem JE(b:ga):(b.Name.length+1)+bU (ak b.Body)+bU (rI b.Sig)<=bU (bI b):=by
 unfold bI;simp only[cX,bU,pm,sl];omega
theorem OC(l:List ga)(most:Int)(hl:aN (l.map bI)<=kh):tot (jH l most) (λ_=>True):=by
 unfold jH qq
 refine aE (fm l (Ax _ (λx=>by have:=JE x;omega) hl) most (λi hi n hm=>?_) (λi n _ h=>?_) _) λ_ _=>aY vzz
 ·have h1:=Az (c:=bI) hi
  have h2:=JE l[i]
  have h3:=Rm l[i].Sig
  show tot (dY l most n i) _
  unfold dY jc qr
  rw[fg hi hm,aU _ i hi]
  simp only[vab,if_true]
  refine aE (AO _ _ _ (by decide)) λq _=>aE (wb _ _ (by rw[CK];omega)) λr _=>aE (sa _ _ (by omega)) λ_ _=>aE (fm l[i].Sig.Bounds (Ax _ (λx=>by rw[GT];omega) (c:=bZ) (by omega)) most (λk hk n hm=>?_) (λk n _ h=>?_) _) λ_ _=>aE (Rg _ _ (by omega)) λ_ _=>aY ⟨_,rfl⟩
  ·have h4:=Az (c:=bZ) hk
   have h5:=GT l[i].Sig.Bounds[k]
   show tot (dZ most l[i].Sig.Bounds n k) _
   unfold dZ jd
   rw[fg hk hm,aU _ k hk]
   simp only[vab,if_true]
   exact aE (sa _ _ (by simp only[vaM,vbV,aN];omega)) λ_ _=>aY ⟨_,rfl⟩
  ·show dZ most l[i].Sig.Bounds n k=_
   unfold dZ jd
   rw[dE h]
   rfl
 ·show dY l most n i=_
  unfold dY jc
  rw[dE h]
  rfl
theorem Eb(m:am):bU (aq m)=(aN (m.Datas.map ay)+1)+(aN (m.Classes.map bS)+1)+(aN (m.Instances.map aH)+1)+(aN (m.Measures.map aX)+1)+(aN (m.Quals.map ca)+1)+(aN (m.Defs.map bI)+1):=by
 unfold aq;simp only[bU,pm,sl];omega
theorem uS(b:aM):bU (ay b)=(b.Name.length+1)+(aN (b.Vars.map cS)+1)+(aN (b.Preds.map bT)+1)+(aN (b.Cons.map aG)+1):=by
 unfold ay;simp only[cX,bU,pm,sl];omega
theorem CM(b:aO):bU (aG b)=(b.Name.length+1)+(aN (b.Names.map cS)+1)+(aN (b.Fields.map af)+1):=by
 unfold aG;simp only[cX,bU,pm,sl];omega
theorem GU(b:di):bU (bS b)=(b.Name.length+1)+(b.Var.length+1)+(aN (b.Methods.map cY)+1):=by
 unfold bS;simp only[cX,bU,pm,sl];omega
theorem Ea(b:nu):bU (cY b)=(b.Name.length+1)+bU (af b.Type_):=by
 unfold cY;simp only[cX,bU,pm,sl]
theorem y4(b:bB):1+bU (af b.Type_)+(aN (b.Defs.map bI)+1)<=bU (aH b):=by
 unfold aH;simp only[cX,bU,pm,sl];omega
theorem BA(b:bP):1+(aN (b.Cases.map ef)+1)+bU (aj b.Inv)<=bU (aX b):=by
 unfold aX;simp only[cX,bU,pm,sl];omega
theorem JD(b:wO):1+bU (aj b.Body)<=bU (ef b):=by
 unfold ef;simp only[cX,bU,pm,sl];omega
theorem JF(b:eY):1+bU (aj b.Body)<=bU (ca b):=by
 unfold ca;simp only[cX,bU,pm,sl];omega
theorem Rx(m:am)(hm:bU (aq m)<=kh):tot (vG m) (λ_=>True):=by
 have hp:=Eb m
 unfold vG
 refine aE (R:=λ_=>True) ?_ λo _=>wa (λ_=>aY vzz) λ_=>?_
 ·unfold rz
  exact wa (λ_=>aY vzz) λ_=>wa (λ_=>aY vzz) λ_=>wa (λ_=>aY vzz) λ_=>wa (λ_=>aY vzz) λ_=>wa (λ_=>aY vzz) λ_=>aY vzz
 unfold yr yu wv ww wy
 refine aE (OC _ _ (by omega)) λ_ _=>aE (fm m.Datas (Ax _ (λx=>by rw[uS];omega) (c:=ay) (by omega)) 4000 (λi hi n hn=>?_) (λi n hi h=>?_) _) λ_ _=>aE (fm m.Classes (Ax _ (λx=>by rw[GU];omega) (c:=bS) (by omega)) 4000 (λi hi n hn=>?_) (λi n hi h=>?_) _) λ_ _=>aE (fm m.Instances (Ax _ (λx=>by have:=y4 x;omega) (c:=aH) (by omega)) 4000 (λi hi n hn=>?_) (λi n hi h=>?_) _) λ_ _=>aE (fm m.Measures (Ax _ (λx=>by have:=BA x;omega) (c:=aX) (by omega)) 4000 (λi hi n hn=>?_) (λi n hi h=>?_) _) λ_ _=>aE (fm m.Quals (Ax _ (λx=>by have:=JF x;omega) (c:=ca) (by omega)) 4000 (λi hi n hn=>?_) (λi n hi h=>?_) _) λ_ _=>aY vzz
 ·have h1:=Az (c:=ay) hi
  have h2:=uS m.Datas[i]
  show tot (gp m n i) _
  unfold gp mY yt
  rw[fg hi hn,aU _ i hi]
  simp only[vab,if_true]
  refine aE (AO _ _ _ (by decide)) λq _=>aE (fm m.Datas[i].Cons (Ax _ (λx=>by rw[CM];omega) (c:=aG) (by omega)) 4000 (λk hk n hn=>?_) (λk n _ h=>?_) _) λ_ _=>aY ⟨_,rfl⟩
  ·have h3:=Az (c:=aG) hk
   have h4:=CM m.Datas[i].Cons[k]
   show tot (gq m i n k) _
   unfold gq mZ
   rw[aU _ i hi]
   simp only[vab]
   rw[fg hk hn,aU _ k hk]
   simp only[vab,if_true]
   exact aE (wb _ _ (by omega)) λ_ _=>aY ⟨_,rfl⟩
  ·show gq m i n k=_
   unfold gq mZ
   rw[aU _ i hi]
   simp only[vab]
   rw[dE h]
   rfl
 ·show gp m n i=_
  unfold gp mY
  rw[dE h]
  rfl
 ·have h1:=Az (c:=bS) hi
  have h2:=GU m.Classes[i]
  show tot (gr m n i) _
  unfold gr na yw
  rw[fg hi hn]
  simp only[vab,if_true]
  refine aE (fm m.Classes[i].Methods (Ax _ (λx=>by rw[Ea];omega) (c:=cY) (by omega)) 4000 (λk hk n hn=>?_) (λk n _ h=>?_) _) λ_ _=>aY ⟨_,rfl⟩
  ·have h3:=Az (c:=cY) hk
   have h4:=Ea m.Classes[i].Methods[k]
   show tot (gu m i n k) _
   unfold gu nc
   rw[aU _ i hi]
   simp only[vab]
   rw[fg hk hn,aU _ k hk]
   simp only[vab,if_true]
   exact aE (wb _ _ (by rw[CK];omega)) λ_ _=>aY ⟨_,rfl⟩
  ·show gu m i n k=_
   unfold gu nc
   rw[aU _ i hi]
   simp only[vab]
   rw[dE h]
   rfl
 ·show gr m n i=_
  unfold gr na
  rw[dE h]
  rfl
 ·have h1:=Az (c:=aH) hi
  have h2:=y4 m.Instances[i]
  show tot (fC m n i) _
  unfold fC lB
  rw[fg hi hn,aU _ i hi]
  simp only[vab,if_true]
  exact aE (wb _ _ (by rw[CK];omega)) λ_ _=>aE (OC _ _ (by omega)) λ_ _=>aY ⟨_,rfl⟩
 ·show fC m n i=_
  unfold fC lB
  rw[dE h]
  rfl
 ·have h1:=Az (c:=aX) hi
  have h2:=BA m.Measures[i]
  show tot (fD m n i) _
  unfold fD lC wx
  rw[fg hi hn,aU _ i hi]
  simp only[vab,if_true]
  refine aE (sa _ _ (by rw[Ie];omega)) λ_ _=>aE (fm m.Measures[i].Cases (Ax _ (λx=>by have:=JD x;omega) (c:=ef) (by omega)) 4000 (λk hk n hn=>?_) (λk n _ h=>?_) _) λ_ _=>aY ⟨_,rfl⟩
  ·have h3:=Az (c:=ef) hk
   have h4:=JD m.Measures[i].Cases[k]
   show tot (fE m i n k) _
   unfold fE lD
   rw[aU _ i hi]
   simp only[vab]
   rw[fg hk hn,aU _ k hk]
   simp only[vab,if_true]
   exact aE (sa _ _ (by rw[Ie];omega)) λ_ _=>aY ⟨_,rfl⟩
  ·show fE m i n k=_
   unfold fE lD
   rw[aU _ i hi]
   simp only[vab]
   rw[dE h]
   rfl
 ·show fD m n i=_
  unfold fD lC
  rw[dE h]
  rfl
 ·have h1:=Az (c:=ca) hi
  have h2:=JF m.Quals[i]
  show tot (fF m n i) _
  unfold fF lE
  rw[fg hi hn,aU _ i hi]
  simp only[vab,if_true]
  exact aE (sa _ _ (by rw[Ie];omega)) λ_ _=>aY ⟨_,rfl⟩
 ·show fF m n i=_
  unfold fF lE
  rw[dE h]
  rfl
def uy(m:am)(name:ai):aM×Int×Bool:=(Gm m name).elim (⟨[],[],[],[]⟩,0,false) (λx=>(x.1,(x.2:Int),true))
abbrev U9(op:Int)(n:ai):ae:=⟨op,n,[],[],⟨0,[],0,[]⟩,[]⟩
def zj(m:am)(v:aa):ae:=if(v.Op==1)=true then U9 1 []else if(v.Op==2)=true then U9 2 []else if(v.Op==4)=true then U9 3 []else U9 4 (uy m v.Name).1.Name
theorem Lq(m:am)(v:aa):(zj m v).Args=[]:=by
 unfold zj
 split
 ·rfl
 ·split
  ·rfl
  ·split<;>rfl
structure SQ(m:am):Prop where
 d:m.Datas.length<9223372036854775808
 c:∀d∈m.Datas,d.Cons.length<9223372036854775808
 f:∀d∈m.Datas,∀c∈d.Cons,c.Fields.length<4611686018427387904
section
variable{m:am}(hm:SQ m)
include hm
theorem Us(n:ai):fZ m n=some (uy m n):=Rv m n hm.d hm.c
theorem Ye(v:aa):vD m v=some (zj m v,if(v.Op==1)=true then true else if(v.Op==2)=true then true else if(v.Op==4)=true then true else(uy m v.Name).2.2):=by
 unfold vD zj
 rw[Us hm]
 simp only[vab]
 split
 ·rfl
 ·split
  ·rfl
  ·split<;>rfl
end
def QT(a b:ae):Bool:=a.Op==b.Op&&a.Name==b.Name&&((a.Args.length:Int)==(b.Args.length:Int))
theorem S3(a b:ae)(ha:a.Args=[]):sq a b=some (QT a b):=by
 refine nl (F:=su) (λ_=>0) (λx=>x.1.Args=[]) (λx=>QT x.1 x.2) (λR x hx ih=>?_) (a,b) ha (jC (vaQ _))
 obtain⟨u,v⟩:=x
 have hu:u.Args=[]:=hx
 show ny (λa a2=>R (a,a2)) u v=some (QT u v)
 unfold ny ql qm QT
 rw[jk (x:=.inr ()) (by show j1 _ u v (u.Args.length:Int) 0=_;unfold j1;rw[hu];rfl)]
 by_cases h1:u.Op=v.Op<;>by_cases h2:u.Name=v.Name<;>by_cases h3:(u.Args.length:Int)=(v.Args.length:Int)<;>simp[h1,h2,h3]
def Uh(n:Int):Bool:=decide (n>=-1000000000000)&&decide (n<=1000000000000)
theorem Yd(n:Int):HX n=some (Uh n):=by unfold HX Uh;cases decide (n>=-1000000000000)<;>rfl
mutual
def Gf(m:am):aa->Int
 | ⟨op,n,nm,ks,ps,bd,bs⟩ =>
  if op<1\/op>5 then 1 else if op=5 then 12 else if(ps.isEmpty&&bd.isEmpty&&bs.isEmpty)=false then 1
  else if op=3 then
   if n≠0 then 1 else if(uy m nm).2.2=false then 5 else match dn (uy m nm).1.Cons (uy m nm).2.1 with
    |some c=>if(c.Fields.length:Int)≠(ks.length:Int)then 13 else Qi m c.Fields ks
    |none=>0
  else if nm≠[]\/ks≠[]then 1 else if(op=2/\n≠0/\n≠1)\/Uh n=false then 2 else 0
def Qi(m:am):List ae->List aa->Int
 |f::fs,k::ks=>if Gf m k≠0 then Gf m k else if QT (zj m k) f=false then 12 else Qi m fs ks
 |_,_=>0
end
theorem Om(m:am)(v:aa):Gf m v=(if v.Op<1\/v.Op>5 then 1 else if v.Op=5 then 12 else if(v.Params.isEmpty&&v.Body.isEmpty&&v.Binds.isEmpty)=false then 1
  else if v.Op=3 then
   if v.N≠0 then 1 else if(uy m v.Name).2.2=false then 5 else match dn (uy m v.Name).1.Cons (uy m v.Name).2.1 with
    |some c=>if(c.Fields.length:Int)≠(v.Kids.length:Int)then 13 else Qi m c.Fields v.Kids
    |none=>0
  else if v.Name≠[]\/v.Kids≠[]then 1 else if(v.Op=2/\v.N≠0/\v.N≠1)\/Uh v.N=false then 2 else 0):=by
 obtain⟨op,n,nm,ks,ps,bd,bs⟩:=v
 rw[Gf]
 rfl
def Pa(e:Int):Int⊕Unit:=if e=0 then .inr ()else .inl e
theorem MY(m:am)(fs:List ae)(ks:List aa)(hl:fs.length=ks.length)(hn:ks.length<4611686018427387904)(body:Int->Option (Int⊕(Int⊕Unit)))
  (hin:∀(i:Nat) (h:i<ks.length) (h':i<fs.length),body (i:Int)=some (if Gf m ks[i]≠0 then .inr (.inl (Gf m ks[i]))else if QT (zj m ks[i]) fs[i]=false then .inr (.inl 12)else .inl (bw ((i:Int)+1)))) (hend:body (ks.length:Int)=some (.inr (.inr ()))):
  loop body 0=some (Pa (Qi m fs ks)):=by
 have key:∀k i,k+i=ks.length->loop body (i:Int)=some (Pa (Qi m (fs.drop i) (ks.drop i))):=by
  intro k
  induction k with
  | zero =>
   intro i hi
   obtain rfl:i=ks.length:=by omega
   rw[jk hend,vbU,Qi]
   ·rfl
   ·intro f fs' k' ks' _ h;cases h
  | succ k ih =>
   intro i hi
   have h1:i<ks.length:=by omega
   have h2:i<fs.length:=by omega
   rw[vaR h1,vaR h2,Qi]
   have hb:=hin i h1 h2
   by_cases c1:Gf m ks[i]≠0
   ·rw[vaA c1]at hb ⊢
    rw[jk hb]
    unfold Pa;rw[vaz c1]
   ·rw[vaz c1]at hb ⊢
    by_cases c2:QT (zj m ks[i]) fs[i]=false
    ·rw[vaA c2]at hb ⊢
     rw[jk hb]
     rfl
    ·rw[vaz c2]at hb ⊢
     rw[bK (by omega) (by omega)]at hb
     rw[Ay hb,show((i:Int)+1)=((i+1:Nat):Int) by omega]
     exact ih (i+1) (by omega)
 exact key ks.length 0 (by omega)
theorem LM{m:am}(hm:SQ m){nm:ai}(h:(uy m nm).2.2=true):∃c,dn (uy m nm).1.Cons (uy m nm).2.1=some c/\c.Fields.length<4611686018427387904:=by
 unfold uy at h ⊢
 cases hc:Gm m nm with
 |none=>rw[hc]at h;cases h
 |some x=>
  obtain⟨d,j⟩:=x
  obtain⟨h1,h2⟩:=Kp hc
  exact⟨d.Cons[j],aU _ _ h2,hm.f d h1 _ (vay h2)⟩
theorem MO(e:Int){f:Int->Option Int}{g:Unit->Option Int}(h1:∀e,f e=some e)(h2:g ()=some 0):(some (Pa e)).bind (λo=>match o with
  |.inl o=>f o
  |.inr o=>g o)=some e:=by
 unfold Pa
 by_cases h:e=0
 ·subst h;simp[h2]
 ·simp[h,h1]
section
variable{m:am}(hm:SQ m)
include hm
theorem Xd(v:aa)(hv:bU (ac v)<=ee):kz m v=some (Gf m v):=by
 refine nl (F:=qn) (λx=>bU (ac x.2)) (λx=>x.1=m/\bU (ac x.2)<=ee) (λx=>Gf x.1 x.2) (λR x hx ih=>?_) (m,v) ⟨rfl,hv⟩ (jC hv)
 obtain⟨m',v⟩:=x
 obtain⟨rfl,hv⟩:m'=m/\bU (ac v)<=ee:=hx
 show lR (λm v=>R (m,v)) m' v=some (Gf m' v)
 have hlen:=rj v
 rw[Om]
 unfold lR oK oL oM oN oO
 by_cases c1:v.Op<1\/v.Op>5
 ·rw[vaA c1]
  by_cases h:v.Op<1
  ·simp[h]
  ·have:v.Op>5:=c1.resolve_left h
   simp[h,this]
 rw[vaz c1]
 have d1:¬v.Op<1:=λh=>c1 (.inl h)
 have d2:¬v.Op>5:=λh=>c1 (.inr h)
 by_cases c2:v.Op=5
 ·simp[c2]
 rw[vaz c2]
 by_cases c3:(v.Params.isEmpty&&v.Body.isEmpty&&v.Binds.isEmpty)=false
 ·rw[vaA c3]
  cases hp:v.Params<;>cases hb:v.Body<;>cases hbs:v.Binds<;>simp_all
  all_goals (split<;>simp_all<;>omega)
 rw[vaz c3]
 have e3:v.Params=[]/\v.Body=[]/\v.Binds=[]:=by
  simp only[vcn,vae,vb4]at c3
  exact⟨c3.1.1,c3.1.2,c3.2⟩
 obtain⟨e31,e32,e33⟩:=e3
 by_cases c4:v.Op=3
 ·rw [vaA c4]
  have:sC (λm v=>R (m,v)) m' v=some (if v.N≠0 then 1 else if(uy m' v.Name).2.2=false then 5 else match dn (uy m' v.Name).1.Cons (uy m' v.Name).2.1 with
    |some c=>if(c.Fields.length:Int)≠(v.Kids.length:Int)then 13 else Qi m' c.Fields v.Kids
    |none=>0):=by
   unfold sC
   rw[Us hm]
   simp only[vab]
   by_cases g1:v.N=0
   ·simp only[g1,bne_self_eq_false,vba,if_false,ne_eq,not_true_eq_false]
    cases g2:(uy m' v.Name).2.2 with
    |false=>simp
    | true =>
     obtain⟨c,hc,hf⟩:=LM hm g2
     rw[hc]
     simp only[Bool.not_true,vba,if_false,vab,Bool.true_eq_false]
     by_cases g3:c.Fields.length=v.Kids.length
     ·rw[vaz (by simp[g3]),vaz (by simp[g3])]
      unfold qp
      rw[MY m' c.Fields v.Kids g3 (by rw[<-g3];exact hf) _ (λi h h'=>?_) ?_]
      ·exact MO _ (λ_=>rfl) rfl
      ·show fK (λm v=>R (m,v)) m' c.Fields v.Kids (v.Kids.length:Int) (v.Kids.length:Int)=_
       unfold fK
       rw[vaz (by simp)]
      ·show fK (λm v=>R (m,v)) m' c.Fields v.Kids (v.Kids.length:Int) (i:Int)=_
       unfold fK
       have hk:=vay h
       have hr:R (m',v.Kids[i])=some (Gf m' v.Kids[i]):=ih (m',v.Kids[i]) (rY hk) ⟨rfl,by have:=rY hk;show bU (ac v.Kids[i])<=ee;omega⟩
       rw[vaA (by simpa using h),aU _ i h]
       simp only[vab]
       rw[hr]
       simp only[vab]
       rw[Ye hm]
       simp only[vab]
       rw[aU _ i h']
       simp only[vab]
       rw[S3 _ _ (Lq m' _)]
       simp only[vab]
       by_cases q1:Gf m' v.Kids[i]=0
       ·simp only[q1,bne_self_eq_false,vba,if_false,ne_eq,not_true_eq_false]
        cases QT (zj m' v.Kids[i]) c.Fields[i]<;>simp
       ·simp[q1]
     ·rw[vaA (show((c.Fields.length:Int)!=(v.Kids.length:Int))=true by simp;omega),vaA (show ¬((c.Fields.length:Int)=(v.Kids.length:Int)) by omega)]
   ·simp[g1]
  rw[this]
  simp[c4,e31,e32,e33]
 rw[vaz c4]
 simp only[d1,d2,c2,c4,e31,e32,e33,decide_false,vba,if_false,vab,List.length_nil,Yd,vaY]
 by_cases c5:v.Name≠[]\/v.Kids≠[]
 ·rw[vaA c5]
  by_cases h:v.Name=[]
  ·have h2:v.Kids≠[]:=c5.resolve_left (λh'=>h' h)
   have h3:0<v.Kids.length:=vcK.2 h2
   simp[h,h3]
  ·simp[h]
 ·rw[vaz c5]
  have h1:v.Name=[]:=Classical.not_not.1 λh=>c5 (.inl h)
  have h2:v.Kids=[]:=Classical.not_not.1 λh=>c5 (.inr h)
  by_cases g1:v.Op=2<;>by_cases g2:v.N=0<;>by_cases g3:v.N=1<;>cases g4:Uh v.N<;>simp_all
end
end Go.Proofs.YtjddnhkahpfhdaaGreatDoor
namespace Go.Proofs.YtjddnhkahpfhdaaGreatDoor
open Go
set_option linter.unusedVariables false
set_option linter.unusedSimpArgs false
theorem Lp{a b:cD}:a=b↔a.Name=b.Name/\a.Type_=b.Type_:=by
 obtain⟨n,t⟩:=a
 obtain⟨n',t'⟩:=b
 constructor
 ·rintro h;cases h;exact⟨rfl,rfl⟩
 ·rintro⟨h1,h2⟩;cases h1;cases h2;rfl
theorem P3{a b:dR}:a=b↔a.Con=b.Con/\a.Names=b.Names/\a.Body=b.Body:=by
 obtain⟨n,t,e⟩:=a
 obtain⟨n',t',e'⟩:=b
 constructor
 ·rintro h;cases h;exact⟨rfl,rfl,rfl⟩
 ·rintro⟨h1,h2,h3⟩;cases h1;cases h2;cases h3;rfl
theorem NM{a b:al}:a=b↔a.Op=b.Op/\a.Name=b.Name/\a.N=b.N/\a.Kids=b.Kids/\a.Types=b.Types/\a.Params=b.Params/\a.Alts=b.Alts:=by
 obtain⟨o,n,k,ks,ps,as1,ts⟩:=a
 obtain⟨o',n',k',ks',ps',as1',ts'⟩:=b
 constructor
 ·rintro h;cases h;exact⟨rfl,rfl,rfl,rfl,rfl,rfl,rfl⟩
 ·rintro⟨h1,h2,h3,h4,h5,h6,h7⟩;cases h1;cases h2;cases h3;cases h4;cases h5;cases h6;cases h7;rfl
abbrev J3(e:al):Prop:=bU (ak e)<=ee
theorem Pl{e:al}(h:J3 e):nE e<=ee:=vav (Pe e) h
theorem Q7{e x:al}(h:J3 e)(hx:x∈e.Kids):J3 x:=vav (vbF (PK hx)) h
theorem Na{e:al}{a:dR}(h:J3 e)(hx:a∈e.Alts):J3 a.Body:=vav (vbF (Jy hx)) h
theorem Pm{e:al}{t:ae}(h:J3 e)(hx:t∈e.Types):NZ t:=Pn (vav (vbF (Rn hx)) h)
theorem Nb{e:al}{p:cD}(h:J3 e)(hx:p∈e.Params):NZ p.Type_:=Pn (by have:=PL hx;have:=AM p;have:bU (ak e)<=ee:=h;omega)
theorem Pk{e:al}{a:dR}(h:J3 e)(hx:a∈e.Alts):a.Names.length<=ee:=vav (vbF (MA hx)) (Pl h)
theorem SW(a b:cD)(ha:NZ a.Type_):lO a b=some (decide (a=b)):=by
 unfold lO
 rw[Nz _ _ ha]
 simp only[vab,Of,var]
 rw[vbY]
 simp[Lp (a:=a) (b:=b)]
theorem SX{R:al->al->Option Bool}(a b:dR)(ha:a.Names.length<=ee)(h:R a.Body b.Body=some (decide (a.Body=b.Body))):lP R a b=some (decide (a=b)):=by
 unfold lP
 rw[AI ha,h]
 simp only[vab,Of,var]
 rw[vbY]
 simp[P3 (a:=a) (b:=b)]
theorem KY{a b:List cD}(ha:a.length<=ee)(h:∀x∈a,NZ x.Type_):eE a b=some (decide (a=b)):=by
 unfold eE fj
 refine pu ha _ (λi h1 h2=>?_) ?_ rfl rfl
 ·show bX b a (a.length:Int) (i:Int)=_
  unfold bX
  rw[vaA (by simpa using h1),aU a i h1]
  simp only[vab]
  rw[aU b i h2]
  simp only[vab]
  rw[SW _ _ (h _ (vay h1))]
  simp only[vab]
  by_cases he:a[i]=b[i]<;>simp[he]
 ·show bX b a (a.length:Int) (a.length:Int)=_
  unfold bX
  rw[vaz (by simp)]
theorem Px{R:al->al->Option Bool}{a b:List dR}(ha:a.length<=ee)(hn:∀x∈a,x.Names.length<=ee)(h:∀x∈a,∀y∈b,R x.Body y.Body=some (decide (x.Body=y.Body))):eG R a b=some (decide (a=b)):=by
 unfold eG fk
 refine pu ha _ (λi h1 h2=>?_) ?_ rfl rfl
 ·show bY R b a (a.length:Int) (i:Int)=_
  unfold bY
  rw[vaA (by simpa using h1),aU a i h1]
  simp only[vab]
  rw[aU b i h2]
  simp only[vab]
  rw[SX _ _ (hn _ (vay h1)) (h _ (vay h1) _ (vay h2))]
  simp only[vab]
  by_cases he:a[i]=b[i]<;>simp[he]
 ·show bY R b a (a.length:Int) (a.length:Int)=_
  unfold bY
  rw[vaz (by simp)]
theorem Qa(e:al):eU e.Types<=bU (ak e):=by have:=DO e.Types;have:=ml e;omega
theorem Py{R:List al->List al->Option Bool}{N:Nat}(H:∀l r:List al,HU l<N->(∀x∈l,J3 x)->R l r=some (decide (l=r)))(a b:al)(ha:J3 a)(hN:nE a<=N):vq R a b=some (decide (a=b)):=by
 refine nl (F:=qk R) (λx=>nE x.1) (λx=>J3 x.1/\nE x.1<=N) (λx=>decide (x.1=x.2)) (λS x hx ih=>?_) (a,b) ⟨ha,hN⟩ (jC (Pl ha))
 obtain⟨u,v⟩:=x
 obtain⟨hu,hn⟩:J3 u/\nE u<=N:=hx
 have l0:=Pl hu
 have l1:=MX u
 have l2:=MB u
 have l3:=Jo u
 have l4:=Lr u
 have l5:=Bu u
 show lQ R (λa a2=>S (a,a2)) u v=some (decide (u=v))
 unfold lQ
 rw[H u.Kids v.Kids (by omega) (λx hx=>Q7 hu hx),GK u.Types v.Types (vav (Qa u) hu) (λx hx=>Pm hu hx),
  KY (by omega) (λx hx=>Nb hu hx),Px (R:=λa a2=>S (a,a2)) (a:=u.Alts) (b:=v.Alts) (by omega) (λx hx=>Pk hu hx) (λx hx y _=>ih (x.Body,y.Body) (Lz hx) ⟨Na hu hx,by have:=Lz hx;show nE x.Body<=N;omega⟩)]
 simp only[vab,Of,var]
 rw[vbY]
 simp[NM (a:=u) (b:=v)]
theorem KX(a b:List al)(ha:HU a<=ee)(hk:∀x∈a,J3 x):iG a b=some (decide (a=b)):=by
 refine nl (F:=gD) (λx=>HU x.1) (λx=>HU x.1<=ee/\∀t∈x.1,J3 t) (λx=>decide (x.1=x.2)) (λR x hx ih=>?_) (a,b) ⟨ha,hk⟩ (jC ha)
 obtain⟨u,v⟩:=x
 obtain⟨hu,hq⟩:HU u<=ee/\∀t∈u,J3 t:=hx
 have l0:=HV u
 show eH (λa a2=>R (a,a2)) u v=some (decide (u=v))
 unfold eH fX
 refine pu (by omega) _ (λi h1 h2=>?_) ?_ rfl rfl
 ·show co (λa a2=>R (a,a2)) v u (u.length:Int) (i:Int)=_
  unfold co
  rw[vaA (by simpa using h1),aU u i h1]
  simp only[vab]
  rw[aU v i h2]
  simp only[vab]
  have hm:=vay h1
  rw[Py (N:=HU u) (λl r hl hok=>ih (l,r) hl ⟨by show HU l<=ee;omega,hok⟩) _ _ (hq _ hm) (L7 hm)]
  simp only[vab]
  by_cases he:u[i]=v[i]<;>simp[he]
 ·show co (λa a2=>R (a,a2)) v u (u.length:Int) (u.length:Int)=_
  unfold co
  rw[vaz (by simp)]
abbrev NX(x y:ai):Prop:=Op.bytesLess x y=true
theorem vI:∀(x:ai),Op.bytesLess x x=false
 |[]=>rfl
 |a::x=>by
  unfold Op.bytesLess
  rw[vI x]
  simp[UInt8.lt_irrefl]
theorem Dh:∀{x y z:ai},NX x y->NX y z->NX x z
 |_,_,[],h1,h2=>by simp[NX,Op.bytesLess]at h2
 |_,[],_::_,h1,h2=>by simp[NX,Op.bytesLess]at h1
 |[],_::_,_::_,_,_=>rfl
 | a :: x,b :: y,c :: z,h1,h2 => by
  unfold NX Op.bytesLess at h1 h2 ⊢
  simp only[va1,vam,vae,vaY]at h1 h2 ⊢
  rcases h1 with h1|⟨rfl,h1⟩
  ·rcases h2 with h2|⟨rfl,h2⟩
   ·exact .inl (UInt8.lt_trans h1 h2)
   ·exact .inl h1
  ·rcases h2 with h2|⟨rfl,h2⟩
   ·exact .inl h2
   ·exact .inr ⟨rfl,Dh h1 h2⟩
theorem IJ:∀{x y:ai},Op.bytesLess x y=false->Op.bytesLess y x=false->x=y
 |[],[],_,_=>rfl
 |[],_::_,h,_=>by simp[Op.bytesLess]at h
 |_::_,[],_,h=>by simp[Op.bytesLess]at h
 | a :: x,b :: y,h1,h2 => by
  unfold Op.bytesLess at h1 h2
  simp only[vcE,vbH,Bool.and_eq_false_imp,vaY]at h1 h2
  have hab:a=b:=by
   have k1:=UInt8.not_lt.1 h1.1
   have k2:=UInt8.not_lt.1 h2.1
   exact UInt8.le_antisymm k2 k1
  subst hab
  rw[IJ (h1.2 rfl) (h2.2 rfl)]
noncomputable instance decVc:DecidableEq aa:=λa b=>Classical.propDecidable _
noncomputable instance decBc:DecidableEq aB:=λa b=>Classical.propDecidable _
theorem Ex{a b:aa}:a=b↔a.Op=b.Op/\a.N=b.N/\a.Name=b.Name/\a.Kids=b.Kids/\a.Params=b.Params/\a.Body=b.Body/\a.Binds=b.Binds:=by
 obtain⟨o,n,k,ks,ps,as1,ts⟩:=a
 obtain⟨o',n',k',ks',ps',as1',ts'⟩:=b
 constructor
 ·rintro h;cases h;exact⟨rfl,rfl,rfl,rfl,rfl,rfl,rfl⟩
 ·rintro⟨h1,h2,h3,h4,h5,h6,h7⟩;cases h1;cases h2;cases h3;cases h4;cases h5;cases h6;cases h7;rfl
theorem NL{a b:aB}:a=b↔a.Name=b.Name/\a.Value=b.Value:=by
 obtain⟨n,t⟩:=a
 obtain⟨n',t'⟩:=b
 constructor
 ·rintro h;cases h;exact⟨rfl,rfl⟩
 ·rintro⟨h1,h2⟩;cases h1;cases h2;rfl
abbrev GH(v:aa):Prop:=bU (ac v)<=ee
theorem CJ{v x:aa}(h:GH v)(hx:x∈v.Kids):GH x:=vav (vbF (rY hx)) h
theorem Po{v:aa}{x:aB}(h:GH v)(hx:x∈v.Binds):GH x.Value:=vav (vbF (Ed hx)) h
theorem Pp{v:aa}{x:al}(h:GH v)(hx:x∈v.Body):J3 x:=vav (vbF (JG hx)) h
theorem Q8{v:aa}(h:GH v):HU v.Body<=ee:=by have:=KO v.Body;have:=fI v;have h:bU (ac v)<=ee:=h;omega
theorem SV{R:aa->aa->Option Bool}{a b:List aa}(ha:a.length<=ee)(h:∀x∈a,∀y∈b,R x y=some (decide (x=y))):jr R a b=some (decide (a=b)):=by
 unfold jr jE
 refine pu ha _ (λi h1 h2=>?_) ?_ rfl rfl
 ·show cZ R b a (a.length:Int) (i:Int)=_
  unfold cZ
  rw[vaA (by simpa using h1),aU a i h1]
  simp only[vab]
  rw[aU b i h2]
  simp only[vab]
  rw[h _ (vay h1) _ (vay h2)]
  simp only[vab]
  by_cases he:a[i]=b[i]<;>simp[he]
 ·show cZ R b a (a.length:Int) (a.length:Int)=_
  unfold cZ
  rw[vaz (by simp)]
theorem ST{R:aa->aa->Option Bool}(a b:aB)(h:R a.Value b.Value=some (decide (a.Value=b.Value))):nz R a b=some (decide (a=b)):=by
 unfold nz
 rw[h]
 simp only[vab,Of,var]
 rw[vbY]
 simp[NL (a:=a) (b:=b)]
theorem Rf{R:aa->aa->Option Bool}{a b:List aB}(ha:a.length<=ee)(h:∀x∈a,∀y∈b,R x.Value y.Value=some (decide (x.Value=y.Value))):gY R a b=some (decide (a=b)):=by
 unfold gY iE
 refine pu ha _ (λi h1 h2=>?_) ?_ rfl rfl
 ·show cG R b a (a.length:Int) (i:Int)=_
  unfold cG
  rw[vaA (by simpa using h1),aU a i h1]
  simp only[vab]
  rw[aU b i h2]
  simp only[vab]
  rw[ST _ _ (h _ (vay h1) _ (vay h2))]
  simp only[vab]
  by_cases he:a[i]=b[i]<;>simp[he]
 ·show cG R b a (a.length:Int) (a.length:Int)=_
  unfold cG
  rw[vaz (by simp)]
theorem SY(a b:aa)(ha:GH a):sy a b=some (decide (a=b)):=by
 refine nl (F:=sA) (λx=>bU (ac x.1)) (λx=>GH x.1) (λx=>decide (x.1=x.2)) (λR x hx ih=>?_) (a,b) ha (jC ha)
 obtain⟨u,v⟩:=x
 have hu:GH u:=hx
 have l0:bU (ac u)<=ee:=hu
 have l1:=rj u
 have l2:=EN u
 have l3:=BJ u
 show nB (λa a2=>R (a,a2)) u v=some (decide (u=v))
 unfold nB qo
 rw[SV (R:=λa a2=>R (a,a2)) (a:=u.Kids) (b:=v.Kids) (by omega) (λx hx y _=>ih (x,y) (rY hx) (CJ hu hx)),AI (by omega),KX _ _ (Q8 hu) (λx hx=>Pp hu hx),
  Rf (R:=λa a2=>R (a,a2)) (a:=u.Binds) (b:=v.Binds) (by omega) (λx hx y _=>ih (x.Value,y.Value) (Ed hx) (Po hu hx))]
 have he:=Ex (a:=u) (b:=v)
 by_cases e1:u.Op=v.Op<;>by_cases e2:u.N=v.N<;>by_cases e3:u.Name=v.Name<;>by_cases e4:u.Kids=v.Kids<;>by_cases e5:u.Params=v.Params<;>by_cases e6:u.Body=v.Body<;>by_cases e7:u.Binds=v.Binds<;>simp[he,e1,e2,e3,e4,e5,e6,e7]
mutual
def Iq:aa->Nat
 |⟨_,_,_,ks,_,_,_⟩=>G1 ks+1
def G1:List aa->Nat
 |[]=>0
 |x::l=>Iq x+G1 l
end
theorem AU(v:aa):Iq v=G1 v.Kids+1:=by obtain⟨o,n,k,ks,ps,as1,ts⟩:=v;rw[Iq];rfl
mutual
theorem Tc:∀v:aa,Iq v<=bU (ac v)
 |⟨o,n,nm,ks,ps,bd,bs⟩=>by
  have:=Lo ks
  rw[Iq,fI]
  show G1 ks+1<=1+(1+(nm.length+1+(aN (ks.map ac)+1+(aN (ps.map cS)+1+(aN (bd.map ak)+1+(aN (bs.map aP)+1+0))))))
  omega
theorem Lo:∀l:List aa,G1 l<=aN (l.map ac)
 |[]=>by simp[G1]
 |x::l=>by
  have:=Tc x
  have:=Lo l
  simp only[G1,vaM,aN];omega
end
theorem P1(l:List aa)(i:Nat)(h:i<l.length):G1 (l.take (i+1))=G1 (l.take i)+Iq l[i]:=by
 induction l generalizing i with
 |nil=>simp at h
 |cons x l ih=>
  cases i with
  |zero=>simp[G1]
  |succ i=>simp only[List.take_succ_cons,G1,List.getElem_cons_succ];rw[ih i (by simpa using h)];omega
theorem JV(l:List aa)(i:Nat):G1 (l.take i)<=G1 l:=by
 induction l generalizing i with
 |nil=>simp[G1]
 |cons x l ih=>
  cases i with
  |zero=>simp[G1]
  |succ i=>simp only[List.take_succ_cons,G1];have:=ih i;omega
theorem Tf{α:Type}{o:Option α}{a:α}(h:tot o (λx=>x=a)):o=some a:=by obtain⟨x,e,rfl⟩:=h;exact e
theorem RV(v:aa)(hv:GH v):ly v=some (Iq v:Int):=by
 refine nl (F:=nC) (λx=>bU (ac x)) (λx=>GH x) (λx=>(Iq x:Int)) (λR x hx ih=>?_) v hv (jC hv)
 have hx:bU (ac x)<=ee:=hx
 have l1:=rj x
 have l2:=Lo x.Kids
 have l3:=fI x
 show kU (λv=>R v) x=some (Iq x:Int)
 unfold kU wW
 have hL:loop (λzz:Int×Int=>dT (λv=>R v) x.Kids (x.Kids.length:Int) zz.1 zz.2) (1,0)=some (Iq x:Int):=by
  refine Tf ((Ms x.Kids (by unfold ee at hx;omega) (λi n=>n=((1+G1 (x.Kids.take i):Nat):Int)) (λi hi n hI=>?_) (λn=>?_) 1 (by simp[G1])).mono λr hr=>?_)
  ·have e1:=P1 x.Kids i hi
   have e2:=JV x.Kids (i+1)
   show tot (dT (λv=>R v) x.Kids (x.Kids.length:Int) n (i:Int)) _
   unfold dT
   rw[vaA (by simpa using hi),aU x.Kids i hi]
   simp only[vab]
   rw[ih x.Kids[i] (rY (vay hi)) (CJ hx (vay hi))]
   simp only[vab]
   unfold ee at hx
   rw[bK (n:=n+_) (by omega) (by omega)]
   exact aY ⟨_,rfl,by omega⟩
  ·show dT (λv=>R v) x.Kids (x.Kids.length:Int) n (x.Kids.length:Int)=_
   unfold dT
   rw[vaz (by simp)]
  ·rw[vbm]at hr
   rw[hr,AU];omega
 rw[hL];rfl
def qI(a b:Int):Int:=if a<b then -1 else if a>b then 1 else 0
def qd(a b:ai):Int:=if Op.bytesLess a b=true then -1 else if a=b then 0 else 1
def QR(a b c d:Int):Int:=if a≠0 then a else if b≠0 then b else if c≠0 then c else d
def HF(a b:aa):Int:=QR (qI (Iq a) (Iq b)) (qI a.Op b.Op) (qI a.N b.N) (qd a.Name b.Name)
mutual
def sI:aa->aa->Int
 |⟨op,n,nm,ks,ps,bd,bs⟩,b=>if HF ⟨op,n,nm,ks,ps,bd,bs⟩ b≠0 then HF ⟨op,n,nm,ks,ps,bd,bs⟩ b else qa ks b.Kids
def qa:List aa->List aa->Int
 |[],[]=>0
 |[],_::_=>-1
 |_::_,[]=>1
 |x::l,y::r=>if sI x y≠0 then sI x y else qa l r
end
theorem Ow(a b:aa):sI a b=if HF a b≠0 then HF a b else qa a.Kids b.Kids:=by obtain⟨o,n,k,ks,ps,as1,ts⟩:=a;rw[sI];rfl
theorem Up(a b:Int):km a b=some (qI a b):=by
 unfold km qC qI
 by_cases h1:a<b<;>by_cases h2:a>b<;>simp[h1,h2]
theorem Uq(a b:Int):jM a b=some (qI a b):=by
 unfold jM lX qI
 by_cases h1:a<b<;>by_cases h2:a>b<;>simp[h1,h2]
theorem Ur(a b:ai):jN a b=some (qd a b):=by
 unfold jN lY qd
 by_cases h2:a=b
 ·subst h2;simp[vI]
 ·by_cases h1:Op.bytesLess a b=true<;>simp[h1,h2]
theorem Ya(a b c d:Int):Dp [a,b,c,d]=some (QR a b c d):=by
 have w:∀n:Nat,n<10->bw ((n:Int)+1)=((n+1:Nat):Int):=λn h=>by rw[bK (by omega) (by omega)];omega
 have st:∀(l:List Int) (i:Nat) (h:i<l.length),l.length<10->loop (λzz:Int=>eS l (l.length:Int) zz) (i:Int)=if l[i]≠0 then some (.inl l[i])else loop (λzz:Int=>eS l (l.length:Int) zz) ((i+1:Nat):Int):=λl i h hl=>by
  have hb:eS l (l.length:Int) (i:Int)=if(l[i]!=0)=true then some (.inr (.inl l[i]))else some (.inl (bw ((i:Int)+1))):=by
   unfold eS
   rw[vaA (by simpa using h),aU l i h]
   rfl
  by_cases hz:l[i]≠0
  ·rw[vaA hz]
   rw[vaA (by simpa using hz)]at hb
   exact jk hb
  ·rw[vaz hz]
   rw[vaz (by simpa using hz),w i (by omega)]at hb
   exact Ay hb
 have en:∀l:List Int,loop (λzz:Int=>eS l (l.length:Int) zz) (l.length:Int)=some (.inr ()):=λl=>jk (by
  show eS l (l.length:Int) (l.length:Int)=_
  unfold eS
  rw[vaz (by simp)])
 unfold Dp vJ QR
 have s0:=st [a,b,c,d] 0 (by simp) (by simp)
 have s1:=st [a,b,c,d] 1 (by simp) (by simp)
 have s2:=st [a,b,c,d] 2 (by simp) (by simp)
 have s3:=st [a,b,c,d] 3 (by simp) (by simp)
 have s4:=en [a,b,c,d]
 rw[show((0:Int))=((0:Nat):Int)from rfl,s0,s1,s2,s3]
 rw[show(((3+1:Nat)):Int)=((([a,b,c,d]:List Int).length:Nat):Int)from rfl,s4]
 by_cases h1:a=0<;>by_cases h2:b=0<;>by_cases h3:c=0<;>by_cases h4:d=0<;>simp[h1,h2,h3,h4]
theorem SU{R:aa->aa->Option Int}{a b:List aa}(ha:a.length<=ee)(h:∀x∈a,∀y∈b,R x y=some (sI x y)):fi R a b=some (qa a b):=by
 have key:∀k i,k+i=a.length->i<=b.length->(loop (λzz:Int=>bC R a b (a.length:Int) zz) (i:Int)).bind (λo7=>match o7 with
  |.inl o7=>some o7
  |.inr o7=>if decide ((a.length:Int)<(b.length:Int))=true then some (-1)else some 0)=some (qa (a.drop i) (b.drop i)):=by
  intro k
  induction k with
  | zero =>
   intro i hi hb
   obtain rfl:i=a.length:=by omega
   rw[jk (x:=.inr ()) (by
    show bC R a b (a.length:Int) (a.length:Int)=_
    unfold bC
    rw[vaz (by simp)]),vbU]
   simp only[vab]
   by_cases hl:a.length<b.length
   ·rw[vaA (by simpa using hl),vaR hl,qa]
   ·rw[vaz (by simpa using hl),vbq (by omega),qa]
  | succ k ih =>
   intro i hi hb
   have h1:i<a.length:=by omega
   rw[vaR h1]
   by_cases h2:i<b.length
   ·rw[vaR h2,qa]
    have hbd:bC R a b (a.length:Int) (i:Int)=if(sI a[i] b[i]!=0)=true then some (.inr (.inl (sI a[i] b[i])))else some (.inl (bw ((i:Int)+1))):=by
     unfold bC
     rw[vaA (by simpa using h1),aU a i h1]
     simp only[vab]
     rw[vaz (by simp;omega),aU b i h2]
     simp only[vab]
     rw[h _ (vay h1) _ (vay h2)]
     rfl
    by_cases hz:sI a[i] b[i]≠0
    ·rw[vaA hz]
     rw[vaA (by simpa using hz)]at hbd
     rw[jk hbd]
     rfl
    ·rw[vaz hz]
     rw[vaz (by simpa using hz),bK (by omega) (by unfold ee at ha;omega)]at hbd
     rw[Ay hbd,show((i:Int)+1)=((i+1:Nat):Int) by omega]
     exact ih (i+1) (by omega) (by omega)
   ·rw[show b.drop i=[]from vbq (by omega),qa]
    rw[jk (x:=.inl 1) (by
     show bC R a b (a.length:Int) (i:Int)=_
     unfold bC
     rw[vaA (by simpa using h1),aU a i h1]
     simp only[vab]
     rw[vaA (by simp;omega)])]
    rfl
 have:=key a.length 0 (by omega) (vaQ _)
 unfold fi fw
 exact this
theorem Mb(a b:aa)(ha:GH a)(hb:GH b):ek a b=some (sI a b):=by
 refine nl (F:=j2) (λx=>bU (ac x.1)) (λx=>GH x.1/\GH x.2) (λx=>sI x.1 x.2) (λR x hx ih=>?_) (a,b) ⟨ha,hb⟩ (jC ha)
 obtain⟨u,v⟩:=x
 obtain⟨hu,hv⟩:GH u/\GH v:=hx
 have l0:bU (ac u)<=ee:=hu
 have l1:=rj u
 show ii (λa a2=>R (a,a2)) u v=some (sI u v)
 unfold ii
 rw[RV u hu,RV v hv,Uq,Ur,SU (R:=λa a2=>R (a,a2)) (a:=u.Kids) (b:=v.Kids) (by omega) (λx hx y hy=>ih (x,y) (rY hx) ⟨CJ hu hx,CJ hv hy⟩),Ow]
 simp only[vab,Up,Ya]
 show(if(HF u v !=0)=true then some (HF u v)else some (qa u.Kids v.Kids))=_
 by_cases h:HF u v=0<;>simp[h]
theorem Rc{a b:Int}(h:a≠b):qI a b≠0:=by
 unfold qI
 by_cases h1:a<b
 ·simp[h1]
 ·have:a>b:=by omega
  simp[h1,this]
theorem GJ(a:ai):qd a a=0:=by unfold qd;simp[vI]
theorem Rd{a b:ai}(h:a≠b):qd a b≠0:=by unfold qd;split<;>simp[h]
def Jj(x y:Int):Int:=if x≠0 then x else y
def Lx(x y z:Int):Prop:=x<=0->y<=0->z<=0/\(z=0->x=0/\y=0)
theorem CQ{x1 y1 z1 x2 y2 z2:Int}(h1:Lx x1 y1 z1)(h2:Lx x2 y2 z2):Lx (Jj x1 x2) (Jj y1 y2) (Jj z1 z2):=by
 intro hx hy
 unfold Jj at *
 have x1le:x1<=0:=by split at hx<;>omega
 have y1le:y1<=0:=by split at hy<;>omega
 obtain⟨a,b⟩:=h1 x1le y1le
 by_cases hz:z1=0
 ·obtain⟨p,q⟩:=b hz
  rw[vaz (by omega)]at hx hy
  rw[vaz (by omega),vaz (by omega),vaz (by omega)]
  exact h2 hx hy
 ·rw[vaA hz]
  exact⟨a,λh=>absurd h hz⟩
theorem yR(x y:Int):Jj (-x) (-y)= - Jj x y:=by unfold Jj;split<;>split<;>omega
theorem uL{x y:Int}(h:Jj x y=0):x=0/\y=0:=by unfold Jj at h;split at h<;>omega
theorem yS{x y:Int}(h1: -1<=x/\x<=1)(h2: -1<=y/\y<=1): -1<=Jj x y/\Jj x y<=1:=by unfold Jj;split<;>assumption
theorem rR(a b c d:Int):QR a b c d=Jj a (Jj b (Jj c d)):=rfl
theorem AH(a b:Int):qI b a= - qI a b:=by unfold qI;split<;>split<;>(try split)<;>omega
theorem DZ(a b:Int): -1<=qI a b/\qI a b<=1:=by unfold qI;split<;>(try split)<;>omega
theorem H1(a b c:Int):Lx (qI a b) (qI b c) (qI a c):=by
 intro hx hy
 unfold qI at *
 split at hx<;>split at hy<;>(try split at hx)<;>(try split at hy)<;>(try (exfalso;omega))<;>split<;>(try split)<;>omega
theorem GI{a b:Int}(h:qI a b=0):a=b:=Classical.not_not.1 λhn=>Rc hn h
theorem yX{a b:ai}(h:NX a b):qd a b= -1:=vaA h
theorem Pw(a b:ai): -1<=qd a b/\qd a b<=1:=by unfold qd;split<;>(try split)<;>omega
theorem Nn{a b:ai}(h:qd a b=0):a=b:=Classical.not_not.1 λhn=>Rd hn h
theorem H3{a b:ai}(h:qd a b<=0):NX a b\/a=b:=by
 unfold qd at h
 split at h
 ·exact .inl ‹_›
 ·split at h
  ·exact .inr ‹_›
  ·omega
theorem Nm(a b:ai):qd b a= - qd a b:=by
 by_cases he:a=b
 ·subst he;rw[GJ];rfl
 ·by_cases hl:NX a b
  ·have hn:¬NX b a:=λh=>by have:=Dh hl h;unfold NX at this;rw[vI]at this;cases this
   rw[yX hl]
   unfold qd
   rw[vaz hn,vaz (λh=>he h.symm)]
   rfl
  ·have hl':NX b a:=by
    cases hx:Op.bytesLess b a with
    |true=>exact hx
    | false =>
     have h2:Op.bytesLess a b=false:=by
      cases hy:Op.bytesLess a b with
      |true=>exact absurd hy hl
      |false=>rfl
     exact absurd (IJ h2 hx) he
   rw[yX hl']
   unfold qd
   rw[vaz hl,vaz he]
theorem Re(a b c:ai):Lx (qd a b) (qd b c) (qd a c):=by
 intro hx hy
 rcases H3 hx with h1|rfl
 ·rcases H3 hy with h2|rfl
  ·rw[yX (Dh h1 h2)];exact⟨by omega,λh=>by omega⟩
  ·rw[yX h1];exact⟨by omega,λh=>by omega⟩
 ·rcases H3 hy with h2|rfl
  ·rw[yX h2];exact⟨by omega,λh=>by omega⟩
  ·rw[GJ];exact⟨by omega,λ_=>⟨rfl,rfl⟩⟩
theorem OG(a b:aa):HF b a= - HF a b:=by
 unfold HF
 rw[rR,rR,AH,AH a.Op,AH a.N,Nm,yR,yR,yR]
theorem QU(a b:aa): -1<=HF a b/\HF a b<=1:=by
 unfold HF
 rw[rR]
 exact yS (DZ _ _) (yS (DZ _ _) (yS (DZ _ _) (Pw _ _)))
theorem SH(a b c:aa):Lx (HF a b) (HF b c) (HF a c):=by
 unfold HF
 rw[rR,rR,rR]
 exact CQ (H1 _ _ _) (CQ (H1 _ _ _) (CQ (H1 _ _ _) (Re _ _ _)))
theorem xl(a b:aa):sI a b=Jj (HF a b) (qa a.Kids b.Kids):=Ow a b
theorem n5(x y:aa)(l r:List aa):qa (x::l) (y::r)=Jj (sI x y) (qa l r):=by rw[qa];rfl
theorem Mq:∀{l:List aa} {x:aa},x∈l->Iq x<=G1 l
 | y :: l,x,h => by
  rw[G1]
  rcases vat.1 h with rfl|h
  ·omega
  ·have:=Mq h;omega
theorem CO{v x:aa}(h:x∈v.Kids):Iq x<Iq v:=by rw[AU v];have:=Mq h;omega
theorem LI:∀(l r:List aa),(∀x∈l,∀y,-1<=sI x y/\sI x y<=1)->-1<=qa l r/\qa l r<=1
 |[],[],_=>by rw[qa];omega
 |[],_::_,_=>by rw[qa];omega
 |_::_,[],_=>by rw[qa];omega
 |x::l,y::r,h=>by rw[n5];exact yS (h x (by simp) y) (LI l r λz hz=>h z (vaH _ hz))
theorem LK:∀(n:Nat) (a b:aa),Iq a<=n->-1<=sI a b/\sI a b<=1
 |0,a,b,h=>by have:=AU a;omega
 |n+1,a,b,h=>by
  rw[xl]
  exact yS (QU a b) (LI _ _ λx hx y=>LK n x y (by have:=CO hx;omega))
theorem IX:∀(l r:List aa),(∀x∈l,∀y,sI y x= - sI x y)->qa r l= - qa l r
 |[],[],_=>by rw[qa];rfl
 |[],_::_,_=>by rw[qa,qa];rfl
 |_::_,[],_=>by rw[qa,qa]
 |x::l,y::r,h=>by rw[n5,n5,h x (by simp) y,IX l r λz hz=>h z (vaH _ hz),yR]
theorem ur:∀(n:Nat) (a b:aa),Iq a<=n->sI b a= - sI a b
 |0,a,b,h=>by have:=AU a;omega
 |n+1,a,b,h=>by
  rw[xl,xl a b,OG,IX a.Kids b.Kids λx hx y=>ur n x y (by have:=CO hx;omega),yR]
theorem Ov:∀(l r s:List aa),(∀x∈l,∀y z,Lx (sI x y) (sI y z) (sI x z))->Lx (qa l r) (qa r s) (qa l s)
 |[],[],[],_=>by rw[qa];exact λ_ _=>⟨by omega,λ_=>⟨rfl,rfl⟩⟩
 |[],[],_::_,_=>by rw[qa,qa];exact λ_ _=>⟨by omega,λh=>by omega⟩
 |[],_::_,[],_=>by
  intro _ h
  rw[show ∀(y:aa) r,qa (y::r) []=1 from λy r=>by rw[qa]]at h
  omega
 |[],y::r,z::s,_=>by rw[qa,qa];exact λ_ _=>⟨by omega,λh=>by omega⟩
 |_::_,[],s,_=>by
  intro h _
  rw[show ∀(y:aa) r,qa (y::r) []=1 from λy r=>by rw[qa]]at h
  omega
 |_::_,_::_,[],_=>by
  intro _ h
  rw[show ∀(y:aa) r,qa (y::r) []=1 from λy r=>by rw[qa]]at h
  omega
 |x::l,y::r,z::s,h=>by rw[n5,n5,n5];exact CQ (h x (by simp) y z) (Ov l r s λw hw=>h w (vaH _ hw))
theorem Kn:∀(n:Nat) (a b c:aa),Iq a<=n->Lx (sI a b) (sI b c) (sI a c)
 |0,a,b,c,h=>by have:=AU a;omega
 |n+1,a,b,c,h=>by
  rw[xl,xl b c,xl a c]
  exact CQ (SH a b c) (Ov _ _ _ λx hx y z=>Kn n x y z (by have:=CO hx;omega))
theorem LE(m:am):∀(fs:List ae) (ks:List aa),fs.length=ks.length->Qi m fs ks=0->∀k∈ks,Gf m k=0
 |_,[],_,_,k,hk=>by cases hk
 |[],_::_,hl,_,_,_=>by simp at hl
 | f :: fs,k :: ks,hl,h,x,hx => by
  rw[Qi]at h
  by_cases c1:Gf m k=0
  ·rw[vaz (by simp[c1])]at h
   by_cases c2:QT (zj m k) f=false
   ·rw[vaA c2]at h;cases h
   ·rw[vaz c2]at h
    rcases vat.1 hx with rfl|hx
    ·exact c1
    ·exact LE m fs ks (by simpa using hl) h x hx
  ·rw[vaA c1]at h;exact absurd h c1
theorem IQ{m:am}(hm:SQ m){v:aa}(h:Gf m v=0):v.Params=[]/\v.Body=[]/\v.Binds=[]/\∀k∈v.Kids,Gf m k=0:=by
 rw[Om]at h
 split at h
 ·cases h
 split at h
 ·cases h
 split at h
 ·cases h
 rename_i c3
 simp only[vcn,vae,vb4]at c3
 refine⟨c3.1.1,c3.1.2,c3.2,?_⟩
 split at h
 ·split at h
  ·cases h
  split at h
  ·cases h
  rename_i g
  simp only[vcn]at g
  obtain⟨c,hc,_⟩:=LM hm g
  rw[hc]at h
  simp only at h
  split at h
  ·cases h
  ·rename_i hl
   exact LE m c.Fields v.Kids (by omega) h
 ·split at h
  ·cases h
  ·rename_i c5
   intro k hk
   have:v.Kids=[]:=Classical.not_not.1 λhn=>c5 (.inr hn)
   rw[this]at hk;cases hk
theorem Ou:∀(l r:List aa),(∀x∈l,∀y∈r,sI x y=0->x=y)->qa l r=0->l=r
 |[],[],_,_=>rfl
 |[],_::_,_,h=>by rw[qa]at h;cases h
 |_::_,[],_,h=>by rw[qa]at h;cases h
 |x::l,y::r,hh,h=>by
  rw[n5]at h
  obtain⟨h1,h2⟩:=uL h
  rw[hh x (by simp) y (by simp) h1,Ou l r (λa ha b hb=>hh a (vaH _ ha) b (vaH _ hb)) h2]
theorem Ot{m:am}(hm:SQ m):∀(n:Nat) (a b:aa),Iq a<=n->Gf m a=0->Gf m b=0->sI a b=0->a=b
 |0,a,b,h,_,_,_=>by have:=AU a;omega
 |n+1,a,b,h,ha,hb,hc=>by
  rw[xl]at hc
  obtain⟨h1,h2⟩:=uL hc
  unfold HF at h1
  rw[rR]at h1
  obtain⟨_,h1⟩:=uL h1
  obtain⟨e1,h1⟩:=uL h1
  obtain⟨e2,e3⟩:=uL h1
  obtain⟨a1,a2,a3,a4⟩:=IQ hm ha
  obtain⟨b1,b2,b3,b4⟩:=IQ hm hb
  have hk:=Ou a.Kids b.Kids (λx hx y hy hxy=>Ot hm n x y (by have:=CO hx;omega) (a4 x hx) (b4 y hy) hxy) h2
  exact Ex.2 ⟨GI e1,GI e2,Nn e3,hk,a1.trans b1.symm,a2.trans b2.symm,a3.trans b3.symm⟩
theorem Ox(a:aa):sI a a=0:=by have:=ur _ a a (vaj _);omega
theorem Q6(m:am)(h:bU (aq m)<=1048576):SQ m:=by
 have h1:=Eb m
 have hd1:∀d:aM,1<=bU (ay d):=λd=>by rw[uS];omega
 have hc1:∀c:aO,1<=bU (aG c):=λc=>by rw[CM];omega
 have l1:=dp ay hd1 m.Datas
 refine⟨by omega,λd hd=>?_,λd hd c hc=>?_⟩
 ·have l2:=lN ay hd
  have l3:=uS d
  have l4:=dp aG hc1 d.Cons
  omega
 ·have l2:=lN ay hd
  have l3:=uS d
  have l4:=lN aG hc
  have l5:=CM c
  have l6:=dp af y5 c.Fields
  omega
theorem Wa(x:J0):bU (iK x)=bU (ac x.A0)+(bU (ac x.A1)+bU (ac x.A2)):=by
 unfold iK
 rw[cX,cX]
theorem Fy(x0:am)(x1:J0)(h:bU (aq x0)+(bU (iK x1)+0)<=1048576):kA x0 x1=some true:=by
 have hp:=Wa x1
 have hm:SQ x0:=Q6 x0 (by omega)
 have k0:GH x1.A0:=by show _<=ee;unfold ee;omega
 have k1:GH x1.A1:=by show _<=ee;unfold ee;omega
 have k2:GH x1.A2:=by show _<=ee;unfold ee;omega
 obtain⟨b0,e0,_⟩:=Rx x0 (by unfold kh;omega)
 obtain⟨b1,e1⟩:=Ll x1.A0 (by unfold kh;omega)
 obtain⟨b2,e2⟩:=Ll x1.A1 (by unfold kh;omega)
 obtain⟨b3,e3⟩:=Ll x1.A2 (by unfold kh;omega)
 have hJ:∃b,fN x0 x1=some b:=by
  unfold fN
  rw[e0,e1,e2,e3]
  cases b0<;>cases b1<;>cases b2<;>exact⟨_,rfl⟩
 obtain⟨b,hb⟩:=hJ
 have a1:=ur _ x1.A0 x1.A1 (vaj _)
 have a2:=ur _ x1.A1 x1.A2 (vaj _)
 have a3:=ur _ x1.A0 x1.A2 (vaj _)
 have t1:=Kn _ x1.A0 x1.A1 x1.A2 (vaj _)
 have t2:=Kn _ x1.A2 x1.A1 x1.A0 (vaj _)
 have r1:=LK _ x1.A0 x1.A1 (vaj _)
 have hJ2:fO x1 (sI x1.A0 x1.A1) (sI x1.A1 x1.A2) (sI x1.A0 x1.A2)=some false:=by
  unfold fO
  rw[Mb _ _ k1 k0,a1]
  rw[a1,a2,a3]at t2
  generalize sI x1.A0 x1.A1=a at *
  generalize sI x1.A1 x1.A2=b at *
  generalize sI x1.A0 x1.A2=c at *
  have hw:IntKind.i64.wrap (0 - a)= -a:=by
   rw[show(0 - a:Int)= -a by omega]
   exact bK (by omega) (by omega)
  simp only[vab,hw,bne_self_eq_false,vba,if_false]
  unfold Lx at t1 t2
  by_cases p1:a<=0
  ·by_cases p2:b<=0
   ·have q:=t1 p1 p2
    have p3:¬c>0:=by omega
    by_cases z1:a=0
    ·by_cases z2:b=0
     ·have q2:=t2 (by omega) (by omega)
      have z3:c=0:=by omega
      simp[z1,z2,z3]
     ·simp[p2,p3,z1,z2]
    ·simp[p1,p2,p3,z1]
   ·have z2:b≠0:=by omega
    by_cases z1:a=0<;>simp[p1,p2,z1,z2]
  ·have z1:a≠0:=by omega
   simp[p1,z1]
 unfold kA
 rw[hb,J8,Mb _ _ k0 k1,Mb _ _ k1 k2,Mb _ _ k0 k2]
 simp only[vab]
 cases b with
 |true=>rfl
 | false =>
  simp only[vba,if_false]
  rw[hJ2]
  simp only[vab,vba,if_false]
  unfold iZ
  rw[Xd hm _ k0,Xd hm _ k1,SY _ _ k0]
  simp only[vab]
  by_cases c0:Gf x0 x1.A0=0
  ·by_cases c1:Gf x0 x1.A1=0
   ·have hx:((sI x1.A0 x1.A1==0)==decide (x1.A0=x1.A1))=true:=by
     by_cases he:x1.A0=x1.A1
     ·rw[he,Ox];simp
     ·have:sI x1.A0 x1.A1≠0:=λhz=>he (Ot hm _ _ _ (vaj _) c0 c1 hz)
      simp[he,this]
    simp[c0,c1,hx]
   ·simp[c0,c1]
  ·simp[c0]
end Go.Proofs.YtjddnhkahpfhdaaGreatDoor
