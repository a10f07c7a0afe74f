/- PROVED: a part of the proof. Conditions: none. -/
import Derived.Test.YtkdahfeiedaahaaGreatDoorPkB18
import Derived.Test.YtkdahfeiedaahaaGreatDoorPkB9
import Derived.Lib.SlicesCompact
import Derived.Test.YtkdahfeiedaahaaGreatDoorPkB10
noncomputable section
namespace Go.Proofs.YtkdahfeiedaahaaGreatDoor
open Go
set_option linter.unusedVariables false
set_option linter.unusedSimpArgs false
theorem EJ{α:Type}{l:List α}{i:Nat}{n most:Int}(h:i<l.length)(hm:n<=most):(if(decide ((i:Int)<(l.length:Int)))=true then some (decide (n<=most))else some false)=some true:=by
 rw[vav (by simp;omega),decide_eq_true hm]
theorem Ax{α:Type}{l:List α}{i:Nat}{n most:Int}(h:i=l.length\/¬n<=most):(if(decide ((i:Int)<(l.length:Int)))=true then some (decide (n<=most))else some false)=some false:=by
 by_cases hi:i<l.length
 ·rw[vav (by simp;omega)]
  rcases h with h|h
  ·omega
  ·rw[decide_eq_false h]
 ·rw[vax (by simp;omega)]
theorem AQ{α:Type}(l:List α)(hl:l.length<9223372036854775808){body:Int×Int->Option ((Int×Int)⊕Int)}(most:Int)(I:Nat->Int->Prop)
  (hin:∀(i:Nat) (h:i<l.length) n,I i n->n<=most->Eu (body (n,(i:Int))) (fun r=>∃n',r=.inl (n',bZ ((i:Int)+1))/\I (i+1) n'))
  (hout:∀(i:Nat) n,i<=l.length->(i=l.length\/¬n<=most)->body (n,(i:Int))=some (.inr n)) (n:Int) (h0:I 0 n):Eu (loop body (n,0)) (fun r=>∃i,i<=l.length/\I i r/\(i=l.length\/¬r<=most)):=by
 have key:∀k i n,k+i=l.length->I i n->Eu (loop body (n,(i:Int))) (fun r=>∃i,i<=l.length/\I i r/\(i=l.length\/¬r<=most)):=by
  intro k
  induction k with
  |zero=>
   intro i n hi hI
   rw[td,hout i n (by omega) (.inl (by omega))]
   exact kh ⟨i,by omega,hI,.inl (by omega)⟩
  | succ k ih =>
   intro i n hi hI
   by_cases hm:n<=most
   ·obtain⟨r,e,n',rfl,hI'⟩:=hin i (by omega) n hI hm
    rw[td,e]
    simp only
    rw[cP (by omega) (by omega),show((i:Int)+1)=((i+1:Nat):Int) by omega]
    exact ih (i+1) n' (by omega) hI'
   ·rw[td,hout i n (by omega) (.inr hm)]
    exact kh ⟨i,by omega,hI,.inr hm⟩
 exact key l.length 0 n (by omega) h0
theorem Fc(a b:Nat)(hb:0<b)(ha:a<9223372036854775808):qu .i64 (a:Int) (b:Int)=some ((a / b:Nat):Int):=by
 unfold qu
 rw[vax (by omega)]
 have h:((a:Int).tdiv (b:Int))=((a / b:Nat):Int):=by
  rw[Int.tdiv_eq_ediv_of_nonneg (by omega)];rfl
 rw[h]
 have h2:=vbw a b
 generalize a / b=q at *
 congr 1
 exact cP (by omega) (by omega)
theorem DV(p:ax):kQ (aw p)=1+(p.Name.length+1+(1+(cG (p.Kids.map aw)+1+0))):=by
 rw[ei];simp only[kQ,pm,sl]
theorem tu{α:Type}(c:α->List PVal)(l:List α)(i:Nat)(h:i<l.length):cG ((l.take (i+1)).map c)=cG ((l.take i).map c)+kQ (c l[i]):=by
 rw[vaw h,va4]
 have:∀(a b:List (List PVal)),cG (a++b)=cG a+cG b:=by
  intro a
  induction a with
  |nil=>intro b;simp[cG]
  |cons x a ih=>intro b;rw[va1,cG,ih,cG];omega
 rw[this]
 simp[cG]
theorem eQ{α:Type}(c:α->List PVal)(l:List α)(i:Nat):cG ((l.take i).map c)<=cG (l.map c):=by
 have:∀(l:List α) (i:Nat),cG ((l.take i).map c)<=cG (l.map c):=by
  intro l
  induction l with
  |nil=>intro i;simp
  |cons x l ih=>
   intro i
   cases i with
   |zero=>simp[cG]
   |succ i=>have:=ih i;simp only[List.take_succ_cons,vaA,cG];omega
 exact this l i
theorem oK{α:Type}(c:α->List PVal)(h:∀x,1<=kQ (c x)):∀(l:List α),l.length<=cG (l.map c)
 |[]=>by simp
 |x::l=>by have:=oK c h l;have:=h x;simp only[vaA,cG,vaQ];omega
theorem QV(p:ax):1<=kQ (aw p):=by rw[DV];omega
theorem Mt(l:List ax):nL (l.take l.length)=nL l:=by rw[vaL]
abbrev Et:Nat:=4000000
structure Ue(l:List ax)(most r:Int):Prop where
 lo:0<=r
 hi:r<=(cG (l.map aw):Int)
 sm:r<=most->(nL l:Int)<=r
theorem R6(l:List ax)(most:Int)(hl:cG (l.map aw)<=Et)(h1: -8000000<=most)(h2:most<=1000000000):Eu (EB l most) (Ue l most):=by
 refine I1 (F:=ze) (fun x=>cG (x.1.map aw)) (fun x=>cG (x.1.map aw)<=Et/\-8000000<=x.2/\x.2<=1000000000) (fun x r=>Ue x.1 x.2 r) (fun R x hx ih=>?_) (l,most) ⟨hl,h1,h2⟩ (zC (vaC hl (by decide)))
 obtain⟨l,most⟩:=x
 obtain⟨hl,h1,h2⟩:=hx
 have hl:cG (l.map aw)<=Et:=hl
 have h1: -8000000<=most:=h1
 have h2:most<=1000000000:=h2
 have hlen:=oK aw QV l
 show Eu (uW (fun a most=>R (a,most)) l most) _
 unfold uW xz
 unfold Et at hl
 refine iU (AQ l (by omega) most (fun i n=>0<=n/\n<=(cG ((l.take i).map aw):Int)/\(n<=most->(nL (l.take i):Int)<=n)) (fun i hi n hI hm=>?_) (fun i n _ h=>?_) 0 ⟨by omega,by omega,fun _=>by simp[nL]⟩) (fun r hr=>kh ?_)
 ·obtain⟨g1,g2,g3⟩:=hI
  have e:=tu aw l i hi
  have e2:=eQ aw l (i+1)
  have ep:=DV l[i]
  have en:=RS l i hi
  have enp:=Sq l[i]
  show Eu (jV (fun a most=>R (a,most)) l most n i) _
  unfold jV sX
  rw[EJ hi hm,dB l i hi]
  simp only[vab,if_true]
  have hq:=vbw l[i].Name.length 50
  rw[show(50:Int)=((50:Nat):Int)from rfl,Fc _ 50 (by omega) (by omega)]
  simp only[vab]
  rw[cP (n:=n+1) (by omega) (by omega),cP (n:=n+1+_) (by omega) (by omega),cP (n:=most - _) (by omega) (by omega)]
  refine iU (ih (l[i].Kids,most - (n+1+((l[i].Name.length / 50:Nat):Int))) (by show _<cG (l.map aw);show cG (l[i].Kids.map aw)<_;omega) ⟨by show cG (l[i].Kids.map aw)<=Et;unfold Et;omega,by show -8000000<=most - _;omega,by show most - _<=1000000000;omega⟩) (fun r hr=>?_)
  have q1:=hr.lo
  have q2:r<=(cG (l[i].Kids.map aw):Int):=hr.hi
  have q3:r<=most - (n+1+((l[i].Name.length / 50:Nat):Int))->(nL l[i].Kids:Int)<=r:=hr.sm
  rw[cP (n:=n+1+_+r) (by omega) (by omega)]
  refine kh ⟨_,rfl,by omega,by omega,fun hm'=>?_⟩
  have:=q3 (by omega)
  have:=g3 hm
  omega
 ·show jV (fun a most=>R (a,most)) l most n i=_
  unfold jV sX
  rw[Ax h]
  rfl
 ·obtain⟨i,hi,⟨g1,g2,g3⟩,h⟩:=hr
  have e2:=eQ aw l i
  refine⟨g1,by show r<=(cG (l.map aw):Int);omega,fun hm=>?_⟩
  have hm:r<=most:=hm
  have:i=l.length:=by
   rcases h with h|h
   ·exact h
   ·exact absurd hm h
  subst this
  rw[Mt]at g3
  exact g3 hm
theorem Nt(l:List am)(i:Nat)(h:i<l.length):sL (l.take (i+1))=sL (l.take i)+RQ l[i]:=by
 have ap:∀(a b:List am),sL (a++b)=sL a+sL b:=by
  intro a
  induction a with
  |nil=>intro b;simp[sL]
  |cons x a ih=>intro b;rw[va1,sL,ih,sL];omega
 rw[vaw h,ap]
 simp[sL]
theorem MH(t:am):1<=kQ (ai t):=by rw[MG];omega
theorem Pf(t:am):kQ (ai t)=1+(t.Name.length+1)+(cG (t.Args.map ai)+1)+(cG (t.Names.map cS)+1)+kQ (aw t.Pred)+(cG (t.Preds.map aw)+1):=by
 rw[MG,DV];simp only[pm,sl];omega
structure Uf(l:List am)(most r:Int):Prop where
 lo:0<=r
 hi:r<=(cG (l.map ai):Int)
 sm:r<=most->(sL l:Int)<=r/\(M1 l:Int)<=r
theorem On(l:List am)(most:Int)(hl:cG (l.map ai)<=Et)(h1: -8000000<=most)(h2:most<=1000000000):Eu (Ap l most) (Uf l most):=by
 refine I1 (F:=zh) (fun x=>cG (x.1.map ai)) (fun x=>cG (x.1.map ai)<=Et/\-8000000<=x.2/\x.2<=1000000000) (fun x r=>Uf x.1 x.2 r) (fun R x hx ih=>?_) (l,most) ⟨hl,h1,h2⟩ (zC (vaC hl (by decide)))
 obtain⟨l,most⟩:=x
 obtain⟨hl,h1,h2⟩:=hx
 have hl:cG (l.map ai)<=Et:=hl
 have h1: -8000000<=most:=h1
 have h2:most<=1000000000:=h2
 have hlen:=oK ai MH l
 show Eu (uZ (fun a most=>R (a,most)) l most) _
 unfold uZ xC
 unfold Et at hl
 refine iU (AQ l (by omega) most (fun i n=>0<=n/\n<=(cG ((l.take i).map ai):Int)/\(n<=most->(sL (l.take i):Int)<=n/\(M1 (l.take i):Int)<=n)) (fun i hi n hI hm=>?_) (fun i n _ h=>?_) 0 ⟨by omega,by omega,fun _=>by simp[sL,M1]⟩) (fun r hr=>kh ?_)
 ·obtain⟨g1,g2,g3⟩:=hI
  have e:=tu ai l i hi
  have e2:=eQ ai l (i+1)
  have ep:=Pf l[i]
  have epp:=DV l[i].Pred
  have en:=Nt l i hi
  have en2:=Rc l i hi
  have enp:=RR l[i]
  have enp2:=UN l[i]
  have hns:=Qt l[i].Names
  have hps:=Us l[i].Preds
  have hpl:=Nw l[i].Preds
  show Eu (jW (fun a most=>R (a,most)) l most n i) _
  unfold jW sY
  rw[EJ hi hm,dB l i hi]
  simp only[vab,if_true]
  have hq:=vbw l[i].Name.length 50
  rw[show(50:Int)=((50:Nat):Int)from rfl,Fc _ 50 (by omega) (by omega)]
  simp only[vab]
  rw[ij (by simp;omega)]
  simp only[vab]
  refine iU (R6 ([l[i].Pred]++l[i].Preds) most (by unfold Et;simp only[List.singleton_append,vaA,cG];omega) h1 h2) (fun rp hp=>?_)
  have p1:=hp.lo
  have p2:rp<=((kQ (aw l[i].Pred)+cG (l[i].Preds.map aw):Nat):Int):=by
   have:=hp.hi
   simp only[List.singleton_append,vaA,cG]at this
   exact this
  have p3:rp<=most->((nP l[i].Pred+nL l[i].Preds:Nat):Int)<=rp:=by
   have:=hp.sm
   simp only[List.singleton_append,nL]at this
   exact this
  rw[cP (n:=n+1) (by omega) (by omega),cP (n:=n+1+_) (by omega) (by omega),cP (n:=n+1+_+_) (by omega) (by omega),cP (n:=n+1+_+_+_) (by omega) (by omega),cP (n:=most - _) (by omega) (by omega)]
  refine iU (ih (l[i].Args,most - (n+1+((l[i].Name.length / 50:Nat):Int)+(l[i].Names.length:Int)+rp)) (by show _<cG (l.map ai);show cG (l[i].Args.map ai)<_;omega) ⟨by show cG (l[i].Args.map ai)<=Et;unfold Et;omega,by show -8000000<=most - _;omega,by show most - _<=1000000000;omega⟩) (fun r hr=>?_)
  have q1:=hr.lo
  have q2:r<=(cG (l[i].Args.map ai):Int):=hr.hi
  have q3:r<=most - (n+1+((l[i].Name.length / 50:Nat):Int)+(l[i].Names.length:Int)+rp)->(sL l[i].Args:Int)<=r/\(M1 l[i].Args:Int)<=r:=hr.sm
  rw[cP (n:=_+r) (by omega) (by omega)]
  refine kh ⟨_,rfl,by omega,by omega,fun hm'=>?_⟩
  have:=q3 (by omega)
  have:=p3 (by omega)
  have:=g3 hm
  have:=QA l[i].Pred
  omega
 ·show jW (fun a most=>R (a,most)) l most n i=_
  unfold jW sY
  rw[Ax h]
  rfl
 ·obtain⟨i,hi,⟨g1,g2,g3⟩,h⟩:=hr
  have e2:=eQ ai l i
  refine⟨g1,by show r<=(cG (l.map ai):Int);omega,fun hm=>?_⟩
  have hm:r<=most:=hm
  have:i=l.length:=by
   rcases h with h|h
   ·exact h
   ·exact absurd hm h
  subst this
  rw[vaL]at g3
  exact g3 hm
theorem zO(e:af):kQ (ac e)=1+(e.Name.length+1+(1+(cG (e.Kids.map ac)+1+(cG (e.Params.map au)+1+(cG (e.Alts.map aA)+1+(cG (e.Types.map ai)+1+0)))))):=by
 rw[bI];simp only[kQ,pm,sl]
theorem Hh(a:aO):kQ (aA a)=a.Con.length+1+(cG (a.Names.map cS)+1+kQ (ac a.Body)):=by
 obtain⟨c,ns,b⟩:=a
 rw[aA]
 show kQ (PVal.str c::sl cS ns::ac b)=_
 simp only[kQ,pm,sl];rfl
theorem Kv(p:ay):kQ (au p)=p.Name.length+1+kQ (ai p.Type_):=by
 show kQ (PVal.str p.Name::ai p.Type_)=_
 simp only[kQ,pm]
theorem QT(e:af):1<=kQ (ac e):=by rw[zO];omega
theorem R0(a:aO):1<=kQ (aA a):=by rw[Hh];omega
theorem Ku(p:ay):1<=kQ (au p):=by rw[Kv];omega
theorem Og{α:Type}(c:α->List PVal){l:List α}{x:α}(h:x∈l):kQ (c x)<=cG (l.map c):=ME (vah.2 ⟨x,h,rfl⟩)
theorem QU{e x:af}(h:x∈e.Kids):kQ (ac x)<kQ (ac e):=by have:=Og ac h;rw[zO e];omega
theorem S9{e:af}{a:aO}(h:a∈e.Alts):kQ (aA a)<kQ (ac e):=by have:=Og aA h;rw[zO e];omega
theorem MF{e:af}{a:aO}(h:a∈e.Alts):kQ (ac a.Body)<kQ (ac e):=by have:=S9 h;have:=Hh a;omega
theorem R1{e x:af}(h:x∈eg e):kQ (ac x)<kQ (ac e):=by
 rcases vaB.1 h with h|h
 ·exact QU h
 ·obtain⟨a,ha,rfl⟩:=vah.1 h
  exact MF ha
theorem R2{e x:af}(h:x∈lD e):kQ (ac x)<=kQ (ac e):=by
 revert x
 refine Sm (Q:=fun e=>∀{x},x∈lD e->kQ (ac x)<=kQ (ac e)) (fun e ih x h=>?_) e
 rw[E3]at h
 rcases vay.1 h with rfl|h
 ·exact vak _
 ·obtain⟨y,hy,hx⟩:=List.mem_flatMap.1 h
  have:=ih y hy hx
  have:=R1 hy
  omega
mutual
theorem Ob:∀(e:af),nE e<=kQ (ac e)
 |⟨o,n,k,ks,ps,as1,ts⟩=>by
  have h1:=Qy ks
  have h2:=Qx as1
  have h3:=oK au Ku ps
  have h4:=oK ai MH ts
  rw[nE,zO]
  show _<=1+(n.length+1+(1+(cG (ks.map ac)+1+(cG (ps.map au)+1+(cG (as1.map aA)+1+(cG (ts.map ai)+1+0))))))
  omega
theorem Uu:∀(a:aO),nA a<=kQ (aA a)
 |⟨c,ns,b⟩=>by
  have h1:=Ob b
  have h2:=Qt ns
  rw[nA,Hh]
  show _<=c.length+1+(cG (ns.map cS)+1+kQ (ac b))
  omega
theorem Qy:∀(l:List af),BF l<=cG (l.map ac)
 |[]=>by simp[BF]
 |e::l=>by
  have:=Ob e
  have:=Qy l
  rw[BF]
  simp only[vaA,cG]
  omega
theorem Qx:∀(l:List aO),BE l<=cG (l.map aA)
 |[]=>by simp[BE]
 |a::l=>by
  have:=Uu a
  have:=Qx l
  rw[BE]
  simp only[vaA,cG]
  omega
end
theorem RT(l:List ag)(most:Int)(hl:cG (l.map cS)<=Et):Eu (Ao l most) (fun r=>0<=r/\r<=(cG (l.map cS):Int)):=by
 unfold Ao xy
 unfold Et at hl
 have hlen:=Qt l
 refine iU (AQ l (by omega) most (fun i n=>0<=n/\n<=(cG ((l.take i).map cS):Int)) (fun i hi n hI hm=>?_) (fun i n _ h=>?_) 0 ⟨by omega,by omega⟩) (fun r hr=>kh ?_)
 ·obtain⟨g1,g2⟩:=hI
  have e:=tu cS l i hi
  have e2:=eQ cS l (i+1)
  have e3:kQ (cS l[i])=l[i].length+1:=by simp only[cS,kQ,pm]
  show Eu (jU l most n i) _
  unfold jU sW
  rw[EJ hi hm,dB l i hi]
  simp only[vab,if_true]
  have hq:=vbw l[i].length 50
  rw[show(50:Int)=((50:Nat):Int)from rfl,Fc _ 50 (by omega) (by omega)]
  simp only[vab]
  rw[cP (n:=n+1) (by omega) (by omega),cP (n:=n+1+_) (by omega) (by omega)]
  exact kh ⟨_,rfl,by omega,by omega⟩
 ·show jU l most n i=_
  unfold jU sW
  rw[Ax h]
  rfl
 ·obtain⟨i,hi,⟨g1,g2⟩,h⟩:=hr
  have e2:=eQ cS l i
  exact⟨g1,by omega⟩
theorem Uc(e:af)(most:Int)(he:kQ (ac e)<=Et)(h1: -4000000<=most)(h2:most<=1000000000):Eu (Ht e most) (fun r=>0<=r/\r<=(kQ (ac e):Int)):=by
 refine I1 (F:=Cf) (fun x=>kQ (ac x.1)) (fun x=>kQ (ac x.1)<=Et/\-4000000<=x.2/\x.2<=1000000000) (fun x r=>0<=r/\r<=(kQ (ac x.1):Int)) (fun R x hx ih=>?_) (e,most) ⟨he,h1,h2⟩ (zC (vaC he (by decide)))
 obtain⟨e,most⟩:=x
 obtain⟨he,h1,h2⟩:=hx
 have he:kQ (ac e)<=Et:=he
 have h1: -4000000<=most:=h1
 have h2:most<=1000000000:=h2
 have hpm:=zO e
 have l1:=oK au Ku e.Params
 have l2:=oK ac QT e.Kids
 have l3:=oK aA R0 e.Alts
 show Eu (xu (fun e most=>R (e,most)) e most) (fun r=>0<=r/\r<=(kQ (ac e):Int))
 unfold xu
 unfold Et at he
 have hq:=vbw e.Name.length 50
 rw[show(50:Int)=((50:Nat):Int)from rfl,Fc _ 50 (by omega) (by omega)]
 simp only[vab]
 refine iU (On e.Types most (by unfold Et;omega) (by omega) h2) (fun rt ht=>?_)
 have t1:=ht.lo
 have t2:=ht.hi
 rw[cP (n:=1+_) (by omega) (by omega),cP (n:=1+_+rt) (by omega) (by omega)]
 generalize hb:(1:Int)+((e.Name.length / 50:Nat):Int)+rt=b0
 have b1:0<=b0:=by omega
 have b2:b0<=((1+e.Name.length+cG (e.Types.map ai):Nat):Int):=by omega
 refine iU (R:=fun r=>0<=r/\r<=b0+(cG (e.Params.map au):Int)) ?_ (fun r1 hr1=>?_)
 ·unfold y4
  refine(AQ e.Params (by omega) most (fun i n=>0<=n/\n<=b0+(cG ((e.Params.take i).map au):Int)) (fun i hi n hI hm=>?_) (fun i n _ h=>?_) b0 ⟨b1,by simp[cG]⟩).mono (fun r hr=>?_)
  ·obtain⟨g1,g2⟩:=hI
   have e1:=tu au e.Params i hi
   have e2:=eQ au e.Params (i+1)
   have e3:=Kv e.Params[i]
   show Eu (ls most e n i) _
   unfold ls uM
   rw[EJ hi hm,dB e.Params i hi]
   simp only[vab,if_true]
   have hq:=vbw e.Params[i].Name.length 50
   rw[show(50:Int)=((50:Nat):Int)from rfl,Fc _ 50 (by omega) (by omega)]
   simp only[vab]
   refine iU (On [e.Params[i].Type_] most (by unfold Et;simp only[vaA,vb6,cG];omega) (by omega) h2) (fun rp hp=>?_)
   have p1:=hp.lo
   have p2:rp<=((kQ (ai e.Params[i].Type_)+0:Nat):Int):=by
    have:=hp.hi
    simp only[vaA,vb6,cG]at this
    exact this
   rw[cP (n:=n+1) (by omega) (by omega),cP (n:=n+1+_) (by omega) (by omega),cP (n:=n+1+_+_) (by omega) (by omega)]
   exact kh ⟨_,rfl,by omega,by omega⟩
  ·show ls most e n i=_
   unfold ls uM
   rw[Ax h]
   rfl
  ·obtain⟨i,hi,⟨g1,g2⟩,h⟩:=hr
   have e2:=eQ au e.Params i
   exact⟨g1,by omega⟩
 obtain⟨c1,c2⟩:=hr1
 refine iU (R:=fun r=>0<=r/\r<=r1+(cG (e.Kids.map ac):Int)) ?_ (fun r2 hr2=>?_)
 ·unfold y5
  refine(AQ e.Kids (by omega) most (fun i n=>0<=n/\n<=r1+(cG ((e.Kids.take i).map ac):Int)) (fun i hi n hI hm=>?_) (fun i n _ h=>?_) r1 ⟨c1,by simp[cG]⟩).mono (fun r hr=>?_)
  ·obtain⟨g1,g2⟩:=hI
   have e1:=tu ac e.Kids i hi
   have e2:=eQ ac e.Kids (i+1)
   have hk:=QU (vaS hi)
   show Eu (lu (fun e most=>R (e,most)) most e n i) _
   unfold lu uN
   rw[EJ hi hm,dB e.Kids i hi]
   simp only[vab,if_true]
   rw[cP (n:=most - n) (by omega) (by omega)]
   refine iU (ih (e.Kids[i],most - n) hk ⟨by show kQ (ac e.Kids[i])<=Et;unfold Et;omega,by show -4000000<=most - n;omega,by show most - n<=1000000000;omega⟩) (fun r hr=>?_)
   have q1:0<=r:=hr.1
   have q2:r<=(kQ (ac e.Kids[i]):Int):=hr.2
   rw[cP (n:=n+r) (by omega) (by omega)]
   exact kh ⟨_,rfl,by omega,by omega⟩
  ·show lu (fun e most=>R (e,most)) most e n i=_
   unfold lu uN
   rw[Ax h]
   rfl
  ·obtain⟨i,hi,⟨g1,g2⟩,h⟩:=hr
   have e2:=eQ ac e.Kids i
   exact⟨g1,by omega⟩
 obtain⟨d1,d2⟩:=hr2
 refine iU (R:=fun r=>0<=r/\r<=r2+(cG (e.Alts.map aA):Int)) ?_ (fun r3 hr3=>kh ⟨hr3.1,by have:=hr3.2;omega⟩)
 unfold y6
 refine(AQ e.Alts (by omega) most (fun i n=>0<=n/\n<=r2+(cG ((e.Alts.take i).map aA):Int)) (fun i hi n hI hm=>?_) (fun i n _ h=>?_) r2 ⟨d1,by simp[cG]⟩).mono (fun r hr=>?_)
 ·obtain⟨g1,g2⟩:=hI
  have e1:=tu aA e.Alts i hi
  have e2:=eQ aA e.Alts (i+1)
  have e3:=Hh e.Alts[i]
  have hk:=MF (vaS hi)
  show Eu (lw (fun e most=>R (e,most)) most e n i) _
  unfold lw uO
  rw[EJ hi hm,dB e.Alts i hi]
  simp only[vab,if_true]
  have hq:=vbw e.Alts[i].Con.length 50
  rw[show(50:Int)=((50:Nat):Int)from rfl,Fc _ 50 (by omega) (by omega)]
  simp only[vab]
  refine iU (RT e.Alts[i].Names most (by unfold Et;omega)) (fun rn hn=>?_)
  obtain⟨n1,n2⟩:=hn
  rw[cP (n:=n+1) (by omega) (by omega),cP (n:=n+1+_) (by omega) (by omega),cP (n:=n+1+_+_) (by omega) (by omega),cP (n:=most - _) (by omega) (by omega)]
  refine iU (ih (e.Alts[i].Body,most - (n+1+((e.Alts[i].Con.length / 50:Nat):Int)+rn)) hk ⟨by show kQ (ac e.Alts[i].Body)<=Et;unfold Et;omega,by show -4000000<=most - _;omega,by show most - _<=1000000000;omega⟩) (fun r hr=>?_)
  have q1:0<=r:=hr.1
  have q2:r<=(kQ (ac e.Alts[i].Body):Int):=hr.2
  rw[cP (n:=_+r) (by omega) (by omega)]
  exact kh ⟨_,rfl,by omega,by omega⟩
 ·show lw (fun e most=>R (e,most)) most e n i=_
  unfold lw uO
  rw[Ax h]
  rfl
 ·obtain⟨i,hi,⟨g1,g2⟩,h⟩:=hr
  have e2:=eQ aA e.Alts i
  exact⟨g1,by omega⟩
theorem Pt(e:af)(he:kQ (ac e)<=Et):Eu (At e) (fun _=>True):=by
 unfold At
 exact iU (Uc e 600 he (by omega) (by omega)) (fun r _=>kh trivial)
abbrev Uy(e:af):Prop:=kQ (ac e)<=qE
theorem Ko{e:af}(h:Uy e):nE e<=qE:=vaC (Ob e) h
theorem QG{e x:af}(h:Uy e)(hx:x∈lD e):Uy x:=vaC (R2 hx) h
def H3(l:List ag)(s:ag):Int:=match l.findIdx? (fun x=>x==s)with|some j=>(j:Int)|none=>-1
theorem LN(l:List ag)(s:ag)(hl:l.length<9223372036854775808):C5 l s=some (H3 l s):=by
 unfold C5 yY
 have:=Ki l hl (fun zz=>nf l s l.length zz) (fun x=>x==s) (fun j=>Sum.inl (j:Int)) (Sum.inr ()) (fun i h=>by
  simp only[nf]
  rw[vav (by simp;omega),dB _ i h]
  simp only[vab]
  split<;>simp_all) (by simp only[nf];rw[vax (by simp)])
 rw[this]
 unfold H3
 cases l.findIdx? (fun x=>x==s)<;>rfl
theorem JJ(l:List ag)(s:ag)(hl:l.length<9223372036854775808):qF l s=some (H3 l s):=by
 unfold qF xY sh
 have:=Ki l hl (fun zz=>jz l s l.length zz) (fun x=>x==s) (fun j=>Sum.inl (j:Int)) (Sum.inr ()) (fun i h=>by
  simp only[jz]
  rw[vav (by simp;omega),dB _ i h]
  simp only[vab,BEq.comm (a:=s)]
  split<;>simp_all) (by simp only[jz];rw[vax (by simp)])
 rw[this]
 unfold H3
 cases l.findIdx? (fun x=>x==s)<;>rfl
theorem Dz(l:List ag)(s:ag):decide (H3 l s>=0)=l.any fun k=>k==s:=by
 unfold H3
 cases h:l.findIdx? (fun x=>x==s)with
 |none=>
  rw[List.findIdx?_eq_none_iff]at h
  symm
  simp only[vbl]
  rw[show decide ((-1:Int)>=0)=false from rfl]
  simp only[vbl,vcm]
  exact h
 | some j =>
  have h2:l.any (fun x=>x==s)=true:=by
   have:=List.findIdx?_isSome (xs:=l) (p:=fun x=>x==s)
   rw[h]at this
   exact this.symm
  rw[h2]
  simp
theorem OQ(l:List ag)(s:ag):decide (H3 l s<0)= !l.any fun k=>k==s:=by
 rw[<-Dz]
 rw[<-decide_not]
 simp
theorem P5(l:List ay)(hl:l.length<=1073741824):kw l=some (l.map (·.Name)):=by
 unfold kw
 have h:=f7 l.length (fun zz:(List ag)×Int=>fq l (l.length:Int) zz.1 zz.2) (fun i=>((l.take i).map (·.Name),(i:Int))) (l.map (·.Name)) (fun i hi=>?_) ?_
 ·have h':od l (l.length:Int) ([]:List ag) 0=some (l.map (·.Name)):=by unfold od;simpa using h
  rw[h'];rfl
 ·show fq l (l.length:Int) _ (i:Int)=_
  unfold fq
  rw[vav (by simpa using hi),dB _ _ hi,vab,ij (by simp;omega),vab,cP (by omega) (by omega),vaw hi,va4]
  rfl
 ·show fq l (l.length:Int) _ (l.length:Int)=_
  unfold fq
  rw[vax (by simp),vaL]
theorem GI(l:List aO)(hl:l.length<=1073741824):hZ l=some (l.map (·.Con)):=by
 unfold hZ
 have h:=f7 l.length (fun zz:(List ag)×Int=>cQ l (l.length:Int) zz.1 zz.2) (fun i=>((l.take i).map (·.Con),(i:Int))) (l.map (·.Con)) (fun i hi=>?_) ?_
 ·have h':il l (l.length:Int) ([]:List ag) 0=some (l.map (·.Con)):=by unfold il;simpa using h
  rw[h'];rfl
 ·show cQ l (l.length:Int) _ (i:Int)=_
  unfold cQ
  rw[vav (by simpa using hi),dB _ _ hi,vab,ij (by simp;omega),vab,cP (by omega) (by omega),vaw hi,va4]
  rfl
 ·show cQ l (l.length:Int) _ (l.length:Int)=_
  unfold cQ
  rw[vax (by simp),vaL]
theorem Mr(l:List aO)(i:Nat):BE (l.take i)<=BE l:=by
 have:∀(l:List aO) (i:Nat),BE (l.take i)<=BE l:=by
  intro l
  induction l with
  |nil=>intro i;simp
  |cons x l ih=>
   intro i
   cases i with
   |zero=>simp[BE]
   |succ i=>have:=ih i;simp only[List.take_succ_cons,BE];omega
 exact this l i
abbrev MZ(l:List ag):Prop:=l.Pairwise M9
theorem Cq:∀{a b:List ag},MZ a->MZ b->(∀x,x∈a↔x∈b)->a=b
 |[],[],_,_,_=>rfl
 |[],y::b,_,_,h=>by have:=(h y).2 (by simp);simp at this
 |x::a,[],_,_,h=>by have:=(h x).1 (by simp);simp at this
 | x :: a,y :: b,ha,hb,h => by
  unfold MZ at ha hb
  rw[va6]at ha hb
  have hxy:x=y:=by
   have h1:=(h x).1 (by simp)
   have h2:=(h y).2 (by simp)
   rw[vay]at h1 h2
   rcases h1 with h1|h1
   ·exact h1
   ·rcases h2 with h2|h2
    ·exact h2.symm
    ·have:=rx (hb.1 x h1) (ha.1 y h2)
     unfold M9 at this
     rw[tq]at this
     cases this
  subst hxy
  congr 1
  refine Cq ha.2 hb.2 fun z=>?_
  constructor
  ·intro hz
   have:=(h z).1 (by simp[hz])
   rw[vay]at this
   rcases this with rfl|this
   ·have:=ha.1 _ hz;unfold M9 at this;rw[tq]at this;cases this
   ·exact this
  ·intro hz
   have:=(h z).2 (by simp[hz])
   rw[vay]at this
   rcases this with rfl|this
   ·have:=hb.1 _ hz;unfold M9 at this;rw[tq]at this;cases this
   ·exact this
theorem By(d:List ag)(hs:d.Pairwise fun x y=>Op.bytesLess y x=false):∀m,m<=d.length->MZ (Lib.compactUpTo d.toArray m)/\∀x,x∈Lib.compactUpTo d.toArray m↔∃(j:Nat) (h:j<d.length),j<m/\d[j]=x
 |0,_=>by
  refine⟨by simp[Lib.compactUpTo,MZ],fun x=>?_⟩
  simp[Lib.compactUpTo]
 | m + 1,hm => by
  obtain⟨h1,h2⟩:=By d hs m (by omega)
  have hg:∀j (h:j<d.length),d.toArray[j]! =d[j]:=fun j h=>by simp[h]
  rw[Lib.compactUpTo_succ]
  by_cases hk:Lib.keeps d.toArray m=true
  ·rw [vav hk,hg m (by omega)]
   refine⟨?_,fun x=>?_⟩
   ·unfold MZ
    rw[List.pairwise_append]
    refine⟨h1,by simp,fun x hx y hy=>?_⟩
    simp at hy
    subst hy
    obtain⟨j,hj,hjm,rfl⟩:=(h2 x).1 hx
    have hne:d[m - 1]≠d[m]:=by
     unfold Lib.keeps at hk
     simp only[van]at hk
     rcases hk with hk|hk
     ·omega
     ·rw[hg m (by omega),hg (m - 1) (by omega)]at hk
      exact fun e=>hk e.symm
    have hlt:Op.bytesLess d[m - 1] d[m]=true:=by
     have k1:=(vca.1 hs) (m - 1) m (by omega) (by omega) (by omega)
     cases h:Op.bytesLess d[m - 1] d[m]with
     |true=>rfl
     |false=>exact absurd (rv h k1) hne
    by_cases hj2:j=m - 1
    ·subst hj2;exact hlt
    ·have k2:=(vca.1 hs) j (m - 1) (by omega) (by omega) (by omega)
     cases h:Op.bytesLess d[j] d[m - 1]with
     |true=>exact rx h hlt
     |false=>
      have:=rv h k2
      rw[this];exact hlt
   ·rw[vaB,h2]
    constructor
    ·rintro(⟨j,hj,hjm,rfl⟩|hx)
     ·exact⟨j,hj,by omega,rfl⟩
     ·simp at hx;exact⟨m,by omega,by omega,hx.symm⟩
    ·rintro⟨j,hj,hjm,rfl⟩
     by_cases e:j=m
     ·subst e;exact .inr (by simp)
     ·exact .inl ⟨j,hj,by omega,rfl⟩
  ·rw [vax hk,vbh]
   refine⟨h1,fun x=>?_⟩
   rw[h2]
   constructor
   ·rintro⟨j,hj,hjm,rfl⟩;exact⟨j,hj,by omega,rfl⟩
   ·rintro⟨j,hj,hjm,rfl⟩
    by_cases e:j=m
    ·subst e
     have:j≠0/\d.toArray[j]! =d.toArray[j - 1]! :=by
      unfold Lib.keeps at hk
      simp only[van,not_or,ne_eq,Decidable.not_not]at hk
      exact hk
     rw[hg j hj,hg (j - 1) (by omega)]at this
     exact⟨j - 1,by omega,by omega,this.2.symm⟩
    ·exact⟨j,hj,by omega,rfl⟩
def NQ(a b:List ag):List ag:=Lib.compact (sR (a++b))
theorem IU(a b:List ag):MZ (NQ a b)/\∀x,x∈NQ a b↔x∈a\/x∈b:=by
 obtain⟨h1,h2⟩:=By (sR (a++b)) (D8 _) _ (vak _)
 refine⟨h1,fun x=>?_⟩
 rw[show NQ a b=Lib.compactUpTo (sR (a++b)).toArray (sR (a++b)).length from rfl,h2,<-vaB,<-Pu,List.mem_iff_getElem]
 constructor
 ·rintro⟨j,h,_,e⟩;exact⟨j,h,e⟩
 ·rintro⟨j,h,e⟩;exact⟨j,h,h,e⟩
def Ib(s:ag):List ag->List ag
 |[]=>[s]
 |x::r=>if Op.bytesLess x s=true then x::Ib s r else if(x==s)=true then s::r else s::x::r
def kk(s:ag):List ag->Nat
 |[]=>0
 |x::r=>if Op.bytesLess x s=true then kk s r+1 else 0
theorem Sp(s:ag):∀l,kk s l<=l.length
 |[]=>vak _
 |x::r=>by have:=Sp s r;unfold kk;split<;>simp<;>omega
theorem Qm(s:ag):∀l,Ib s l=l.take (kk s l)++s::l.drop (kk s l+if(l[kk s l]? ==some s)=true then 1 else 0)
 |[]=>by simp[Ib,kk]
 | x :: r => by
  have ih:=Qm s r
  unfold Ib kk
  by_cases h:Op.bytesLess x s=true
  ·rw[vav h,vav h,ih]
   simp only[List.take_succ_cons,List.getElem?_cons_succ,va1]
   rw[show kk s r+1+(if(r[kk s r]? ==some s)=true then 1 else 0)=(kk s r+if(r[kk s r]? ==some s)=true then 1 else 0)+1 by omega,List.drop_succ_cons]
  ·rw[vax h,vax h]
   by_cases hx:(x==s)=true
   ·have:x=s:=by simpa using hx
    simp[this]
   ·have:¬x=s:=by simpa using hx
    simp[this]
theorem He(s:ag):∀l,(Ib s l).length<=l.length+1
 |[]=>by simp[Ib]
 | x :: r => by
  have:=He s r
  unfold Ib
  split
  ·simp;omega
  ·split<;>simp
theorem Li(s:ag):∀l x,x∈Ib s l↔x=s\/x∈l
 |[],x=>by simp[Ib]
 | y :: r,x => by
  have:=Li s r x
  unfold Ib
  by_cases h:Op.bytesLess y s=true
  ·rw[vav h,vay,this,vay]
   constructor
   ·rintro(h|h|h)<;>simp[h]
   ·rintro(h|h|h)<;>simp[h]
  ·rw[vax h]
   by_cases hy:(y==s)=true
   ·have e:y=s:=by simpa using hy
    rw[vav hy,e]
    simp
   ·rw[vax hy]
    simp
theorem N6(s:ag):∀{l},MZ l->MZ (Ib s l)
 |[],_=>by simp[Ib,MZ]
 | x :: r,h => by
  unfold MZ at h ⊢
  rw[va6]at h
  unfold Ib
  by_cases hx:Op.bytesLess x s=true
  ·rw[vav hx,va6]
   refine⟨fun y hy=>?_,N6 s h.2⟩
   rw[Li]at hy
   rcases hy with rfl|hy
   ·exact hx
   ·exact h.1 y hy
  ·rw [vax hx]
   by_cases he:(x==s)=true
   ·have e:x=s:=by simpa using he
    subst e
    rw[vav he,va6]
    exact h
   ·have hsx:M9 s x:=by
     cases hc:Op.bytesLess s x with
     |true=>exact hc
     |false=>
      have:=rv (by simpa using hx) hc
      simp[this]at he
    rw[vax he,va6,va6]
    refine⟨fun y hy=>?_,h⟩
    rw[vay]at hy
    rcases hy with rfl|hy
    ·exact hsx
    ·exact rx hsx (h.1 y hy)
theorem Ok(s:ag):∀(l:List ag) (i:Nat) (out:List ag),A8 (fun i x (out:List ag)=>if Op.bytesLess x s=true then(Sum.inl (out++[x]):List ag⊕(List ag×Nat))else .inr (out,i)) (fun out=>(out,i+l.length)) l i out=(out++l.take (kk s l),i+kk s l)
 |[],i,out=>by simp[A8,kk]
 | x :: l,i,out => by
  have ih:=Ok s l (i+1) (out++[x])
  unfold A8 kk
  by_cases h:Op.bytesLess x s=true
  ·simp only[h,if_true]
   rw[show i+(x::l).length=i+1+l.length by simp;omega,ih]
   simp
   omega
  ·simp[h]
theorem Kz{α σ X Y:Type}(g:X->Y)(f:Nat->α->σ->σ⊕X)(e:σ->X):∀(l:List α) (i:Nat) (s:σ),A8 (fun i x s=>Sum.map id g (f i x s)) (fun s=>g (e s)) l i s=g (A8 f e l i s)
 |[],i,s=>rfl
 |x::l,i,s=>by
  unfold A8
  cases f i x s with
  |inl s'=>exact Kz g f e l (i+1) s'
  |inr y=>rfl
def QB{σ:Type}(y:σ×Nat):σ×Int:=(y.1,(y.2:Int))
theorem Hn(a:List ag)(s:ag)(ha:a.length<=1000000000):C8 a s=some (Ib s a):=by
 unfold C8 Ce
 have:=zB a (by omega) (fun i (out:List ag)=>(out,i)) (fun zz=>pb a s zz.1 zz.2) (fun i out=>out.length=i)
  (fun i x out=>Sum.map id QB (if Op.bytesLess x s=true then(Sum.inl (out++[x]):List ag⊕(List ag×Nat))else .inr (out,i))) (fun out=>QB (out,0+a.length)) (fun i hi out hI=>by
   have hb:qB a s i=some (Op.bytesLess a[i] s):=by
    simp only[qB]
    rw[vav (by simp;omega),dB _ i hi]
    rfl
   refine⟨?_,fun s' hs'=>?_⟩
   ·simp only[pb]
    rw[hb]
    simp only[vab]
    by_cases hl:Op.bytesLess a[i] s=true
    ·rw[vav hl,vav hl,dB _ i hi]
     simp only[vab]
     rw[ij (by simp;omega)]
     rfl
    ·rw[vax hl,vax hl]
     rfl
   ·by_cases hl:Op.bytesLess a[i] s=true
    ·rw[vav hl]at hs';cases hs';simp;omega
    ·rw[vax hl]at hs';cases hs') (fun out _=>by
   have hb:qB a s a.length=some false:=by
    simp only[qB]
    rw[vax (by simp)]
   simp only[pb]
   rw[hb]
   simp[QB]) 0 [] (vaY _) rfl
 simp only[Int.ofNat_zero,vbS]at this
 have hm:=Kz QB (fun i x (out:List ag)=>if Op.bytesLess x s=true then(Sum.inl (out++[x]):List ag⊕(List ag×Nat))else .inr (out,i)) (fun out=>(out,0+a.length)) a 0 []
 rw[this.trans (va3 some hm),Ok s a 0 []]
 simp only[va5,vaI,vab,QB]
 have hk:=Sp s a
 rw[ij (by simp;omega)]
 simp only[vab]
 have hj:xp a s (kk s a)=some ((kk s a+if(a[kk s a]? ==some s)=true then 1 else 0:Nat):Int):=by
  unfold xp Cd
  by_cases hlt:kk s a<a.length
  ·rw[vav (by simp;omega),dB _ _ hlt]
   simp only[vab,vaa hlt]
   have e:(some a[kk s a]==some s)=(a[kk s a]==s):=rfl
   rw[e]
   by_cases h:(a[kk s a]==s)=true
   ·rw[vav h,vav h,cP (by omega) (by omega)]
    rfl
   ·rw[vax h,vax h]
    rfl
  ·have hn:a[kk s a]? =none:=by simp;omega
   rw[vax (by simp;omega),hn]
   rfl
 rw[hj]
 simp only[vab]
 have hle:kk s a+(if(a[kk s a]? ==some s)=true then 1 else 0)<=a.length:=by
  by_cases hlt:kk s a<a.length
  ·split<;>omega
  ·have hn:a[kk s a]? =none:=by simp;omega
   rw[hn]
   simp
   omega
 rw[Q7 a _ hle]
 simp only[vab]
 rw[ij (by simp;omega),Qm]
 simp
theorem CG{α σ:Type}(g:σ->α->σ):∀(l:List α) (i:Nat) (s:σ),A8 (fun _ x s=>(Sum.inl (g s x):σ⊕σ)) (fun s=>s) l i s=l.foldl g s
 |[],i,s=>rfl
 |x::l,i,s=>CG g l (i+1) (g s x)
theorem Co:∀(l out:List ag),MZ out->MZ (l.foldl (fun o x=>Ib x o) out)/\(∀x,x∈l.foldl (fun o x=>Ib x o) out↔x∈out\/x∈l)/\(l.foldl (fun o x=>Ib x o) out).length<=out.length+l.length
 |[],out,h=>⟨h,by simp,by simp⟩
 | y :: l,out,h => by
  obtain⟨h1,h2,h3⟩:=Co l (Ib y out) (N6 y h)
  have:=He y out
  refine⟨h1,fun x=>?_,by simp only[List.foldl_cons,vaQ];omega⟩
  rw[List.foldl_cons,h2,Li,vay]
  constructor
  ·rintro((h|h)|h)<;>simp[h]
  ·rintro(h|h|h)<;>simp[h]
theorem C6(a b:List ag)(ha:a.length<=400000000)(hb:b.length<=400000000):wr a b=some (NQ a b):=by
 unfold wr xm xn
 have t1:=zB a (by omega) (fun i (out:List ag)=>(out,i)) (fun zz=>ma a a.length zz.1 zz.2) (fun i out=>out.length<=i) (fun _ x out=>(Sum.inl (Ib x out):List ag⊕List ag)) (fun o=>o) (fun i hi out hI=>by
   refine⟨?_,fun s' hs'=>?_⟩
   ·simp only[ma]
    rw[vav (by simp;omega),dB _ i hi]
    simp only[vab]
    rw[Hn _ _ (by omega)]
    rfl
   ·cases hs'
    have:=He a[i] out
    omega) (fun out _=>by simp only[ma];rw[vax (by simp)]) 0 [] (vaY _) (vak _)
 simp only[Int.ofNat_zero,vbS]at t1
 rw[CG (fun o x=>Ib x o)]at t1
 obtain⟨f1,f2,f3⟩:=Co a [] (by simp[MZ])
 have t2:=zB b (by omega) (fun i (out:List ag)=>(out,i)) (fun zz=>mc b b.length zz.1 zz.2) (fun i out=>out.length<=400000000+i) (fun _ x out=>(Sum.inl (Ib x out):List ag⊕List ag)) (fun o=>o) (fun i hi out hI=>by
   refine⟨?_,fun s' hs'=>?_⟩
   ·simp only[mc]
    rw[vav (by simp;omega),dB _ i hi]
    simp only[vab]
    rw[Hn _ _ (by omega)]
    rfl
   ·cases hs'
    have:=He b[i] out
    omega) (fun out _=>by simp only[mc];rw[vax (by simp)]) 0 (a.foldl (fun o x=>Ib x o) []) (vaY _) (by simp at f3;omega)
 simp only[Int.ofNat_zero,vbS]at t2
 rw[CG (fun o x=>Ib x o)]at t2
 rw[t1]
 simp only[vab]
 rw[t2]
 simp only[vab,var]
 obtain⟨g1,g2,_⟩:=Co b _ f1
 obtain⟨u1,u2⟩:=IU a b
 refine Cq g1 u1 fun x=>?_
 rw[g2,f2,u2]
 simp
def mD(m:List (ag×Bool))(l:List ag):List (ag×Bool):=l.foldl (fun m x=>wh m x true) m
theorem ml(m:List (ag×Bool))(a b:List ag):mD m (a++b)=mD (mD m a) b:=by unfold mD;rw[vcD]
theorem uc(l:List ag)(m:List (ag×Bool))(hl:l.length<9223372036854775808):eE l m=some (mD m l):=by
 unfold eE
 have h:=f7 l.length (fun zz:Int×(List (ag×Bool))=>eo l (l.length:Int) zz.1 zz.2) (fun i=>((i:Int),mD m (l.take i))) (mD m l) (fun i hi=>?_) ?_
 ·have h':lP l (l.length:Int) 0 m=some (mD m l):=by unfold lP;simpa[mD]using h
  rw[h'];rfl
 ·show eo l (l.length:Int) (i:Int) _=_
  unfold eo
  rw[vav (by simpa using hi),dB _ _ hi,vab,cP (by omega) (by omega),vaw hi,ml]
  rfl
 ·show eo l (l.length:Int) (l.length:Int) _=_
  unfold eo
  rw[vax (by simp),vaL]
theorem Km:lB ([]:List ag)=some []:=by
 unfold lB
 rw[uc _ _ (by simp)];rfl
def pl(m:List (ag×Bool)):List ag:=m.map (·.1)
theorem Mo(k:ag):∀(m:List (ag×Bool)),pl (wh m k true)=if k∈pl m then pl m else pl m++[k]
 |[]=>by simp[wh,pl]
 | e :: r => by
  have ih:=Mo k r
  unfold pl at *
  rw[wh]
  by_cases h:(k==e.1)=true
  ·have h':k=e.1:=by simpa using h
   rw[vav h,vaA,vaA,vav (by rw[h'];simp),h']
  ·have h':¬k=e.1:=by simpa using h
   rw[vax h,vaA,vaA,ih]
   by_cases h2:k∈r.map (·.1)
   ·rw[vav h2,vav (vaM _ h2)]
   ·rw[vax h2,vax (by rw[vay];rintro(h3|h3);exact h' h3;exact h2 h3)]
    rfl
theorem Au:∀(l:List ag) (m:List (ag×Bool)),(pl m).Nodup->(pl (mD m l)).Nodup/\(∀x,x∈pl (mD m l)↔x∈pl m\/x∈l)/\(mD m l).length<=m.length+l.length
 |[],m,h=>⟨h,fun x=>by simp[mD],by simp[mD]⟩
 | k :: l,m,h => by
  have hp:=Mo k m
  have hn:(pl (wh m k true)).Nodup:=by
   rw[hp]
   split
   ·exact h
   ·rename_i hk
    rw[vcc]
    exact⟨h,by simp,fun a ha b hb hab=>by simp at hb;subst hb;subst hab;exact hk ha⟩
  have hlen:(wh m k true).length<=m.length+1:=by
   have:=va3 List.length hp
   unfold pl at this
   rw[va8]at this
   rw[this]
   split<;>simp
  obtain⟨h1,h2,h3⟩:=Au l (wh m k true) hn
  refine⟨h1,fun x=>?_,?_⟩
  ·show x∈pl (mD (wh m k true) l)↔_
   rw[h2,hp]
   split
   ·rename_i hk
    constructor
    ·rintro(h|h)
     ·exact .inl h
     ·exact .inr (vaM _ h)
    ·rintro(h|h)
     ·exact .inl h
     ·rcases vay.1 h with rfl|h
      ·exact .inl hk
      ·exact .inr h
   ·rw[vaB,vbp,vay,or_assoc]
  ·show(mD (wh m k true) l).length<=_
   simp only[vaQ]
   omega
def LE(l:List ag):List ag:=wz (pl (mD [] l))
theorem OV{l:List ag}(h:l.Nodup):MZ (wz l):=by
 have hn:(wz l).Nodup:=(oo l).nodup_iff.2 h
 refine((pk l).and hn).imp ?_
 rintro a b ⟨h1,h2⟩
 show Op.bytesLess a b=true
 cases hb:Op.bytesLess a b with
 |true=>rfl
 |false=>exact absurd (rv hb h1) h2
theorem NP(l:List ag):MZ (LE l)/\∀x,x∈LE l↔x∈l:=by
 obtain⟨h1,h2,_⟩:=Au l [] (by simp[pl])
 refine⟨OV h1,fun x=>?_⟩
 unfold LE
 rw[(oo _).mem_iff,h2]
 simp[pl]
theorem Q5(l:List ag):LE l=NQ l []:=by
 obtain⟨a1,a2⟩:=NP l
 obtain⟨b1,b2⟩:=IU l []
 exact Cq a1 b1 fun x=>by rw[a2,b2];simp
theorem MU(l:List ag):(LE l).length<=l.length:=by
 obtain⟨_,_,h⟩:=Au l [] (by simp[pl])
 unfold LE
 rw[(oo _).length_eq]
 unfold pl
 rw[va8]
 simpa using h
theorem KA(l:List ag)(hl:l.length<=1073741824):qO (mD [] l)=some (LE l):=by
 obtain⟨_,_,h⟩:=Au l [] (by simp[pl])
 unfold qO
 rw[vav (by simp only[van];unfold fh;simp at h;omega)]
 rfl
def zy(e:af):Bool:=e.Op==3||e.Op==5
theorem MY(e:af):eV e=some (zy e):=by
 unfold eV zy
 rw[W5]
def gw(o:Int)(n:ag)(ps:List ay)(later:Bool):List ag:=if(o==7&&later)=true then[n]else if(o==6)=true then ps.map (·.Name)else[]
theorem Kc(e:af)(i:Nat)(hl:e.Params.length<=1073741824):nO e (i:Int)=some (gw e.Op e.Name e.Params (decide (0<i))):=by
 unfold nO qR gw
 rw[SL]
 simp only[vab]
 have h0:decide ((i:Int)>0)=decide (0<i):=by by_cases h:0<i<;>simp[h]
 rw[h0]
 by_cases h1:(e.Op==7&&decide (0<i))=true
 ·rw[vav h1,vav h1]
 ·rw[vax h1,vax h1]
  by_cases h2:(e.Op==6)=true
  ·rw[vav h2,vav h2,P5 _ hl];rfl
  ·rw[vax h2,vax h2]
theorem Ic(o:Int)(n:ag)(ps:List ay)(b:Bool):(gw o n ps b).length<=1+ps.length:=by
 unfold gw
 split
 ·simp
 ·split<;>simp
mutual
def rH(h:List ag):af->List af
 |⟨o,n,k,ks,ps,as1,ts⟩=>(if(zy ⟨o,n,k,ks,ps,as1,ts⟩&&!h.any fun x=>x==n)=true then[⟨o,n,k,ks,ps,as1,ts⟩]else[])++(qd (h++gw o n ps false) (h++gw o n ps true) ks++rG h as1)
def QE(h:List ag):aO->List af
 |⟨_,ns,b⟩=>rH (h++ns) b
def qd(h0 h1:List ag):List af->List af
 |[]=>[]
 |e::l=>rH h0 e++qd h1 h1 l
def rG(h:List ag):List aO->List af
 |[]=>[]
 |a::l=>QE h a++rG h l
end
abbrev wS(h:List ag)(e:af):List af:=if(zy e&&!h.any fun x=>x==e.Name)=true then[e]else[]
theorem Ln(h:List ag)(e:af):rH h e=wS h e++(qd (h++gw e.Op e.Name e.Params false) (h++gw e.Op e.Name e.Params true) e.Kids++rG h e.Alts):=by
 obtain⟨o,n,k,ks,ps,as1,ts⟩:=e
 rw[rH];rfl
theorem RU(h:List ag)(a:aO):QE h a=rH (h++a.Names) a.Body:=by obtain⟨c,ns,b⟩:=a;rw[QE];rfl
theorem AH(h0 h1:List ag):∀(l:List af) (i:Nat) (hi:i<l.length),qd h0 h1 (l.take (i+1))=qd h0 h1 (l.take i)++rH (if 0<i then h1 else h0) l[i]
 |x::l,0,hi=>by simp[qd]
 |x::l,i+1,hi=>by
  have hi':i<l.length:=by simpa using hi
  have ih:=AH h1 h1 l i hi'
  rw[List.take_succ_cons,List.take_succ_cons,qd,qd,ih,ite_self]
  simp
theorem AG(h:List ag):∀(l:List aO) (i:Nat) (hi:i<l.length),rG h (l.take (i+1))=rG h (l.take i)++rH (h++l[i].Names) l[i].Body
 |x::l,0,hi=>by simp[rG,RU]
 |x::l,i+1,hi=>by
  have ih:=AG h l i (by simpa using hi)
  rw[List.take_succ_cons,List.take_succ_cons,rG,rG,ih]
  simp
mutual
theorem wM(h:List ag):∀(e:af),(rH h e).length<=nE e
 |⟨o,n,k,ks,ps,as1,ts⟩=>by
  have h1:=wN (h++gw o n ps false) (h++gw o n ps true) ks
  have h2:=DQ h as1
  rw[rH,nE,vaj,vaj]
  have h3:(if(zy ⟨o,n,k,ks,ps,as1,ts⟩&&!h.any fun x=>x==n)=true then[(⟨o,n,k,ks,ps,as1,ts⟩:af)]else[]).length<=1:=by split<;>simp
  omega
theorem QF(h:List ag):∀(a:aO),(QE h a).length<=nA a
 |⟨c,ns,b⟩=>by
  have h1:=wM (h++ns) b
  rw[QE,nA];omega
theorem wN(h0 h1:List ag):∀(l:List af),(qd h0 h1 l).length<=BF l
 |[]=>by simp[qd]
 |e::l=>by
  have h2:=wM h0 e
  have h3:=wN h1 h1 l
  rw[qd,BF,vaj];omega
theorem DQ(h:List ag):∀(l:List aO),(rG h l).length<=BE l
 |[]=>by simp[rG]
 |a::l=>by
  have h2:=QF h a
  have h3:=DQ h l
  rw[rG,BE,vaj];omega
end
theorem Ms(l:List af)(i:Nat)(hi:i<l.length):BF (l.take (i+1))=BF (l.take i)+nE l[i]:=by
 have key:∀(a b:List af),BF (a++b)=BF a+BF b:=by
  intro a b
  induction a with
  |nil=>simp[BF]
  |cons x a ih=>rw[va1,BF,BF,ih];omega
 rw[vaw hi,key]
 simp[BF]
theorem FV(l:List af)(i:Nat):BF (l.take i)<=BF l:=by
 have:∀(l:List af) (i:Nat),BF (l.take i)<=BF l:=by
  intro l
  induction l with
  |nil=>intro i;simp
  |cons x l ih=>
   intro i
   cases i with
   |zero=>simp[BF]
   |succ i=>have:=ih i;simp only[List.take_succ_cons,BF];omega
 exact this l i
theorem Kj(l:List aO)(i:Nat)(hi:i<l.length):BE (l.take (i+1))=BE (l.take i)+nA l[i]:=by
 have key:∀(a b:List aO),BE (a++b)=BE a+BE b:=by
  intro a b
  induction a with
  |nil=>simp[BE]
  |cons x a ih=>rw[va1,BE,BE,ih];omega
 rw[vaw hi,key]
 simp[BE]
theorem Mv(h:List ag)(e:af)(hh:h.length<9223372036854775808):(eV e).bind (fun r1=>if r1=true then(qF h e.Name).bind fun r4=>some (decide (r4<0))else some false)=some (zy e&&!h.any fun x=>x==e.Name):=by
 rw[MY,JJ _ _ hh]
 simp only[vab,SL,OQ]
theorem O9(e:af)(h:List ag)(m:List (ag×Bool))(hq:h.length+nE e<=1073741824):jc e h m=some (mD m ((rH h e).map (·.Name))):=by
 refine Hd (F:=im) (fun x=>nE x.1) (fun x=>x.2.1.length+nE x.1<=1073741824) (fun x=>mD x.2.2 ((rH x.2.1 x.1).map (·.Name))) (fun R x hx ih=>?_) (e,h,m) hq (zC (by unfold qE;show nE e<=_;omega))
 obtain⟨e,h,m⟩:=x
 have hq:h.length+nE e<=1073741824:=hx
 have hn:=BG e
 have hpos:=Il e
 have lk:=AF e.Kids
 have la:=AE e.Alts
 show fg (fun e hidden k2=>R (e,hidden,k2)) e h m=some (mD m ((rH h e).map (·.Name)))
 unfold fg g6 g7
 rw[Mv h e (by omega)]
 simp only[vab]
 have hs:(if(zy e&&!h.any fun x=>x==e.Name)=true then(rr e m).bind fun r8=>some r8 else some m)=some (mD m ((wS h e).map (·.Name))):=by
  unfold wS
  by_cases hc:(zy e&&!h.any fun x=>x==e.Name)=true
  ·rw[vav hc,vav hc]
   unfold rr
   rw[uc _ _ (by simp)];rfl
  ·rw[vax hc,vax hc];rfl
 rw[hs]
 simp only[vab]
 have g1:∀m0,eT (fun e hidden k2=>R (e,hidden,k2)) h e e.Kids (e.Kids.length:Int) 0 m0=some (mD m0 ((qd (h++gw e.Op e.Name e.Params false) (h++gw e.Op e.Name e.Params true) e.Kids).map (·.Name))):=fun m0=>by
  have g:=f7 e.Kids.length (fun zz:Int×(List (ag×Bool))=>b8 (fun e hidden k2=>R (e,hidden,k2)) h e e.Kids (e.Kids.length:Int) zz.1 zz.2) (fun i=>((i:Int),mD m0 ((qd (h++gw e.Op e.Name e.Params false) (h++gw e.Op e.Name e.Params true) (e.Kids.take i)).map (·.Name)))) (mD m0 ((qd (h++gw e.Op e.Name e.Params false) (h++gw e.Op e.Name e.Params true) e.Kids).map (·.Name))) (fun i hi=>?_) ?_
  ·unfold eT;simpa[mD,qd]using g
  ·have hil:=Ic e.Op e.Name e.Params (decide (0<i))
   have hm:=DE (vaS hi)
   show b8 _ h e e.Kids (e.Kids.length:Int) (i:Int) _=_
   unfold b8
   rw[vav (by simpa using hi),dB _ _ hi,vab,Aw _ (by omega),vab,Kc e i (by omega),vab,ij (by omega),vab]
   show(R _).bind _=_
   rw[ih (e.Kids[i],h++gw e.Op e.Name e.Params (decide (0<i)),_) (Hf (vaS hi)) (by show(h++gw e.Op e.Name e.Params (decide (0<i))).length+nE e.Kids[i]<=1073741824;rw[vaj];omega),vab,AH _ _ _ _ hi,va4,ml,cP (by omega) (by omega)]
   by_cases h0:0<i<;>simp[h0]
  ·show b8 _ h e e.Kids (e.Kids.length:Int) (e.Kids.length:Int) _=_
   unfold b8
   rw[vax (by simp),vaL]
 have g2:∀m0,eU (fun e hidden k2=>R (e,hidden,k2)) h e.Alts (e.Alts.length:Int) 0 m0=some (mD m0 ((rG h e.Alts).map (·.Name))):=fun m0=>by
  have g:=f7 e.Alts.length (fun zz:Int×(List (ag×Bool))=>b9 (fun e hidden k2=>R (e,hidden,k2)) h e.Alts (e.Alts.length:Int) zz.1 zz.2) (fun i=>((i:Int),mD m0 ((rG h (e.Alts.take i)).map (·.Name)))) (mD m0 ((rG h e.Alts).map (·.Name))) (fun i hi=>?_) ?_
  ·unfold eU;simpa[mD,rG]using g
  ·have hm:=DD (vaS hi)
   have hma:=Kk e.Alts[i]
   show b9 _ h e.Alts (e.Alts.length:Int) (i:Int) _=_
   unfold b9
   rw[vav (by simpa using hi),dB _ _ hi,vab,Aw _ (by omega),vab,ij (by omega),vab]
   show(R _).bind _=_
   rw[ih (e.Alts[i].Body,h++e.Alts[i].Names,_) (G6 (vaS hi)) (by show(h++e.Alts[i].Names).length+nE e.Alts[i].Body<=1073741824;rw[vaj];omega),vab,AG _ _ _ hi,va4,ml,cP (by omega) (by omega)]
   rfl
  ·show b9 _ h e.Alts (e.Alts.length:Int) (e.Alts.length:Int) _=_
   unfold b9
   rw[vax (by simp),vaL]
 rw[g1]
 simp only[vab]
 rw[g2]
 simp only[vab]
 rw[Ln,va4,va4,ml,ml]
def H5(e:af):List ag:=(rH [] e).map (·.Name)
theorem EK(e:af):(H5 e).length<=nE e:=by unfold H5;rw[va8];exact wM [] e
theorem QJ(e:af)(he:nE e<=qE):oN e=some (LE (H5 e)):=by
 have hB:nE e<=1073741824:=he
 have hl:=EK e
 unfold oN
 rw[Km]
 simp only[vab]
 rw[O9 e [] [] (by simpa using hB)]
 simp only[vab]
 rw[show(rH [] e).map (·.Name)=H5 e from rfl,KA _ (by omega)]
 rfl
def jv(b:Bool)(l:List af):List ag:=(l.filter fun x=>!b||x.Op==5).map (·.Name)
theorem ko(b:Bool)(l m:List af):jv b (l++m)=jv b l++jv b m:=by unfold jv;rw[List.filter_append,va4]
theorem mq(b:Bool)(l:List af):(jv b l).length<=l.length:=by unfold jv;rw[va8];exact vcu _ _
theorem QC(l:List af):jv false l=l.map (·.Name):=by
 unfold jv
 rw[show(l.filter fun x=>!false||x.Op==5)=l from vbZ.2 (fun _ _=>rfl)]
theorem NB(e:af)(h:List ag)(m:List ag)(hq:h.length+nE e<=1073741824)(hm:m.length+nE e<=1073741824):iR e h m=some (m++jv true (rH h e)):=by
 refine Hd (F:=g5) (fun x=>nE x.1) (fun x=>x.2.1.length+nE x.1<=1073741824/\x.2.2.length+nE x.1<=1073741824) (fun x=>x.2.2++jv true (rH x.2.1 x.1)) (fun R x hx ih=>?_) (e,h,m) ⟨hq,hm⟩ (zC (by unfold qE;show nE e<=_;omega))
 obtain⟨e,h,m⟩:=x
 have hq:h.length+nE e<=1073741824:=hx.1
 have hm:m.length+nE e<=1073741824:=hx.2
 have hn:=BG e
 have hpos:=Il e
 have lk:=AF e.Kids
 have la:=AE e.Alts
 show eR (fun e hidden k0=>R (e,hidden,k0)) e h m=some (m++jv true (rH h e))
 unfold eR gJ gK
 rw[Mv h e (by omega)]
 simp only[vab]
 have hs:(if(zy e&&!h.any fun x=>x==e.Name)=true then(pG e m).bind fun r8=>some r8 else some m)=some (m++jv true (wS h e)):=by
  unfold wS
  by_cases hc:(zy e&&!h.any fun x=>x==e.Name)=true
  ·rw[vav hc,vav hc]
   unfold pG
   by_cases h5:(e.Op==5)=true
   ·rw[vav h5,ij (by simp;omega)];simp[jv,h5]
   ·rw[vax h5];simp[jv,h5]
  ·rw[vax hc,vax hc];simp[jv]
 rw[hs]
 simp only[vab]
 have g1:∀m0:List ag,m0.length+BF e.Kids<=1073741824->eu (fun e hidden k0=>R (e,hidden,k0)) h e e.Kids (e.Kids.length:Int) 0 m0=some (m0++jv true (qd (h++gw e.Op e.Name e.Params false) (h++gw e.Op e.Name e.Params true) e.Kids)):=fun m0 hm0=>by
  have g:=f7 e.Kids.length (fun zz:Int×(List ag)=>bT (fun e hidden k0=>R (e,hidden,k0)) h e e.Kids (e.Kids.length:Int) zz.1 zz.2) (fun i=>((i:Int),m0++jv true (qd (h++gw e.Op e.Name e.Params false) (h++gw e.Op e.Name e.Params true) (e.Kids.take i)))) (m0++jv true (qd (h++gw e.Op e.Name e.Params false) (h++gw e.Op e.Name e.Params true) e.Kids)) (fun i hi=>?_) ?_
  ·unfold eu;simpa[jv,qd]using g
  ·have hil:=Ic e.Op e.Name e.Params (decide (0<i))
   have hm:=DE (vaS hi)
   have ht:=Ms e.Kids i hi
   have ht2:=FV e.Kids (i+1)
   have hol:=wN (h++gw e.Op e.Name e.Params false) (h++gw e.Op e.Name e.Params true) (e.Kids.take i)
   have hnl:=mq true (qd (h++gw e.Op e.Name e.Params false) (h++gw e.Op e.Name e.Params true) (e.Kids.take i))
   show bT _ h e e.Kids (e.Kids.length:Int) (i:Int) _=_
   unfold bT
   rw[vav (by simpa using hi),dB _ _ hi,vab,Aw _ (by omega),vab,Kc e i (by omega),vab,ij (by omega),vab]
   show(R _).bind _=_
   rw[ih (e.Kids[i],h++gw e.Op e.Name e.Params (decide (0<i)),_) (Hf (vaS hi)) ⟨by show(h++gw e.Op e.Name e.Params (decide (0<i))).length+nE e.Kids[i]<=1073741824;rw[vaj];omega,by show(m0++jv true (qd _ _ (e.Kids.take i))).length+nE e.Kids[i]<=1073741824;rw[vaj];omega⟩,vab,AH _ _ _ _ hi,ko,cP (by omega) (by omega)]
   by_cases h0:0<i<;>simp[h0]
  ·show bT _ h e e.Kids (e.Kids.length:Int) (e.Kids.length:Int) _=_
   unfold bT
   rw[vax (by simp),vaL]
 have g2:∀m0:List ag,m0.length+BE e.Alts<=1073741824->ew (fun e hidden k0=>R (e,hidden,k0)) h e.Alts (e.Alts.length:Int) 0 m0=some (m0++jv true (rG h e.Alts)):=fun m0 hm0=>by
  have g:=f7 e.Alts.length (fun zz:Int×(List ag)=>bU (fun e hidden k0=>R (e,hidden,k0)) h e.Alts (e.Alts.length:Int) zz.1 zz.2) (fun i=>((i:Int),m0++jv true (rG h (e.Alts.take i)))) (m0++jv true (rG h e.Alts)) (fun i hi=>?_) ?_
  ·unfold ew;simpa[jv,rG]using g
  ·have hm:=DD (vaS hi)
   have hma:=Kk e.Alts[i]
   have ht:=Kj e.Alts i hi
   have ht2:=Mr e.Alts (i+1)
   have hol:=DQ h (e.Alts.take i)
   have hnl:=mq true (rG h (e.Alts.take i))
   show bU _ h e.Alts (e.Alts.length:Int) (i:Int) _=_
   unfold bU
   rw[vav (by simpa using hi),dB _ _ hi,vab,Aw _ (by omega),vab,ij (by omega),vab]
   show(R _).bind _=_
   rw[ih (e.Alts[i].Body,h++e.Alts[i].Names,_) (G6 (vaS hi)) ⟨by show(h++e.Alts[i].Names).length+nE e.Alts[i].Body<=1073741824;rw[vaj];omega,by show(m0++jv true (rG h (e.Alts.take i))).length+nE e.Alts[i].Body<=1073741824;rw[vaj];omega⟩,vab,AG _ _ _ hi,ko,cP (by omega) (by omega)]
   simp
  ·show bU _ h e.Alts (e.Alts.length:Int) (e.Alts.length:Int) _=_
   unfold bU
   rw[vax (by simp),vaL]
 have hsl:=mq true (wS h e)
 have hsl2:(wS h e).length<=1:=by unfold wS;split<;>simp
 have hol:=wN (h++gw e.Op e.Name e.Params false) (h++gw e.Op e.Name e.Params true) e.Kids
 have hnl:=mq true (qd (h++gw e.Op e.Name e.Params false) (h++gw e.Op e.Name e.Params true) e.Kids)
 rw[g1 _ (by rw[vaj];omega)]
 simp only[vab]
 rw[g2 _ (by rw[vaj,vaj];omega)]
 simp only[vab]
 rw[Ln,ko,ko,vbk,vbk]
theorem Ra(e:af)(h:List ag)(i:Nat)(hl:h.length+e.Params.length+1<=1073741824):Aq e (i:Int) h=some (h++gw e.Op e.Name e.Params (decide (0<i))):=by
 unfold Aq xD xE
 rw[ij (by simp;omega)]
 simp only[vab,SL,va5]
 have h0:decide ((i:Int)>0)=decide (0<i):=by by_cases h:0<i<;>simp[h]
 rw[h0]
 have key:∀out:List ag,out.length+e.Params.length<=1073741824->sZ e out 0=some (out++if(e.Op==6)=true then e.Params.map (·.Name)else[]):=fun out ho=>by
  unfold sZ
  by_cases h6:(e.Op==6)=true
  ·have g:=f7 e.Params.length (fun zz:(List ag)×Int=>fo e zz.1 zz.2) (fun k=>(out++(e.Params.take k).map (·.Name),(k:Int))) (out++e.Params.map (·.Name)) (fun k hk=>?_) ?_
   ·rw[vav h6];simpa using g
   ·show fo e _ (k:Int)=_
    unfold fo pd
    rw[vav (by simpa using hk)]
    simp only[vab]
    rw[vav h6,dB _ _ hk,vab,ij (by simp;omega),vab,cP (by omega) (by omega),vaw hk,va4,<-vbk]
    rfl
   ·show fo e _ (e.Params.length:Int)=_
    unfold fo pd
    rw[vax (by simp),vaL]
    simp
  ·have h6':(e.Op==6)=false:=by simpa using h6
   rw[vax h6,vbh]
   refine Kh ?_
   show fo e out 0=_
   unfold fo pd
   rw[h6',ite_self]
   simp
 unfold gw
 by_cases h1:(e.Op==7&&decide (0<i))=true
 ·have h6:(e.Op==6)=false:=by
   simp only[vae,vaX]at h1
   rw[beq_eq_false_iff_ne];omega
  rw[vav h1,vav h1,ij (by simp;omega)]
  simp only[vab]
  rw[key _ (by simp;omega),h6]
  simp
 ·rw[vax h1,vax h1]
  simp only[vab]
  rw[key _ (by omega)]
  rfl
theorem Kx(b:Bool)(e:af)(h:List ag)(hq:h.length+nE e<=1073741824):Dd e h b=some (jv b (rH h e)):=by
 refine Hd (F:=Ci) (fun x=>nE x.1) (fun x=>x.2.1.length+nE x.1<=1073741824) (fun x=>jv x.2.2 (rH x.2.1 x.1)) (fun R x hx ih=>?_) (e,h,b) hq (zC (by unfold qE;show nE e<=_;omega))
 obtain⟨e,h,b⟩:=x
 have hq:h.length+nE e<=1073741824:=hx
 have hn:=BG e
 have hpos:=Il e
 have lk:=AF e.Kids
 have la:=AE e.Alts
 show xx (fun e bound calls=>R (e,bound,calls)) e h b=some (jv b (rH h e))
 have hJ1:uT h b e=some (jv b (wS h e)):=by
  unfold uT zd G5
  rw[LN _ _ (by omega)]
  simp only[vab,Dz]
  rw[ij (by simp)]
  unfold wS zy
  generalize (h.any fun k=>k==e.Name)=a
  by_cases h5:(e.Op==5)=true
  ·have h3:(e.Op==3)=false:=by rw[beq_eq_false_iff_ne];rw[vaX]at h5;omega
   cases a<;>cases b<;>simp[jv,h5,h3]
  ·by_cases h3:(e.Op==3)=true
   ·cases a<;>cases b<;>simp[jv,h5,h3]
   ·simp[jv,h5,h3]
 unfold xx
 rw[hJ1]
 simp only[vab]
 have g1:∀m0:List ag,m0.length+BF e.Kids<=1073741824->uU (fun e bound calls=>R (e,bound,calls)) h b e m0 0=some (m0++jv b (qd (h++gw e.Op e.Name e.Params false) (h++gw e.Op e.Name e.Params true) e.Kids)):=fun m0 hm0=>by
  have g:=f7 e.Kids.length (fun zz:(List ag)×Int=>jJ (fun e bound calls=>R (e,bound,calls)) h b e zz.1 zz.2) (fun i=>(m0++jv b (qd (h++gw e.Op e.Name e.Params false) (h++gw e.Op e.Name e.Params true) (e.Kids.take i)),(i:Int))) (m0++jv b (qd (h++gw e.Op e.Name e.Params false) (h++gw e.Op e.Name e.Params true) e.Kids)) (fun i hi=>?_) ?_
  ·unfold uU;simpa[jv,qd]using g
  ·have hil:=Ic e.Op e.Name e.Params (decide (0<i))
   have hm:=DE (vaS hi)
   have ht:=Ms e.Kids i hi
   have ht2:=FV e.Kids (i+1)
   have hol:=wN (h++gw e.Op e.Name e.Params false) (h++gw e.Op e.Name e.Params true) (e.Kids.take i)
   have hnl:=mq b (qd (h++gw e.Op e.Name e.Params false) (h++gw e.Op e.Name e.Params true) (e.Kids.take i))
   show jJ _ h b e _ (i:Int)=_
   unfold jJ
   rw[vav (by simpa using hi),dB _ _ hi,vab,Ra e h i (by omega),vab]
   show(R _).bind _=_
   rw[ih (e.Kids[i],h++gw e.Op e.Name e.Params (decide (0<i)),b) (Hf (vaS hi)) (by show(h++gw e.Op e.Name e.Params (decide (0<i))).length+nE e.Kids[i]<=1073741824;rw[vaj];omega),vab,AH _ _ _ _ hi,ko,cP (by omega) (by omega)]
   have hxl:(jv b (rH (h++gw e.Op e.Name e.Params (decide (0<i))) e.Kids[i])).length<=nE e.Kids[i]:=vaC (mq b _) (wM _ _)
   rw[ij (by simp only[vaj];omega)]
   by_cases h0:0<i<;>simp[h0]
  ·show jJ _ h b e _ (e.Kids.length:Int)=_
   unfold jJ
   rw[vax (by simp),vaL]
 have g2:∀m0:List ag,m0.length+BE e.Alts<=1073741824->uV (fun e bound calls=>R (e,bound,calls)) h b e m0 0=some (m0++jv b (rG h e.Alts)):=fun m0 hm0=>by
  have g:=f7 e.Alts.length (fun zz:(List ag)×Int=>jK (fun e bound calls=>R (e,bound,calls)) h b e zz.1 zz.2) (fun i=>(m0++jv b (rG h (e.Alts.take i)),(i:Int))) (m0++jv b (rG h e.Alts)) (fun i hi=>?_) ?_
  ·unfold uV;simpa[jv,rG]using g
  ·have hm:=DD (vaS hi)
   have hma:=Kk e.Alts[i]
   have ht:=Kj e.Alts i hi
   have ht2:=Mr e.Alts (i+1)
   have hol:=DQ h (e.Alts.take i)
   have hnl:=mq b (rG h (e.Alts.take i))
   show jK _ h b e _ (i:Int)=_
   unfold jK
   rw[vav (by simpa using hi),ij (by simp;omega),vab,dB _ _ hi,vab,ij (by simp only[va5];omega),vab]
   simp only[vab,va5]
   show(R _).bind _=_
   rw[ih (e.Alts[i].Body,h++e.Alts[i].Names,b) (G6 (vaS hi)) (by show(h++e.Alts[i].Names).length+nE e.Alts[i].Body<=1073741824;rw[vaj];omega),vab,AG _ _ _ hi,ko,cP (by omega) (by omega)]
   have hxl:(jv b (rH (h++e.Alts[i].Names) e.Alts[i].Body)).length<=nE e.Alts[i].Body:=vaC (mq b _) (wM _ _)
   rw[ij (by simp only[vaj];omega)]
   simp
  ·show jK _ h b e _ (e.Alts.length:Int)=_
   unfold jK
   rw[vax (by simp),vaL]
 have hsl:=mq b (wS h e)
 have hsl2:(wS h e).length<=1:=by unfold wS;split<;>simp
 have hol:=wN (h++gw e.Op e.Name e.Params false) (h++gw e.Op e.Name e.Params true) e.Kids
 have hnl:=mq b (qd (h++gw e.Op e.Name e.Params false) (h++gw e.Op e.Name e.Params true) e.Kids)
 rw[g1 _ (by omega)]
 simp only[vab]
 rw[g2 _ (by rw[vaj];omega)]
 simp only[vab]
 rw[Ln,ko,ko,vbk]
theorem Q0(e:af)(he:nE e<=400000000):Da e=some (NQ (H5 e) []):=by
 unfold Da
 rw[Kx false e [] (by simp;omega),QC]
 simp only[vab]
 have hl:=EK e
 rw[show(rH [] e).map (·.Name)=H5 e from rfl,C6 _ _ (by omega) (by simp)]
 rfl
theorem O8(e:af)(he:nE e<=qE):ti e=some (jv true (rH [] e)):=by
 have hB:nE e<=1073741824:=he
 unfold ti
 rw[NB e [] [] (by simpa using hB) (by simpa using hB)]
 rfl
theorem Pn(e:af)(he:nE e<=qE):An e=some (jv true (rH [] e)):=by
 have hB:nE e<=1073741824:=he
 unfold An
 rw[Kx true e [] (by simpa using hB)]
 rfl
def Ds(e:af):List ag:=(if(e.Op==4)=true then[e.Name]else[])++e.Alts.map (·.Con)
def pe(e:af):List ag:=(lD e).flatMap Ds
theorem L7(e:af):pe e=Ds e++(eg e).flatMap pe:=by
 unfold pe
 rw[E3,vbF,List.flatMap_assoc]
theorem Ay:∀(e:af),(pe e).length<=nE e:=by
 refine Sm fun e ih=>?_
 have h1:=BG e
 have h2:(Ds e).length<=e.Alts.length+1:=by
  unfold Ds
  rw[vaj,va8]
  have:(if(e.Op==4)=true then[e.Name]else[]).length<=1:=by split<;>simp
  omega
 have h3:∀(l:List af),(∀x∈l,(pe x).length<=nE x)->(l.flatMap pe).length<=BF l:=by
  intro l
  induction l with
  |nil=>intro _;simp
  |cons x l ihl=>
   intro hx
   have a:=hx x (by simp)
   have b:=ihl fun y hy=>hx y (by simp[hy])
   rw[vbF,vaj,BF];omega
 have h4:∀(l:List aO),(∀x∈l,(pe x.Body).length<=nE x.Body)->((l.map (·.Body)).flatMap pe).length+l.length<=BE l:=by
  intro l
  induction l with
  |nil=>intro _;simp
  |cons x l ihl=>
   intro hx
   have a:=hx x (by simp)
   have b:=ihl fun y hy=>hx y (by simp[hy])
   have c:=Kk x
   rw[vaA,vbF,vaj,BE,vaQ];omega
 have h5:=h3 e.Kids fun x hx=>ih x (vaB.2 (.inl hx))
 have h6:=h4 e.Alts fun x hx=>ih x.Body (vaB.2 (.inr (vah.2 ⟨x,hx,rfl⟩)))
 rw[L7,vaj,eg,vbJ,vaj]
 omega
theorem PP(x:af)(m:List (ag×Bool))(hx:nE x<=1073741824):lA x m=some (true,mD m (Ds x)):=by
 have l2:=EF x
 unfold lA qQ Ds
 rw[GI _ (by omega)]
 by_cases h4:(x.Op==4)=true
 ·rw[vav h4,vav h4,uc _ _ (by simp)]
  simp only[vab]
  rw[uc _ _ (by simp;omega),ml];rfl
 ·rw[vax h4,vax h4]
  simp only[vab,va5]
  rw[uc _ _ (by simp;omega)];rfl
theorem QI(e:af)(he:Uy e):vE e=some (LE (pe e)):=by
 have hB:nE e<=1073741824:=Ko he
 have hl:=Ay e
 unfold vE
 rw[Km]
 simp only[vab]
 rw[I6 e [] (Ko he),Ka (fun m x=>mD m (Ds x)) (lD e) [] (fun x hx m=>PP x m (Ko (QG he hx)))]
 simp only[vab]
 have:∀(l:List af) (m:List (ag×Bool)),l.foldl (fun m x=>mD m (Ds x)) m=mD m (l.flatMap Ds):=by
  intro l
  induction l with
  |nil=>intro m;rfl
  |cons x l ih=>intro m;rw[List.foldl_cons,ih,vbF,ml]
 rw[this,show(lD e).flatMap Ds=pe e from rfl,KA _ (by omega)]
 rfl
theorem OR(f:af->List ag)(l:List af)(i:Nat)(h:i<l.length):(l.take (i+1)).flatMap f=(l.take i).flatMap f++f l[i]:=by
 rw[vaw h,vbJ];simp
theorem JG(f:af->List ag)(l:List af)(i:Nat):((l.take i).flatMap f).length<=(l.flatMap f).length:=by
 have e1:l.take i++l.drop i=l:=vcp i l
 have:(l.flatMap f).length=((l.take i).flatMap f).length+((l.drop i).flatMap f).length:=by rw[<-vaj,<-vbJ,e1]
 omega
theorem Q2(e:af)(he:nE e<=qE):HG e=some (pe e):=by
 refine Hd (F:=Ch) nE (fun x=>nE x<=qE) pe (fun R e he ih=>?_) e he (zC he)
 have hB:nE e<=1073741824:=he
 have hl:=Ay e
 have l2:=EF e
 have hbl:=FI e
 have hce:=L7 e
 have hcl:=va3 List.length hce
 rw[vaj]at hcl
 show xw (fun e=>R e) e=_
 have hJ:uQ e=some (if(e.Op==4)=true then[e.Name]else[]):=by
  unfold uQ
  by_cases h4:(e.Op==4)=true
  ·rw[vav h4,vav h4,ij (by simp)];rfl
  ·rw[vax h4,vax h4]
 unfold xw
 rw[hJ]
 simp only[vab]
 have h1:uR e (if(e.Op==4)=true then[e.Name]else[]) 0=some (Ds e):=by
  have h0:(if(e.Op==4)=true then[e.Name]else[]).length<=1:=by split<;>simp
  have g:=f7 e.Alts.length (fun zz:(List ag)×Int=>jH e zz.1 zz.2) (fun i=>((if(e.Op==4)=true then[e.Name]else[])++(e.Alts.take i).map (·.Con),(i:Int))) (Ds e) (fun i hi=>?_) ?_
  ·unfold uR;simpa using g
  ·show jH e _ (i:Int)=_
   unfold jH
   rw[vav (by simpa using hi),dB _ _ hi,vab,ij (by simp only[vaj,va8,vbd,List.length_singleton];omega),vab,cP (by omega) (by omega),vaw hi,va4,<-vbk]
   rfl
  ·show jH e _ (e.Alts.length:Int)=_
   unfold jH
   rw[vax (by simp),vaL];rfl
 rw[h1]
 simp only[vab]
 rw[OI e he]
 simp only[vab]
 have g:=f7 (eg e).length (fun zz:(List ag)×Int=>jI (fun e=>R e) (eg e) zz.1 zz.2) (fun i=>(Ds e++((eg e).take i).flatMap pe,(i:Int))) (pe e) (fun i hi=>?_) ?_
 ·have h':uS (fun e=>R e) (eg e) (Ds e) 0=some (pe e):=by unfold uS;simpa using g
  rw[h'];rfl
 ·have hm:(eg e)[i]∈eg e:=vaS hi
  have hlt:=KZ hm
  have ht:=OR pe (eg e) i hi
  have ht2:=JG pe (eg e) (i+1)
  have ht3:=va3 List.length ht
  rw[vaj]at ht3
  show jI (fun e=>R e) (eg e) _ (i:Int)=_
  unfold jI
  rw[vav (by simpa using hi),dB _ _ hi,vab]
  show(R _).bind _=_
  rw[ih _ hlt (by unfold qE;omega),vab,ij (by simp only[vaj];omega),vab,cP (by omega) (by omega),ht,<-vbk]
  rfl
 ·show jI (fun e=>R e) (eg e) _ ((eg e).length:Int)=_
  unfold jI
  rw[vax (by simp),vaL,<-hce]
theorem QZ(e:af)(he:nE e<=400000000):C9 e=some (NQ (pe e) []):=by
 unfold C9
 have hl:=Ay e
 rw[Q2 e (by unfold qE;omega)]
 simp only[vab]
 rw[C6 _ _ (by omega) (by simp)]
 rfl
set_option maxRecDepth 100000
theorem M3:Ar=some true:=by kernel_rfl
theorem NF(x0:af)(h:kQ (ac x0)+0<=1048576):rV x0=some true:=by
 have h0:Uy x0:=by show _<=1073741824;omega
 have hn:=Ob x0
 have hf:=EK x0
 have hc:=Ay x0
 have hol:=wM [] x0
 have hcl:=mq true (rH [] x0)
 have hs1:=MU (H5 x0)
 have hs2:=MU (pe x0)
 obtain⟨b0,s0,_⟩:=Pt x0 (by unfold Et;omega)
 unfold rV
 rw[s0,QJ x0 (Ko h0),Q0 x0 (by omega),O8 x0 (Ko h0),Pn x0 (Ko h0),QI x0 h0,QZ x0 (by omega),M3,<-Q5,<-Q5]
 simp only[vab]
 rw[Fd (by unfold qE;omega),Fd (by unfold qE;omega),Fd (by unfold qE;omega)]
 cases b0<;>simp
end Go.Proofs.YtkdahfeiedaahaaGreatDoor
