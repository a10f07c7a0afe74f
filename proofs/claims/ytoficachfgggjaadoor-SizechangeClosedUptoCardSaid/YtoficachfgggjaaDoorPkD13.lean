/- PROVED: a part of the proof. Conditions: none. -/
import Derived.Test.YtoficachfgggjaaDoorPkD12
import Derived.Test.YtoficachfgggjaaDoorPkD7
noncomputable section
namespace Go.Proofs.YtoficachfgggjaaDoor
open Go
set_option linter.unusedSimpArgs false
set_option linter.unusedVariables false
structure TO{α:Type}(c:α->α->Int):Prop where
 rng:∀x y,c x y= -1\/c x y=0\/c x y=1
 eq:∀x y,c x y=0↔x=y
 sym:∀x y,c y x= - c x y
 tr:∀x y z,c x y<0->c y z<0->c x z<0
theorem TO.lex{α β γ:Type}{c:α->α->Int}{d:β->β->Int}(hc:TO c)(hd:TO d)(f:γ->α)(g:γ->β)(hfg:∀x y,f x=f y->g x=g y->x=y):TO (fun x y=>if c (f x) (f y)≠0 then c (f x) (f y)else d (g x) (g y)) where
 rng:=fun x y=>by
  split
  ·exact hc.rng _ _
  ·exact hd.rng _ _
 eq:=fun x y=>by
  by_cases h:c (f x) (f y)=0
  ·rw[vag (by simp[h])]
   exact(hd.eq _ _).trans ⟨fun e=>hfg x y ((hc.eq _ _).1 h) e,fun e=>by rw[e]⟩
  ·rw[vae h]
   exact⟨fun e=>absurd e h,fun e=>by rw[e];exact(hc.eq _ _).2 rfl⟩
 sym:=fun x y=>by
  rw[hc.sym (f x) (f y),hd.sym (g x) (g y)]
  by_cases h:c (f x) (f y)=0
  ·rw[vag (by omega),vag (by omega)]
  ·rw[vae (by omega),vae (by omega)]
 tr:=fun x y z h1 h2=>by
  by_cases a:c (f x) (f y)=0
  ·rw[vag (by omega)]at h1
   have e:=(hc.eq _ _).1 a
   rw[e]
   by_cases b:c (f y) (f z)=0
   ·rw[vag (by omega)]at h2 ⊢
    exact hd.tr _ _ _ h1 h2
   ·rw[vae b]at h2 ⊢
    exact h2
  ·rw[vae a]at h1
   by_cases b:c (f y) (f z)=0
   ·have e:=(hc.eq _ _).1 b
    rw[<-e,vae a];exact h1
   ·rw[vae b]at h2
    have:=hc.tr _ _ _ h1 h2
    rw[vae (by omega)];exact this
def xl(a b:Int):Int:=if a<b then -1 else if a>b then 1 else 0
theorem vo:TO xl where
 rng:=fun x y=>by unfold xl;(repeat' split)<;>omega
 eq:=fun x y=>by unfold xl;(repeat' split)<;>omega
 sym:=fun x y=>by unfold xl;(repeat' split)<;>omega
 tr:=fun x y z=>by unfold xl;(repeat' split)<;>omega
def q9(a b:ah):Int:=if Op.bytesLess a b=true then -1 else if a=b then 0 else 1
theorem ta:TO q9 where
 rng:=fun x y=>by unfold q9;(repeat' split)<;>simp
 eq:=fun x y=>by
  unfold q9
  split
  ·rename_i h
   refine⟨fun e=>by omega,fun e=>?_⟩
   subst e;rw[ql]at h;cases h
  ·split
   ·rename_i h;simp[h]
   ·rename_i h;simp[h]
 sym:=fun x y=>by
  unfold q9
  by_cases h1:Op.bytesLess x y=true
  ·have h2:¬Op.bytesLess y x=true:=fun h=>by
    have:=vj h1 h
    unfold E4 at this
    rw[ql]at this;cases this
   have h3:¬y=x:=fun e=>by subst e;rw[ql]at h1;cases h1
   rw[vae h1,vag h2,vag h3];rfl
  ·by_cases h2:Op.bytesLess y x=true
   ·have h3:¬x=y:=fun e=>by subst e;exact h1 h2
    rw[vag h1,vae h2,vag h3];
   ·have h3:=y9 (by simpa using h1) (by simpa using h2)
    subst h3
    rw[vag h1,vae rfl];rfl
 tr:=fun x y z h1 h2=>by
  have key:∀a b,q9 a b<0->Op.bytesLess a b=true:=fun a b h=>by
   unfold q9 at h
   split at h
   ·assumption
   ·split at h<;>omega
  have:=vj (key _ _ h1) (key _ _ h2)
  unfold q9
  rw[vae this];decide
def wP(b:Bool):Int:=if b=true then 1 else 0
def zH(x y:ag):Int:=if xl x.To y.To≠0 then xl x.To y.To else xl (wP x.Strict) (wP y.Strict)
def ko(x y:ag):Int:=if xl x.From y.From≠0 then xl x.From y.From else zH x y
theorem D3:TO (fun x y:Bool=>xl (wP x) (wP y)) where
 rng:=fun x y=>vo.rng _ _
 eq:=fun x y=>by cases x<;>cases y<;>decide
 sym:=fun x y=>vo.sym _ _
 tr:=fun x y z=>vo.tr _ _ _
theorem oD:TO ko:=by
 have h2:TO (fun p q:Int×Bool=>if xl p.1 q.1≠0 then xl p.1 q.1 else(fun x y:Bool=>xl (wP x) (wP y)) p.2 q.2):=TO.lex vo D3 (fun p:Int×Bool=>p.1) (fun p=>p.2) (fun x y h1 h2=>Prod.ext h1 h2)
 have h3:=TO.lex (γ:=ag) vo h2 (fun x=>x.From) (fun x=>(x.To,x.Strict)) (fun x y h1 h2=>by
  obtain⟨a,b,c⟩:=x
  obtain⟨d,e,f⟩:=y
  simp only at h1 h2
  cases h1;cases h2;rfl)
 exact h3
def eP:List ag->List ag->Int
 |[],[]=>0
 |[],_::_=>-1
 |_::_,[]=>1
 |x::r,y::s=>if ko x y≠0 then ko x y else eP r s
theorem zi:∀x y,eP x y= -1\/eP x y=0\/eP x y=1
 |[],[]=>by simp[eP]
 |[],_::_=>by simp[eP]
 |_::_,[]=>by simp[eP]
 | x :: r,y :: s => by
  unfold eP
  split
  ·exact oD.rng _ _
  ·exact zi r s
theorem Bh:∀x y,eP x y=0↔x=y
 |[],[]=>by simp[eP]
 |[],_::_=>by simp[eP]
 |_::_,[]=>by simp[eP]
 | x :: r,y :: s => by
  unfold eP
  by_cases h:ko x y=0
  ·rw[vag (by omega),Bh r s,(oD.eq x y).1 h];simp
  ·rw[vae h]
   refine⟨fun e=>absurd e h,fun e=>?_⟩
   have:x=y:=by have:=(List.cons.inj e).1;exact this
   exact(oD.eq x y).2 this
theorem zj:∀x y,eP y x= - eP x y
 |[],[]=>by simp[eP]
 |[],_::_=>by simp[eP]
 |_::_,[]=>by simp[eP]
 | x :: r,y :: s => by
  unfold eP
  rw[oD.sym x y,zj r s]
  by_cases h:ko x y=0
  ·rw[vag (by omega),vag (by omega)]
  ·rw[vae (by omega),vae (by omega)]
theorem Bi:∀x y z,eP x y<0->eP y z<0->eP x z<0
 |[],[],_,h,_=>by simp[eP]at h
 |[],_::_,[],_,h=>by simp[eP]at h
 |[],_::_,_::_,_,_=>by simp[eP]
 |_::_,[],_,h,_=>by simp[eP]at h
 |_::_,_::_,[],_,h=>by simp[eP]at h
 | x :: r,y :: s,z :: t,h1,h2 => by
  unfold eP at h1 h2 ⊢
  by_cases a:ko x y=0
  ·rw[vag (by omega)]at h1
   have e:=(oD.eq _ _).1 a
   rw[e]
   by_cases b:ko y z=0
   ·rw[vag (by omega)]at h2 ⊢
    exact Bi r s t h1 h2
   ·rw[vae b]at h2 ⊢
    exact h2
  ·rw[vae a]at h1
   by_cases b:ko y z=0
   ·have e:=(oD.eq _ _).1 b
    rw[<-e,vae a];exact h1
   ·rw[vae b]at h2
    have:=oD.tr _ _ _ h1 h2
    rw[vae (by omega)];exact this
theorem D5:TO eP:=⟨zi,Bh,zj,Bi⟩
def zh(a b:aa):Int:=if q9 a.Caller b.Caller≠0 then q9 a.Caller b.Caller else if q9 a.Callee b.Callee≠0 then q9 a.Callee b.Callee else eP a.Arcs b.Arcs
theorem jR:TO zh:=by
 have h2:TO (fun p q:ah×List ag=>if q9 p.1 q.1≠0 then q9 p.1 q.1 else eP p.2 q.2):=TO.lex ta D5 (fun p:ah×List ag=>p.1) (fun p=>p.2) (fun x y h1 h2=>Prod.ext h1 h2)
 have h3:=TO.lex (γ:=aa) ta h2 (fun x=>x.Caller) (fun x=>(x.Callee,x.Arcs)) (fun x y h1 h2=>by
  obtain⟨a,b,c⟩:=x
  obtain⟨d,e,f⟩:=y
  simp only at h1 h2
  cases h1;cases h2;rfl)
 exact h3
theorem pn(a b:Int):fT a b=some (xl a b):=by
 unfold fT mi xl
 simp only[bne_self_eq_false,vaa,var,if_false,vaf]
 (repeat' split)<;>rfl
theorem tR(a b:ah):j5 a b=some (q9 a b):=by
 unfold j5 qm q9
 simp only[beq_self_eq_true,vbA,vaa,var,if_false]
 by_cases h1:Op.bytesLess a b=true
 ·rw[vae h1,vae h1]
 ·rw[vag h1,vag h1]
  by_cases h2:a=b
  ·rw[vag (by simp[h2]),vae h2]
  ·rw[vae (by simp[h1,h2]),vag h2]
def nz:List Int->Int
 |[]=>0
 |x::r=>if x≠0 then x else nz r
theorem Ey(l:List Int)(hl:l.length<=1000):vp l=some (nz l):=by
 unfold vp
 have key:∀(r pre:List Int),l=pre++r->kY l (l.length:Int) (pre.length:Int)=some (if nz r≠0 then .inl (nz r)else .inr ()):=by
  intro r
  induction r with
  | nil =>
   intro pre h
   unfold kY
   rw[aK (x:=.inr ())]
   ·rfl
   ·unfold j7
    rw[vag (by rw[h];simp)]
  | cons x r ih =>
   intro pre h
   have hlt:pre.length<l.length:=by rw[h];simp
   unfold kY
   have hb:j7 l (l.length:Int) (pre.length:Int)=(if(x !=0)=true then some (.inr (.inl x))else some (.inl (((pre++[x]).length:Nat):Int))):=by
    unfold j7
    rw[vae (by simpa using hlt)]
    conv=>lhs;rw[h]
    rw[eS,vaa,cR (by omega) (by omega)]
    congr 3
    simp
   by_cases hx:x=0
   ·subst hx
    simp only[bne_self_eq_false,var,if_false]at hb
    rw[dc hb]
    have:=ih (pre++[0]) (by rw[h];simp)
    unfold kY at this
    rw[this]
    simp[nz]
   ·rw[vae (by simpa using hx)]at hb
    rw[aK hb]
    simp[nz,hx]
 have:=key l [] rfl
 rw[show(([]:List Int).length:Int)=0 from rfl]at this
 rw[this,vaa]
 by_cases h:nz l=0
 ·simp[h]
 ·simp[h]
theorem CQ(b:Bool):gM b=some (wP b):=by unfold gM wP;split<;>rfl
theorem Ch(x y:ag):fC x y=some (ko x y):=by
 unfold fC
 rw[pn,vaa,pn,vaa,CQ,vaa,CQ,vaa,pn,vaa,Ey _ (by simp),vaa]
 unfold ko zH nz
 simp only[nz]
 congr 1
 split
 ·rfl
 ·split
  ·rfl
  ·split
   ·rfl
   ·rename_i h;simpa using(Decidable.not_not.1 h).symm
theorem uP(s1 s2:List ag)(hl:s1.length<4611686018427387904):fD s1 s2=some (eP s1 s2):=by
 unfold fD
 have key:∀(r s p q:List ag),s1=p++r->s2=q++s->p.length=q.length->
   (b6 s1 s2 (s1.length:Int) (p.length:Int)).bind (fun o9=>match o9 with|(.inl o9)=>some o9|(.inr o9)=>if(decide ((s1.length:Int)<(s2.length:Int)))=true then some (-1)else some 0)=some (eP r s):=by
  intro r
  induction r with
  | nil =>
   intro s p q h1 h2 h3
   unfold b6
   rw[aK (x:=.inr ())]
   ·rw[vaa]
    simp only
    cases s with
    |nil=>rw[vag (by rw[h1,h2];simp;omega)];rfl
    |cons y s=>rw[vae (by rw[h1,h2];simp;omega)];rfl
   ·unfold bA
    rw[vag (by rw[h1];simp)]
  | cons x r ih =>
   intro s p q h1 h2 h3
   have hlt:p.length<s1.length:=by rw[h1];simp
   unfold b6
   cases s with
   | nil =>
    rw[aK (x:=.inl 1)]
    ·rfl
    ·unfold bA
     rw[vae (by simpa using hlt)]
     conv=>lhs;rw[h1]
     rw[eS,vaa,vae (by rw[h2];simp;omega)]
   | cons y s =>
    have hb:bA s1 s2 (s1.length:Int) (p.length:Int)=(if(ko x y !=0)=true then some (.inr (.inl (ko x y)))else some (.inl (((p++[x]).length:Nat):Int))):=by
     unfold bA
     rw[vae (by simpa using hlt)]
     have e1:ep s1 (p.length:Int)=some x:=by rw[h1];exact eS p x r
     have e2:ep s2 (p.length:Int)=some y:=by rw[h2,h3];exact eS q y s
     rw[e1,vaa,vag (by rw[h2];simp;omega),e2,vaa,Ch,vaa,cR (by omega) (by omega)]
     congr 3
     simp
    by_cases ho:ko x y=0
    ·rw[vag (by simp[ho])]at hb
     rw[dc hb]
     have:=ih s (p++[x]) (q++[y]) (by rw[h1];simp) (by rw[h2];simp) (by simp[h3])
     unfold b6 at this
     rw[this]
     have e:eP (x::r) (y::s)=if ko x y≠0 then ko x y else eP r s:=rfl
     rw[e,vag (by simp[ho])]
    ·rw[vae (by simpa using ho)]at hb
     rw[aK hb]
     have e:eP (x::r) (y::s)=if ko x y≠0 then ko x y else eP r s:=rfl
     rw[e,vae ho]
     rfl
 exact key s1 s2 [] [] rfl rfl rfl
theorem zI(a b:aa)(hl:a.Arcs.length<4611686018427387904):bh a b=some (zh a b):=by
 unfold bh
 rw[tR,vaa,tR,vaa,Ey _ (by simp),vaa]
 unfold zh
 by_cases h1:q9 a.Caller b.Caller=0
 ·by_cases h2:q9 a.Callee b.Callee=0
  ·have e:nz [q9 a.Caller b.Caller,q9 a.Callee b.Callee]=0:=by simp[nz,h1,h2]
   simp only[e]
   rw[vag (by simp),uP _ _ hl]
   simp[h1,h2]
  ·have e:nz [q9 a.Caller b.Caller,q9 a.Callee b.Callee]=q9 a.Callee b.Callee:=by simp[nz,h1,h2]
   simp only[e]
   rw[vae (by simp[h2])];simp[h1,h2]
 ·have e:nz [q9 a.Caller b.Caller,q9 a.Callee b.Callee]=q9 a.Caller b.Caller:=by simp[nz,h1]
  simp only[e]
  rw[vae (by simp[h1])];simp[h1]
theorem Ca(x y:ag):(mG x y=true->ko x y= -1)/\(mG y x=true->ko x y=1)/\(mG x y=false->mG y x=false->x.From=y.From/\x.To=y.To):=by
 refine⟨fun h=>?_,fun h=>?_,fun h1 h2=>?_⟩
 ·unfold mG at h
  simp only[vaH,vaf,vac,vaE]at h
  unfold ko zH xl
  (repeat' split)<;>omega
 ·unfold mG at h
  simp only[vaH,vaf,vac,vaE]at h
  unfold ko zH xl
  (repeat' split)<;>omega
 ·unfold mG at h1 h2
  simp only[vcA,vaY,vcx,vaE]at h1 h2
  omega
theorem AH(x y:ag):pC x.From x.To x.Strict y.From y.To y.Strict=some (mG x y||mG y x):=by
 unfold pC
 simp only[oI,vaa]
 cases mG x y<;>simp[oI]
theorem AI(a b:aa)(hl:a.Arcs.length<4611686018427387904):(gu a b (a.Arcs.length:Int) 0).bind (fun o20=>match o20 with|(.inl o20)=>some o20|(.inr o20)=>some (decide ((a.Arcs.length:Int)<(b.Arcs.length:Int))))=some (decide (eP a.Arcs b.Arcs<0)):=by
 have key:∀(r s p q:List ag),a.Arcs=p++r->b.Arcs=q++s->p.length=q.length->
   (gu a b (a.Arcs.length:Int) (p.length:Int)).bind (fun o20=>match o20 with|(.inl o20)=>some o20|(.inr o20)=>some (decide ((a.Arcs.length:Int)<(b.Arcs.length:Int))))=some (decide (eP r s<0)):=by
  intro r
  induction r with
  | nil =>
   intro s p q h1 h2 h3
   unfold gu
   rw[aK (x:=.inr ())]
   ·rw[vaa]
    simp only
    cases s with
    |nil=>rw[h1,h2];simp[eP,h3]
    |cons y s=>rw[h1,h2];simp[eP,h3];omega
   ·unfold h9
    rw[vag (by rw[h1];simp)]
  | cons x r ih =>
   intro s p q h1 h2 h3
   have hlt:p.length<a.Arcs.length:=by rw[h1];simp
   unfold gu
   cases s with
   | nil =>
    rw[aK (x:=.inl false)]
    ·rfl
    ·unfold h9
     rw[vae (by simpa using hlt),vae (by rw[h2];simp;omega)]
   | cons y s =>
    have e:eP (x::r) (y::s)=if ko x y≠0 then ko x y else eP r s:=rfl
    have hb:h9 a b (a.Arcs.length:Int) (p.length:Int)=(if(mG x y||mG y x)=true then some (.inr (.inl (mG x y)))else if(!(x.Strict==y.Strict))=true then some (.inr (.inl (!x.Strict)))else some (.inl (((p++[x]).length:Nat):Int))):=by
     unfold h9
     have e1:ep a.Arcs (p.length:Int)=some x:=by rw[h1];exact eS p x r
     have e2:ep b.Arcs (p.length:Int)=some y:=by rw[h2,h3];exact eS q y s
     rw[vae (by simpa using hlt),vag (by rw[h2];simp;omega),e1,vaa,e2,vaa,AH,vaa,oI,vaa,cR (by omega) (by omega)]
     congr 4
     simp
    obtain⟨k1,k2,k3⟩:=Ca x y
    cases hxy:mG x y with
    |true=>
     rw[hxy]at hb
     rw[aK hb,e,k1 hxy]
     rfl
    | false =>
     cases hyx:mG y x with
     |true=>
      rw[hxy,hyx]at hb
      rw[aK hb,e,k2 hyx]
      rfl
     | false =>
      rw[hxy,hyx]at hb
      obtain⟨h5,h6⟩:=k3 hxy hyx
      have ho:ko x y=xl (wP x.Strict) (wP y.Strict):=by
       unfold ko zH
       rw[h5,h6]
       simp[xl]
      cases hs:x.Strict<;>cases ht:y.Strict<;>simp only[hs,ht,Bool.or_self,var,if_false,beq_self_eq_true,vbA,Bool.not_false,show(false==true)=false from rfl,show(true==false)=false from rfl,if_true]at hb ho
      ·rw[dc hb,e,ho,vag (by decide)]
       have:=ih s (p++[x]) (q++[y]) (by rw[h1];simp) (by rw[h2];simp) (by simp[h3])
       unfold gu at this
       exact this
      ·rw[aK hb,e,ho];rfl
      ·rw[aK hb,e,ho];rfl
      ·rw[dc hb,e,ho,vag (by decide)]
       have:=ih s (p++[x]) (q++[y]) (by rw[h1];simp) (by rw[h2];simp) (by simp[h3])
       unfold gu at this
       exact this
 exact key a.Arcs b.Arcs [] [] rfl rfl rfl
theorem Bv(a b:aa)(hl:a.Arcs.length<4611686018427387904):u5 a b=some (decide (zh a b<0)):=by
 unfold u5 zh
 by_cases h1:a.Caller=b.Caller
 ·have e1:q9 b.Caller b.Caller=0:=(ta.eq _ _).2 rfl
  simp only[h1,beq_self_eq_true,vbA,var,if_false,e1,ne_eq,not_true_eq_false]
  by_cases h2:a.Callee=b.Callee
  ·have e2:q9 b.Callee b.Callee=0:=(ta.eq _ _).2 rfl
   simp only[h2,beq_self_eq_true,vbA,var,if_false,e2,ne_eq,not_true_eq_false]
   exact AI a b hl
  ·have e2:q9 a.Callee b.Callee≠0:=fun e=>h2 ((ta.eq _ _).1 e)
   rw[vae (by simp[h2]),vae e2]
   congr 1
   unfold q9
   cases hb:Op.bytesLess a.Callee b.Callee<;>simp[h2]
 ·have e1:q9 a.Caller b.Caller≠0:=fun e=>h1 ((ta.eq _ _).1 e)
  rw[vae (by simp[h1]),vae e1]
  congr 1
  unfold q9
  cases hb:Op.bytesLess a.Caller b.Caller<;>simp[h1]
def rq(a b:aa):Bool:=decide (zh a b<0)
theorem kP:CJ rq (fun _=>True) where
 irr:=fun x _=>by unfold rq;rw[(jR.eq x x).2 rfl];rfl
 trans:=fun x y z _ _ _ h1 h2=>by unfold rq at *;simp only[vaf]at *;exact jR.tr _ _ _ h1 h2
 ntrans:=fun x y z _ _ _ h1 h2=>by
  unfold rq at *
  simp only[vaY]at *
  intro h3
  have a1:=jR.sym x y
  have a2:=jR.sym y z
  have a3:=jR.sym x z
  by_cases c1:zh x y=0
  ·rw[(jR.eq _ _).1 c1]at h3;exact h2 h3
  ·by_cases c2:zh y z=0
   ·rw[(jR.eq _ _).1 c2]at h1;exact h1 h3
   ·have:=jR.tr z y x (by omega) (by omega)
    omega
 tot:=fun x y _ _ h1 h2=>by
  unfold rq at *
  simp only[vaY]at *
  have a1:=jR.sym x y
  exact(jR.eq _ _).1 (by omega)
theorem Cd{a b:aa}(hl:a.Arcs.length<4611686018427387904):yV bh a b=rq a b:=by
 unfold yV rq
 rw[zI a b hl]
theorem yL{l:List aa}(h:∀g∈l,g.Arcs.length<=40)(hl:l.length<=1000000):∃r,qW bh l=some r/\r.Perm l/\nc rq r:=by
 have hlt:∀x∈l,∀y,yV bh x y=rq x y:=fun x hx y=>Cd (by have:=h x hx;omega)
 have hok:FY bh l=true:=by
  unfold FY
  simp only[vac,vaf,van,vaM,vaH]
  refine⟨by unfold dT;omega,fun x hx y hy=>?_,fun x hx=>?_,fun x hx y hy z hz=>?_,fun x hx y hy=>?_⟩
  ·rw[zI x y (by have:=h x hx;omega)];rfl
  ·rw[hlt x hx];exact kP.irr x trivial
  ·rw[hlt x hx,hlt x hx,hlt y hy]
   have t1:=kP.trans x y z trivial trivial trivial
   have t2:=kP.ntrans x y z trivial trivial trivial
   cases h1:rq x y<;>cases h2:rq y z<;>cases h3:rq x z<;>simp_all
  ·rw[hlt x hx,hlt y hy]
   have t:=kP.tot x y trivial trivial
   cases h1:rq x y<;>cases h2:rq y x<;>simp_all
 refine⟨pN (yV bh) l,by unfold qW;rw[vae hok],iH _ l,?_⟩
 obtain⟨_,_,ho⟩:=wc hok
 have hs:=mJ ho (l:=l) fun y hy=>hy
 refine List.Pairwise.imp_of_mem ?_ hs
 intro a b ha hb hab
 rw[hlt b ((iH _ l).mem_iff.1 hb)]at hab
 exact hab
theorem oe:kW=some true:=by kernel_rfl
theorem Ff(n:Int)(l:List aa)(hl:l.length<4611686018427387904):uG n l=some (l.all (fun g=>decide (g.Arcs.length<=40))&&decide ((l.length:Int)<=n)):=by
 unfold uG qZ
 rw[iI l (by omega) (fun zz=>n9 l (l.length:Int) zz) (fun i x2=>if(decide ((x2.Arcs.length:Int)>40))=true then some (.inr (.inl ()))else some (.inl (bU (i+1)))) (fun g=>decide ((g.Arcs.length:Int)>40)) (.inl ()) (.inr ()) (fun i=>rfl) (fun x hx i=>by split<;>simp_all),vaa]
 have:l.any (fun g=>decide ((g.Arcs.length:Int)>40))= !l.all (fun g=>decide (g.Arcs.length<=40)):=by
  rw[List.not_all_eq_any_not]
  congr 1
  funext g
  rw[vbt];simp;omega
 rw[this]
 cases l.all (fun g=>decide (g.Arcs.length<=40))<;>simp
theorem C9{n:Int}{l:List aa}(h:(l.all (fun g=>decide (g.Arcs.length<=40))&&decide ((l.length:Int)<=n))=true):(∀g∈l,g.Arcs.length<=40)/\(l.length:Int)<=n:=by
 simp only[vac,van,vaf]at h
 exact h
theorem vD:∀(s:ah) (c:UInt8),c∈s->c=46\/∃p∈fF s,c∈p
 |[],c,h=>by cases h
 | d :: r,c,h => by
  unfold fF
  by_cases hd:(d==46)=true
  ·rw[vae hd]
   rcases vay.1 h with rfl|h
   ·exact .inl (by simpa using hd)
   ·rcases vD r c h with h|⟨p,hp,hc⟩
    ·exact .inl h
    ·exact .inr ⟨p,by simp[hp],hc⟩
  ·rw [vag hd]
   cases hr:fF r with
   |nil=>exact absurd hr (mj r)
   | cons a t =>
    simp only
    rcases vay.1 h with rfl|h
    ·exact .inr ⟨c::a,by simp,by simp⟩
    ·rcases vD r c h with h|⟨p,hp,hc⟩
     ·exact .inl h
     ·rw[hr]at hp
      rcases vay.1 hp with rfl|hp
      ·exact .inr ⟨d::p,by simp,by simp[hc]⟩
      ·exact .inr ⟨p,by simp[hp],hc⟩
def G1(c:UInt8):Prop:=c≠32/\c≠58
theorem BK{c:UInt8}(h:fu c=true):G1 c:=by
 refine⟨fun e=>?_,fun e=>?_⟩<;>subst e<;>revert h<;>decide
theorem y4{c:UInt8}(h:dS c=true):G1 c:=by
 refine⟨fun e=>?_,fun e=>?_⟩<;>subst e<;>revert h<;>decide
theorem oh{s:ah}(h:dF s=true):∀c∈s,G1 c:=fun c hc=>by
 unfold dF at h
 rw[vac]at h
 have h2:=h.2
 rcases vD s c hc with rfl|⟨p,hp,hcp⟩
 ·exact⟨by decide,by decide⟩
 ·cases hd:fF s with
  |nil=>exact absurd hd (mj s)
  | cons f r =>
   rw[hd]at h2 hp
   simp only[vac]at h2
   have hpart:∀q,gD q=true->c∈q->G1 c:=fun q hq hcq=>by
    unfold gD Ag at hq
    simp only[vac,vaH]at hq
    rcases hq.2 with h|h
    ·exact y4 (van.1 h c hcq)
    ·exact BK (van.1 h.2 c hcq)
   rcases vay.1 hp with rfl|hp
   ·have h3:=h2.1
    simp only[vaH,vac,vaE]at h3
    rcases h3 with(h3|h3)|h3
    ·unfold ji at h3
     simp only[vac]at h3
     exact BK (van.1 h3.2 c hcp)
    ·unfold gg at h3
     simp only[vac]at h3
     exact y4 (van.1 h3.1.1.1.1.2 c hcp)
    ·rw[h3.1]at hcp
     rw[va2.1 hcp]
     exact⟨by decide,by decide⟩
   ·exact hpart p (van.1 h2.2 p hp) hcp
theorem zl{s:ah}(h:dF s=true):s.length<=120:=by
 unfold dF at h
 rw[vac]at h
 simpa using h.1
def dg(n:Int):UInt8:=UInt8.ofNat (48+n.toNat)
def Fx(b:Bool):ah:=if b=true then[32,62,32]else[32,62,61,32]
def wT(x:ag):ah:=([32]++[dg x.From]++Fx x.Strict)++[dg x.To]
def eL:Nat->List ag->ah
 |_,[]=>[]
 |i,x::r=>((if i>0 then[44]else[])++wT x)++eL (i+1) r
def EK(g:aa):ah:=(((g.Caller++[32,45,62,32])++g.Callee)++[58])++eL 0 g.Arcs
theorem Hu{n:Int}(h0:0<=n)(h1:n<6):n=0\/n=1\/n=2\/n=3\/n=4\/n=5:=by omega
theorem EE{n:Int}(h0:0<=n)(h1:n<6):Bt n=some [dg n]:=by
 rcases Hu h0 h1 with rfl|rfl|rfl|rfl|rfl|rfl<;>kernel_rfl
theorem C7(x:ag):(wT x).length<=7:=by unfold wT Fx;split<;>simp
theorem FA(b:Bool):fB b=some (Fx b):=by unfold fB Fx;split<;>rfl
theorem vP(g:aa)(h:yn g.Arcs):∀(r pre:List ag) (s:ah),g.Arcs=pre++r->s.length<=1000+8 * pre.length->di g.Arcs (g.Arcs.length:Int) s (pre.length:Int)=some (s++eL pre.length r)
 | [],pre,s,hg,hs => by
  unfold di
  rw[aK (x:=s)]
  ·simp[eL]
  ·unfold dq
   rw[vag (by rw[hg];simp)]
 | x :: r,pre,s,hg,hs => by
  have hl:=eT h
  have hlt:pre.length<g.Arcs.length:=by rw[hg];simp
  obtain⟨a,b,c,d⟩:=h.1 x (by rw[hg];simp)
  have hJ2:fA s (pre.length:Int)=some (s++(if pre.length>0 then[44]else[])):=by
   unfold fA
   by_cases hp:pre.length>0
   ·rw[vae (by simpa using hp),pH (by simp;omega),vae hp];rfl
   ·rw[vag (by simpa using hp),vag hp];simp
  have hpl:(if pre.length>0 then([44]:ah)else[]).length<=1:=by split<;>simp
  have hsg:(Fx x.Strict).length<=4:=by unfold Fx;split<;>simp
  have he:=C7 x
  have hb:dq g.Arcs (g.Arcs.length:Int) s (pre.length:Int)=some (.inl ((s++(if pre.length>0 then[44]else[]))++wT x,(((pre++[x]).length:Nat):Int))):=by
   unfold dq
   have hi:ep g.Arcs (pre.length:Int)=some x:=by rw[hg];exact eS pre x r
   rw[vae (by simpa using hlt),hi,vaa,hJ2,vaa,FA,vaa,EE a b,vaa,pH (by simp),vaa,pH (by simp;omega),vaa,EE c d,vaa,
    pH (by simp;omega),vaa,pH (by simp at hpl ⊢;omega),vaa,cR (by omega) (by omega)]
   congr 3
   simp
  unfold di
  rw[dc hb]
  have:=vP g h r (pre++[x]) ((s++(if pre.length>0 then[44]else[]))++wT x) (by rw[hg];simp) (by simp only[vaQ,List.length_singleton]at *;omega)
  unfold di at this
  rw[this]
  simp[eL,vbq]
theorem DW{g:aa}(h:oY g):fQ g=some (EK g):=by
 have h1:=zl h.caller
 have h2:=zl h.callee
 unfold fQ
 rw[pH (by simp;omega),vaa,pH (by simp;omega),vaa,pH (by simp;omega),vaa]
 have:=vP g h.arcs g.Arcs [] (((g.Caller++[32,45,62,32])++g.Callee)++[58]) rfl (by simp;omega)
 rw[show(([]:List ag).length:Int)=0 from rfl]at this
 rw[this]
 rfl
theorem Av{c:UInt8}:∀{A B X Y:ah},(∀x∈A,x≠c)->(∀x∈B,x≠c)->A++c::X=B++c::Y->A=B/\X=Y
 |[],[],X,Y,_,_,h=>by simpa using h
 |[],b::B,X,Y,_,hB,h=>by
  simp at h
  exact absurd h.1.symm (hB b (by simp))
 |a::A,[],X,Y,hA,_,h=>by
  simp at h
  exact absurd h.1 (hA a (by simp))
 |a::A,b::B,X,Y,hA,hB,h=>by
  simp at h
  obtain⟨h1,h2⟩:=Av (fun x hx=>hA x (by simp[hx])) (fun x hx=>hB x (by simp[hx])) h.2
  exact⟨by rw[h.1,h1],h2⟩
theorem xY{a b:Int}(h0:0<=a)(h1:a<6)(h2:0<=b)(h3:b<6)(h:dg a=dg b):a=b:=by
 rcases Hu h0 h1 with rfl|rfl|rfl|rfl|rfl|rfl<;>rcases Hu h2 h3 with rfl|rfl|rfl|rfl|rfl|rfl<;>first|rfl|(revert h;decide)
theorem C6{x y:ag}(hx:rg x)(hy:rg y){R S:ah}(h:wT x++R=wT y++S):x=y/\R=S:=by
 obtain⟨a,b,c,d⟩:=hx
 obtain⟨a',b',c',d'⟩:=hy
 obtain⟨xf,xt,xs⟩:=x
 obtain⟨yf,yt,ys⟩:=y
 unfold wT Fx at h
 simp only at *
 cases xs<;>cases ys<;>simp at h
 ·obtain⟨h1,h2,h3⟩:=h
  rw[xY a b a' b' h1,xY c d c' d' h2]
  exact⟨rfl,h3⟩
 ·obtain⟨h1,h2,h3⟩:=h
  rw[xY a b a' b' h1,xY c d c' d' h2]
  exact⟨rfl,h3⟩
theorem C5:∀{l m:List ag} {i:Nat},(∀x∈l,rg x)->(∀x∈m,rg x)->eL i l=eL i m->l=m
 |[],[],_,_,_,_=>rfl
 |[],y::m,i,_,_,h=>by
  unfold eL at h
  have:=vbi List.length h
  simp[wT]at this
 |x::l,[],i,_,_,h=>by
  unfold eL at h
  have:=vbi List.length h
  simp[wT]at this
 |x::l,y::m,i,hl,hm,h=>by
  unfold eL at h
  rw[vbq,vbq]at h
  have h2:=List.append_cancel_left h
  obtain⟨h3,h4⟩:=C6 (hl x (by simp)) (hm y (by simp)) h2
  rw[h3,C5 (fun z hz=>hl z (by simp[hz])) (fun z hz=>hm z (by simp[hz])) h4]
theorem Et{g h:aa}(hg:oY g)(hh:oY h)(e:EK g=EK h):g=h:=by
 unfold EK at e
 obtain⟨g1,g2,g3⟩:=g
 obtain⟨k1,k2,k3⟩:=h
 have e2:g1++32::(45::62::32::(g2++58::eL 0 g3))=k1++32::(45::62::32::(k2++58::eL 0 k3)):=by simpa using e
 obtain⟨h1,h2⟩:=Av (fun x hx=>(oh hg.caller x hx).1) (fun x hx=>(oh hh.caller x hx).1) e2
 simp only[vbG,vb8]at h2
 obtain⟨h3,h4⟩:=Av (fun x hx=>(oh hg.callee x hx).2) (fun x hx=>(oh hh.callee x hx).2) h2
 have h5:=C5 hg.arcs.1 hh.arcs.1 h4
 simp only at h1 h3 h5
 subst h1;subst h3;subst h5;rfl
inductive Cl(l:List aa):aa->Prop where
 |base (g:aa):g∈l->Cl l g
 |comp (a b:aa):Cl l a->Cl l b->a.Callee=b.Caller->Cl l (bK a b)
theorem Cl.ok{l:List aa}(h:∀g∈l,oY g){g:aa}(hg:Cl l g):oY g:=by
 induction hg with
 |base g hg=>exact h g hg
 |comp a b _ _ _ iha ihb=>exact wb iha ihb
theorem vZ{σ X:Type}(body:σ->Option (σ⊕X))(I:σ->Prop)(μ:σ->Nat)(Q:X->Prop)
  (h:∀s,I s->(∃s',body s=some (.inl s')/\I s'/\μ s'<μ s)\/(∃x,body s=some (.inr x)/\Q x)):∀s,I s->∃x,loop body s=some x/\Q x:=by
 intro s
 induction hm:μ s using Nat.strongRecOn generalizing s with
 | _ n ih =>
  intro hI
  rcases h s hI with⟨s',h1,h2,h3⟩|⟨x,h1,h2⟩
  ·obtain⟨x,h4,h5⟩:=ih (μ s') (by omega) s' rfl h2
   exact⟨x,by rw[dc h1];exact h4,h5⟩
  ·exact⟨x,aK h1,h2⟩
def DM(m:List (ah×Bool))(out:List aa):Prop:=∀g,oY g->(pP m (EK g)).getD false=decide (g∈out)
theorem zE{α:Type}(v:α)(k:ah):∀(m:List (ah×α)) (j:ah),pP (tg m k v) j=if j=k then some v else pP m j
 | [],j => by
  unfold tg pP
  by_cases h:j=k
  ·subst h;simp
  ·simp[h]
 | e :: r,j => by
  have ih:=zE v k r j
  unfold tg
  by_cases hk:(k==e.1)=true
  ·rw[vae hk]
   have hk':k=e.1:=by simpa using hk
   unfold pP
   by_cases h:j=k
   ·subst h;simp
   ·have:¬j=e.1:=fun x=>h (x.trans hk'.symm)
    simp[h,this]
  ·rw[vag hk]
   unfold pP at ih ⊢
   rw[List.find?_cons,List.find?_cons]
   by_cases h:(j==e.1)=true
   ·have hj:j=e.1:=by simpa using h
    have:¬j=k:=fun x=>hk (by rw[<-x,hj];simp)
    rw[h]
    simp[this]
   ·simp only[h]
    exact ih
def iw(out:List aa)(g:aa):List aa:=if g∈out then out else out++[g]
theorem EZ{g:aa}{m:List (ah×Bool)}{out:List aa}(hg:oY g)(hm:DM m out)(hl:out.length<=1000):∃m',bF g m out=some (m',iw out g)/\DM m' (iw out g):=by
 unfold bF
 rw[DW hg,vaa,hm g hg]
 unfold iw
 by_cases h:g∈out
 ·rw[vag (by simp[h]),vae h]
  exact⟨m,rfl,hm⟩
 ·rw[vae (by simp[h]),vag h]
  have hal:=eT hg.arcs
  have hcl:ra g.Arcs=some g.Arcs:=by unfold ra;rw[vae (by unfold dT;omega)]
  rw[hcl,vaa,mE (by simp;omega),vaa]
  refine⟨tg m (EK g) true,rfl,fun k hk=>?_⟩
  rw[zE]
  by_cases he:EK k=EK g
  ·rw[vae he]
   have:=Et hk hg he
   subst this
   simp
  ·rw[vag he,hm k hk]
   have:k≠g:=fun e=>he (by rw[e])
   simp[this]
theorem jc{out:List aa}{g x:aa}:x∈iw out g↔x∈out\/x=g:=by
 unfold iw
 split
 ·rename_i h
  exact⟨.inl,fun hh=>hh.elim id fun e=>e▸h⟩
 ·simp
theorem An{out:List aa}{g:aa}(h:out.Nodup):(iw out g).Nodup:=by
 unfold iw
 split
 ·exact h
 ·rename_i hg
  rw[vcK]
  exact⟨h,by simp,fun a ha b hb=>by rw[va2.1 hb];exact fun e=>hg (e▸ha)⟩
theorem vd{out:List aa}{g:aa}:out.length<=(iw out g).length/\(iw out g).length<=out.length+1:=by
 unfold iw
 split<;>simp
theorem j2{out:List aa}{g x:aa}{i:Nat}(h:out[i]? =some x):(iw out g)[i]? =some x:=by
 unfold iw
 split
 ·exact h
 ·rw[vad (vaZ.1 h).1];exact h
structure CS(l:List aa)(m:List (ah×Bool))(out:List aa):Prop where
 seen:DM m out
 nd:out.Nodup
 cl:∀g∈out,Cl l g
theorem CL{l:List aa}(hok:∀g∈l,oY g){m:List (ah×Bool)}{out:List aa}{g:aa}(h:CS l m out)(hg:Cl l g)(hl:out.length<=1000):∃m',bF g m out=some (m',iw out g)/\CS l m' (iw out g):=by
 obtain⟨m',h1,h2⟩:=EZ (hg.ok hok) h.seen hl
 refine⟨m',h1,h2,An h.nd,fun x hx=>?_⟩
 rcases jc.1 hx with hx|rfl
 ·exact h.cl x hx
 ·exact hg
theorem E7(l:List aa)(hl:l.length<=1000000)(ha:∀g∈l,g.Arcs.length<=40):bj l (l.length:Int) 0=some (match l.find? (fun g=>vG g !=0)with|some g=>.inl ([],vG g)|none=>.inr ()):=by
 have key:∀(r pre:List aa),l=pre++r->bj l (l.length:Int) (pre.length:Int)=some (match r.find? (fun g=>vG g !=0)with|some g=>.inl ([],vG g)|none=>.inr ()):=by
  intro r
  induction r with
  | nil =>
   intro pre h
   unfold bj
   rw[aK (x:=.inr ())]
   ·rfl
   ·unfold ct
    rw[vag (by rw[h];simp)]
  | cons x r ih =>
   intro pre h
   have hlt:pre.length<l.length:=by rw[h];simp
   have hb:ct l (l.length:Int) (pre.length:Int)=if(vG x !=0)=true then some (.inr (.inl ([],vG x)))else some (.inl (((pre++[x]).length:Nat):Int)):=by
    unfold ct
    have hi:ep l (pre.length:Int)=some x:=by rw[h];exact eS pre x r
    have hx:=ha x (by rw[h];simp)
    rw[vae (by simpa using hlt),hi,vaa,u6 x (by omega),vaa,cR (by omega) (by omega)]
    congr 3
    simp
   unfold bj
   rw[List.find?_cons]
   cases hv:(vG x !=0)with
   |true=>rw[hv,vae rfl]at hb;rw[aK hb]
   |false=>
    rw[hv,vag (by simp)]at hb
    rw[dc hb]
    have:=ih (pre++[x]) (by rw[h];simp)
    unfold bj at this
    exact this
 have:=key l [] rfl
 exact this
theorem E8(l:List aa)(hl:l.length<=100)(hok:∀g∈l,oY g):∃m out,bX l (l.length:Int) 0 [] []=some (m,out)/\CS l m out/\(∀g∈l,g∈out)/\out.length<=l.length:=by
 have key:∀(r pre:List aa) (m:List (ah×Bool)) (out:List aa),l=pre++r->CS l m out->(∀g∈pre,g∈out)->out.length<=pre.length->
   ∃m' out',bX l (l.length:Int) (pre.length:Int) m out=some (m',out')/\CS l m' out'/\(∀g∈l,g∈out')/\out'.length<=l.length:=by
  intro r
  induction r with
  |nil=>
   intro pre m out h hc hp ho
   refine⟨m,out,?_,hc,fun g hg=>hp g (by rw[h]at hg;simpa using hg),by rw[h];simpa using ho⟩
   unfold bX
   refine aK ?_
   unfold cx
   rw[vag (by rw[h];simp)]
  | cons x r ih =>
   intro pre m out h hc hp ho
   have hlt:pre.length<l.length:=by rw[h];simp
   obtain⟨m',h1,h2⟩:=CL hok hc (.base x (by rw[h];simp)) (by omega)
   have hb:cx l (l.length:Int) (pre.length:Int) m out=some (.inl ((((pre++[x]).length:Nat):Int),m',iw out x)):=by
    unfold cx
    have hi:ep l (pre.length:Int)=some x:=by rw[h];exact eS pre x r
    rw[vae (by simpa using hlt),hi,vaa,h1,vaa,cR (by omega) (by omega)]
    congr 3
    simp
   obtain⟨m2,out2,k1,k2⟩:=ih (pre++[x]) m' (iw out x) (by rw[h];simp) h2 (fun g hg=>by
    rcases vaD.1 hg with hg|hg
    ·exact jc.2 (.inl (hp g hg))
    ·exact jc.2 (.inr (va2.1 hg))) (by have:=(vd (out:=out) (g:=x)).2;simp;omega)
   refine⟨m2,out2,?_,k2⟩
   unfold bX at k1 ⊢
   rw[dc hb];exact k1
 have:=key l [] [] [] rfl ⟨fun g _=>by simp[pP],by simp,by simp⟩ (by simp) (by simp)
 exact this
def yp(out:List aa)(i k:Nat):Prop:=∀x y,out[i]? =some x->out[k]? =some y->(x.Callee=y.Caller->bK x y∈out)/\(y.Callee=x.Caller->bK y x∈out)
def xZ(out:List aa)(i:Nat):Prop:=∀p q,p<i->q<=p->yp out p q
theorem wd{out:List aa}{g:aa}{i k:Nat}(hi:i<out.length)(hk:k<out.length)(h:yp out i k):yp (iw out g) i k:=fun x y hx hy=>by
 have e1:out[i]? =some x:=by rw[j2 (vab hi)]at hx;rw[<-hx];exact vab hi
 have e2:out[k]? =some y:=by rw[j2 (vab hk)]at hy;rw[<-hy];exact vab hk
 obtain⟨h1,h2⟩:=h x y e1 e2
 exact⟨fun c=>jc.2 (.inl (h1 c)),fun c=>jc.2 (.inl (h2 c))⟩
structure CI(l:List aa)(i k:Nat)(m:List (ah×Bool))(out:List aa):Prop where
 cs:CS l m out
 sub:∀g∈l,g∈out
 len:out.length<=402
 done:xZ out i
 row:∀q,q<k->yp out i q
theorem CB{l:List aa}{i k:Nat}{m m':List (ah×Bool)}{out:List aa}{g:aa}(h:CI l i k m out)(hi:i<out.length)(hk:k<=i)(hc:CS l m' (iw out g))(hl:(iw out g).length<=402):CI l i k m' (iw out g):=
 ⟨hc,fun x hx=>jc.2 (.inl (h.sub x hx)),hl,fun p q hp hq=>wd (by omega) (by omega) (h.done p q hp hq),fun q hq=>wd hi (by omega) (h.row q hq)⟩
theorem Ex{l:List aa}(hok:∀g∈l,oY g){i k:Nat}{m:List (ah×Bool)}{out:List aa}(h:CS l m out)(hi:i<out.length)(hk:k<out.length)(hl:out.length<=401):∃m' g,cW (i:Int) (k:Int) m out=some (m',iw out g)/\CS l m' (iw out g)/\(out[i].Callee=out[k].Caller->g=bK out[i] out[k]):=by
 unfold cW
 rw[d9 out i hi,vaa,d9 out k hk,vaa]
 have ci:=h.cl _ (vaO hi)
 have ck:=h.cl _ (vaO hk)
 by_cases hc:out[i].Callee=out[k].Caller
 ·rw[vae (by simpa using hc),vaa,vaa,re _ _ (ci.ok hok).arcs (ck.ok hok).arcs,vaa]
  obtain⟨m',h1,h2⟩:=CL hok h (.comp _ _ ci ck hc) (by omega)
  rw[h1,vaa]
  exact⟨m',_,rfl,h2,fun _=>rfl⟩
 ·rw[vag (by simpa using hc)]
  have e:iw out out[i]=out:=by unfold iw;rw[vae (vaO hi)]
  exact⟨m,out[i],by rw[e],by rw[e];exact h,fun hh=>absurd hh hc⟩
theorem Ga{l:List aa}(hok:∀g∈l,oY g){i k:Nat}{m:List (ah×Bool)}{out:List aa}(h:CI l i k m out)(hi:i<out.length)(hk:k<=i)(hl:out.length<=400):∃m' out',ee (i:Int) (k:Int) m out=some (m',out')/\CI l i (k+1) m' out'/\out.length<=out'.length:=by
 unfold ee
 obtain⟨m1,g1,e1,c1,f1⟩:=Ex hok h.cs hi (show k<out.length by omega) (by omega)
 rw[e1,vaa]
 have l1:=vd (out:=out) (g:=g1)
 have I1:=CB h hi hk c1 (by omega)
 have hi1:i<(iw out g1).length:=by omega
 have hk1:k<(iw out g1).length:=by omega
 have gi:(iw out g1)[i]=out[i]:=by
  have:=j2 (g:=g1) (vab hi)
  rw[vab hi1]at this
  exact vaR this
 have gk:(iw out g1)[k]=out[k]'(by omega):=by
  have:=j2 (g:=g1) (vab (show k<out.length by omega))
  rw[vab hk1]at this
  exact vaR this
 obtain⟨m2,g2,e2,c2,f2⟩:=Ex (i:=k) (k:=i) hok c1 hk1 hi1 (by omega)
 have l2:=vd (out:=iw out g1) (g:=g2)
 have I2:=CB I1 hi1 hk c2 (by omega)
 refine⟨m2,iw (iw out g1) g2,?_,⟨I2.cs,I2.sub,I2.len,I2.done,fun q hq=>?_⟩,by omega⟩
 ·unfold cW at e2
  exact e2
 ·by_cases hqk:q=k
  ·subst hqk
   intro x y hx hy
   have hx':x=out[i]:=by
    rw[j2 (j2 (vab hi))]at hx
    exact(vaR hx).symm
   have hy':y=out[q]'(by omega):=by
    rw[j2 (j2 (vab (show q<out.length by omega)))]at hy
    exact(vaR hy).symm
   subst hx';subst hy'
   refine⟨fun c=>?_,fun c=>?_⟩
   ·rw[<-f1 c];exact jc.2 (.inl (jc.2 (.inr rfl)))
   ·rw[gi,gk]at f2
    rw[<-f2 c];exact jc.2 (.inr rfl)
  ·exact I2.row q (by omega)
theorem Gc{l:List aa}(hok:∀g∈l,oY g){i:Nat}(hi400:i<=400){m:List (ah×Bool)}{out:List aa}(h:CI l i 0 m out)(hi:i<out.length):∃o:List (ah×Bool)×List aa,eh (i:Int) 0 m out=some o/\(CI l i 0 o.1 o.2/\out.length<=o.2.length/\(o.2.length<=400->xZ o.2 (i+1))):=by
 unfold eh
 refine vZ (fun(zz:Int×(List (ah×Bool))×(List aa))=>dB (i:Int) zz.1 zz.2.1 zz.2.2)
  (fun s=>∃k:Nat,s.1=(k:Int)/\k<=i+1/\CI l i k s.2.1 s.2.2/\out.length<=s.2.2.length) (fun s=>i+1 - s.1.toNat) _ ?_ (0,m,out) ⟨0,rfl,by omega,h,vap _⟩
 rintro⟨k',m1,out1⟩ ⟨k,rfl,hk,hc,hl⟩
 simp only at hc hl ⊢
 have hJ6:ed (i:Int) (k:Int) out1=some (decide (k<=i)&&decide (out1.length<=400)):=by
  unfold ed
  by_cases h1:k<=i
  ·rw[vae (by simpa using h1)]
   simp[h1]
   omega
  ·rw[vag (by simpa using h1)];simp[h1]
 unfold dB
 rw[hJ6,vaa]
 by_cases hcond:k<=i/\out1.length<=400
 ·rw[vae (by simpa using hcond)]
  obtain⟨m2,out2,e1,c2,hl2⟩:=Ga hok hc (by omega) hcond.1 hcond.2
  rw[e1,vaa]
  refine .inl ⟨_,rfl,⟨k+1,?_,by omega,c2,(show out.length<=out2.length by omega)⟩,?_⟩
  ·simp only;rw[cR (by omega) (by omega)];omega
  ·simp only;rw[cR (by omega) (by omega)];omega
 ·rw[vag (by simpa using hcond)]
  refine .inr ⟨_,rfl,⟨hc.cs,hc.sub,hc.len,hc.done,fun q hq=>absurd hq (vaI _)⟩,hl,fun hle=>?_⟩
  simp only at hle ⊢
  have hki:k=i+1:=by omega
  subst hki
  intro p q hp hq
  by_cases hpi:p=i
  ·subst hpi;exact hc.row q (by omega)
  ·exact hc.done p q (by omega) hq
theorem Gb{l:List aa}(hok:∀g∈l,oY g){m:List (ah×Bool)}{out:List aa}(h:CS l m out)(hsub:∀g∈l,g∈out)(hl:out.length<=100):∃o:List (ah×Bool)×List aa,ef 0 m out=some o/\(CS l o.1 o.2/\o.2.length<=402/\(∀g∈l,g∈o.2)/\(o.2.length<=400->xZ o.2 o.2.length)):=by
 unfold ef
 refine vZ (fun(zz:Int×(List (ah×Bool))×(List aa))=>dA zz.1 zz.2.1 zz.2.2)
  (fun s=>∃i:Nat,s.1=(i:Int)/\i<=402/\CI l i 0 s.2.1 s.2.2\/s.2.2.length>400/\CI l 0 0 s.2.1 s.2.2) (fun s=>(if s.2.2.length<=400 then 1000 else 0)+(500 - s.1.toNat)) _ ?_ (0,m,out) ⟨0,.inl ⟨rfl,by omega,⟨h,hsub,(show out.length<=402 by omega),fun p q hp=>absurd hp (vaI _),fun q hq=>absurd hq (vaI _)⟩⟩⟩
 rintro⟨i',m1,out1⟩ ⟨i,hI⟩
 simp only at hI ⊢
 have hJ4:∀j:Int,ec j out1=some (decide (j<(out1.length:Int))&&decide (out1.length<=400)):=fun j=>by
  unfold ec
  by_cases h1:j<(out1.length:Int)
  ·rw[vae (by simpa using h1)]
   simp[h1]
   omega
  ·rw[vag (by simpa using h1)];simp[h1]
 unfold dA
 rw[hJ4,vaa]
 by_cases hlen:out1.length<=400
 ·have hI:i'=(i:Int)/\i<=402/\CI l i 0 m1 out1:=by
   rcases hI with h|h
   ·exact h
   ·omega
  obtain⟨rfl,hi,hc⟩:=hI
  by_cases hlt:i<out1.length
  ·rw[vae (by simp;omega)]
   obtain⟨⟨m2,out2⟩,e1,c2,hl2,hd2⟩:=Gc hok (by omega) hc hlt
   simp only at c2 hl2 hd2
   rw[e1,vaa]
   refine .inl ⟨_,rfl,?_,?_⟩
   ·simp only
    rw[cR (by omega) (by omega)]
    by_cases h4:out2.length<=400
    ·exact⟨i+1,.inl ⟨by omega,by omega,⟨c2.cs,c2.sub,c2.len,hd2 h4,fun q hq=>absurd hq (vaI _)⟩⟩⟩
    ·exact⟨0,.inr ⟨by omega,⟨c2.cs,c2.sub,c2.len,fun p q hp=>absurd hp (vaI _),fun q hq=>absurd hq (vaI _)⟩⟩⟩
   ·simp only
    rw[cR (by omega) (by omega),vae hlen]
    split<;>omega
  ·rw[vag (by simp;omega)]
   exact .inr ⟨_,rfl,hc.cs,hc.len,hc.sub,fun _ p q hp hq=>hc.done p q (by simp only at hp;omega) hq⟩
 ·rw[vag (by simp;omega)]
  rcases hI with⟨_,_,hc⟩|⟨_,hc⟩
  ·exact .inr ⟨_,rfl,hc.cs,hc.len,hc.sub,fun h4=>absurd h4 hlen⟩
  ·exact .inr ⟨_,rfl,hc.cs,hc.len,hc.sub,fun h4=>absurd h4 hlen⟩
def gA(l:List aa):Option Int:=(l.find? (fun g=>vG g !=0)).map vG
theorem mo{l:List aa}(h:gA l=none):∀g∈l,oY g:=fun g hg=>by
 unfold gA at h
 rw[vbV,vbR]at h
 have:=h g hg
 exact nN.1 (by simpa using this)
structure mf(l r:List aa):Prop where
 mem:∀g,g∈r↔Cl l g
 srt:nc rq r
 nd:r.Nodup
def CH(l:List aa):Prop:=∃r:List aa,r.Nodup/\r.length>400/\∀g∈r,Cl l g
theorem zn{l out:List aa}(hs:∀g∈l,g∈out)(hd:xZ out out.length):∀g,Cl l g->g∈out:=fun g hg=>by
 induction hg with
 |base g hg=>exact hs g hg
 | comp a b _ _ hc iha ihb =>
  obtain⟨p,hp⟩:=vbv iha
  obtain⟨q,hq⟩:=vbv ihb
  have hpl:=(vaZ.1 hp).1
  have hql:=(vaZ.1 hq).1
  by_cases hpq:q<=p
  ·exact(hd p q hpl hpq a b hp hq).1 hc
  ·exact(hd q p hql (by omega) b a hq hp).2 hc
theorem Ak(l:List aa)(hl:l.length<=100)(ha:∀g∈l,g.Arcs.length<=40):(∀e,gA l=some e->av l=some ([],e)/\e≠0)/\(gA l=none->(∃r,av l=some (r,0)/\mf l r/\r.length<=400)\/(av l=some ([],7)/\CH l)):=by
 have h1:=E7 l (by omega) ha
 constructor
 ·intro e he
  unfold gA at he
  cases hf:l.find? (fun g=>vG g !=0)with
  |none=>rw[hf]at he;cases he
  |some g=>
   rw[hf]at h1 he
   cases he
   unfold av
   rw[h1,vaa]
   refine⟨rfl,?_⟩
   have:=vbI hf
   simpa using this
 ·intro he
  have hok:=mo he
  have hf:l.find? (fun g=>vG g !=0)=none:=by
   unfold gA at he
   rwa[vbV]at he
  rw[hf]at h1
  obtain⟨m,out,e2,c2,s2,l2⟩:=E8 l hl hok
  obtain⟨⟨m3,out3⟩,e3,c3,l3,s3,d3⟩:=Gb hok c2 s2 (by omega)
  simp only at c3 l3 s3 d3
  unfold av
  rw[h1,vaa]
  simp only
  rw[e2,vaa]
  simp only
  rw[e3,vaa]
  simp only
  by_cases h4:out3.length<=400
  ·left
   rw[vag (by simp;omega)]
   obtain⟨r,hr1,hr2,hr3⟩:=yL (l:=out3) (fun g hg=>by have:=eT ((c3.cl g hg).ok hok).arcs;omega) (by omega)
   rw[hr1,vaa]
   refine⟨r,rfl,⟨fun g=>⟨fun hg=>c3.cl g (hr2.mem_iff.1 hg),fun hg=>hr2.mem_iff.2 (zn s3 (d3 h4) g hg)⟩,hr3,hr2.nodup_iff.2 c3.nd⟩,by rw[hr2.length_eq];exact h4⟩
  ·right
   rw[vae (by simp;omega)]
   exact⟨rfl,out3,c3.nd,by omega,c3.cl⟩
theorem tf{α σ τ X:Type}(l:List α)(body:τ->Option (τ⊕X))(mk:Int->σ->τ)(e:σ->X)(I:Nat->σ->Prop)
  (hin:∀(i:Nat) (h:i<l.length) s,I i s->∃s',body (mk (i:Int) s)=some (.inl (mk ((i+1:Nat):Int) s'))/\I (i+1) s') (hend:∀s,I l.length s->body (mk (l.length:Int) s)=some (.inr (e s))) (s:σ) (h0:I 0 s):
  ∃s',loop body (mk 0 s)=some (e s')/\I l.length s':=by
 have key:∀k i s,k+i=l.length->I i s->∃s',loop body (mk (i:Int) s)=some (e s')/\I l.length s':=by
  intro k
  induction k with
  |zero=>
   intro i s hi hI
   have:i=l.length:=by omega
   subst this
   exact⟨s,aK (hend s hI),hI⟩
  |succ k ih=>
   intro i s hi hI
   obtain⟨s',h1,h2⟩:=hin i (by omega) s hI
   obtain⟨s2,h3,h4⟩:=ih (i+1) s' (by omega) h2
   exact⟨s2,by rw[dc h1];exact h3,h4⟩
 exact key l.length 0 s (by omega) h0
def lW(out:List aa)(g:aa):List aa:=out.takeWhile fun x=>rq x g
def lX(out:List aa)(g:aa):List aa:=out.dropWhile fun x=>rq x g
def o0(out:List aa)(g:aa):List aa:=if(lX out g).head?=some g then out else lW out g++g::lX out g
theorem wv(out:List aa)(g:aa):lW out g++lX out g=out:=List.takeWhile_append_dropWhile
theorem yD{out:List aa}{g x:aa}(h:x∈lW out g):rq x g=true:=by
 unfold lW at h
 induction out with
 |nil=>simp at h
 | cons y r ih =>
  rw[List.takeWhile_cons]at h
  split at h
  ·rename_i hy
   rcases vay.1 h with rfl|h
   ·exact hy
   ·exact ih h
  ·simp at h
theorem tM{out:List aa}{g y:aa}{r:List aa}(h:lX out g=y::r):rq y g=false:=by
 unfold lX at h
 have:=List.head?_dropWhile_not (fun x=>rq x g) out
 rw[h]at this
 simpa using this
theorem Bx(g:aa):rq g g=false:=kP.irr g trivial
theorem eJ{out:List aa}{g x:aa}:x∈o0 out g↔x∈out\/x=g:=by
 unfold o0
 split
 ·rename_i h
  have hg:g∈out:=by
   rw[<-wv out g]
   cases hq:lX out g with
   |nil=>rw[hq]at h;cases h
   |cons y r=>rw[hq]at h;simp at h;subst h;simp
  exact⟨.inl,fun hh=>hh.elim id fun e=>e▸hg⟩
 ·have:=wv out g
  constructor
  ·intro hx
   rcases vaD.1 hx with hx|hx
   ·exact .inl (by rw[<-this];simp[hx])
   ·rcases vay.1 hx with hx|hx
    ·exact .inr hx
    ·exact .inl (by rw[<-this];simp[hx])
  ·rintro(hx|rfl)
   ·rw[<-this]at hx
    rcases vaD.1 hx with hx|hx<;>simp[hx]
   ·simp
theorem zS{out:List aa}{g:aa}(hs:nc rq out)(h:¬(lX out g).head?=some g):g∉out:=fun hg=>by
 rw[<-wv out g]at hg hs
 rcases vaD.1 hg with hg|hg
 ·have:=yD hg
  rw[Bx]at this;cases this
 ·cases hq:lX out g with
  |nil=>rw[hq]at hg;cases hg
  | cons y r =>
   have hy:=tM hq
   rw[hq]at h hg hs
   have hne:y≠g:=fun e=>h (by rw[e];rfl)
   rcases vay.1 hg with hg|hg
   ·exact hne hg.symm
   ·have:=(vaV.1 (vbp.1 hs).2.1).1 g hg
    exact hne (kP.tot y g trivial trivial hy this)
theorem BI{out:List aa}{g:aa}(hs:nc rq out):nc rq (o0 out g):=by
 unfold o0
 split
 ·exact hs
 ·have hs':=hs
  rw[<-wv out g]at hs'
  obtain⟨h1,h2,h3⟩:=vbp.1 hs'
  refine vbp.2 ⟨h1,vaV.2 ⟨fun y hy=>?_,h2⟩,fun x hx y hy=>?_⟩
  ·cases hq:lX out g with
   |nil=>rw[hq]at hy;cases hy
   | cons z r =>
    have hz:=tM hq
    rw[hq]at hy h2
    rcases vay.1 hy with rfl|hy
    ·exact hz
    ·exact kP.ntrans y z g trivial trivial trivial ((vaV.1 h2).1 y hy) hz
  ·rcases vay.1 hy with rfl|hy
   ·have h4:=yD hx
    cases hc:rq y x with
    |false=>rfl
    |true=>
     have:=kP.trans x y x trivial trivial trivial h4 hc
     rw[Bx]at this;cases this
   ·exact h3 x hx y hy
theorem DG{out:List aa}{g:aa}(hs:nc rq out)(hn:out.Nodup):(o0 out g).Nodup:=by
 unfold o0
 split
 ·exact hn
 ·rename_i h
  have hg:=zS hs h
  rw[<-wv out g]at hn hg
  rw[vcK]at hn ⊢
  obtain⟨h1,h2,h3⟩:=hn
  refine⟨h1,vbQ.2 ⟨fun hh=>hg (by simp[hh]),h2⟩,fun a ha b hb=>?_⟩
  rcases vay.1 hb with rfl|hb
  ·exact fun e=>hg (vaD.2 (.inl (e▸ha)))
  ·exact h3 a ha b hb
theorem sP{out:List aa}{g:aa}:(o0 out g).length=out.length+(if(lX out g).head?=some g then 0 else 1):=by
 unfold o0
 split
 ·rfl
 ·have:=vbi List.length (wv out g)
  simp at this ⊢
  omega
theorem DF(out:List aa)(g:aa)(hl:out.length<=1000)(ha:∀x∈out,x.Arcs.length<=40):uF out g=some (o0 out g):=by
 have hpq:=wv out g
 have hlen:=vbi List.length hpq
 simp only[vaQ]at hlen
 have hloop:jE out g 0=some ((lW out g).length:Int):=by
  have key:∀(r pre:List aa),lW out g=pre++r->jE out g (pre.length:Int)=some ((lW out g).length:Int):=by
   intro r
   induction r with
   | nil =>
    intro pre h
    unfold jE
    rw[aK (x:=(pre.length:Int))]
    ·rw[h];simp
    ·have hJ:ls out g (pre.length:Int)=some false:=by
      unfold ls
      have hp:pre=lW out g:=by rw[h];simp
      cases hq:lX out g with
      |nil=>
       rw[vag]
       rw[hq]at hlen
       simp at hlen ⊢
       rw[hp];omega
      | cons y t =>
       have hi:ep out (pre.length:Int)=some y:=by
        have h2:=eS pre y t
        rw[hp,<-hq,hpq]at h2
        rw[hp];exact h2
       have hy:y∈out:=by rw[<-hpq,hq];simp
       rw[vae (by rw[hq]at hlen;simp at hlen ⊢;rw[hp];omega),hi,vaa,Bv y g (by have:=ha y hy;omega),vaa]
       have:=tM hq
       unfold rq at this
       rw[this]
     unfold kG
     rw[hJ,vaa,vag (by simp)]
   | cons x r ih =>
    intro pre h
    have hx:x∈lW out g:=by rw[h];simp
    have hlt:=yD hx
    have hpl:pre.length<(lW out g).length:=by rw[h];simp
    have hJ:ls out g (pre.length:Int)=some true:=by
     unfold ls
     have hi:ep out (pre.length:Int)=some x:=by
      have h2:=eS pre x (r++lX out g)
      have h3:pre++x::(r++lX out g)=out:=by
       have h4:(pre++x::r)++lX out g=out:=h▸hpq
       simpa using h4
      rw[h3]at h2;exact h2
     have hxo:x∈out:=by rw[<-hpq];simp[hx]
     rw[vae (by simp;omega),hi,vaa,Bv x g (by have:=ha x hxo;omega),vaa]
     unfold rq at hlt
     rw[hlt]
    have hb:kG out g (pre.length:Int)=some (.inl (((pre++[x]).length:Nat):Int)):=by
     unfold kG
     rw[hJ,vaa,vae rfl,cR (by omega) (by omega)]
     simp
    unfold jE
    rw[dc hb]
    have:=ih (pre++[x]) (by rw[h];simp)
    unfold jE at this
    exact this
  exact key (lW out g) [] rfl
 unfold uF
 rw[hloop,vaa]
 have hJ3:qY out g ((lW out g).length:Int)=some (decide ((lX out g).head?=some g)):=by
  unfold qY
  cases hq:lX out g with
  |nil=>rw[vag (by rw[hq]at hlen;simp at hlen ⊢;omega)];simp
  | cons y t =>
   have hi:ep out ((lW out g).length:Int)=some y:=by
    have h2:=eS (lW out g) y t
    rw[<-hq,hpq]at h2;exact h2
   have hy:y∈out:=by rw[<-hpq,hq];simp
   rw[vae (by rw[hq]at hlen;simp at hlen ⊢;omega),hi,vaa,ww y g (by have:=ha y hy;omega),vaa]
   simp
 rw[hJ3,vaa]
 unfold o0
 by_cases hc:(lX out g).head?=some g
 ·rw[vae (by simpa using hc),vae hc]
 ·rw[vag (by simpa using hc),vag hc,AY _ _ (by omega),vaa]
  have e1:out.take (lW out g).length=lW out g:=by
   have h2:(lW out g++lX out g).take (lW out g).length=lW out g:=vbZ
   rw[hpq]at h2;exact h2
  have e2:out.drop (lW out g).length=lX out g:=by
   have h2:(lW out g++lX out g).drop (lW out g).length=lX out g:=List.drop_left
   rw[hpq]at h2;exact h2
  rw[e1,mE (by simp;omega),vaa,mE (by simp;omega),vaa,sV _ _ (by omega),vaa,e2,mE (by simp;omega),vaa]
  simp
structure RS(l out:List aa):Prop where
 srt:nc rq out
 nd:out.Nodup
 cl:∀g∈out,Cl l g
 len:out.length<=401
theorem RS.arcs{l out:List aa}(hok:∀g∈l,oY g)(h:RS l out):∀g∈out,g.Arcs.length<=40:=fun g hg=>by have:=eT ((h.cl g hg).ok hok).arcs;omega
theorem RS.put{l out:List aa}{g:aa}(h:RS l out)(hg:Cl l g)(hl:out.length<=400):RS l (o0 out g):=by
 refine⟨BI h.srt,DG h.srt h.nd,fun x hx=>?_,?_⟩
 ·rcases eJ.1 hx with hx|rfl
  ·exact h.cl x hx
  ·exact hg
 ·rw[sP];split<;>omega
theorem Fs(l:List aa)(hl:l.length<=100)(ha:∀g∈l,g.Arcs.length<=40):(∀e,gA l=some e->dm l (l.length:Int) [] 0=some (.inl ([],e)))/\(gA l=none->∃out,dm l (l.length:Int) [] 0=some (.inr out)/\RS l out/\(∀g,g∈out↔g∈l)):=by
 have key:∀(r pre out:List aa),l=pre++r->(∀g∈pre,oY g)->nc rq out->out.Nodup->(∀g,g∈out↔g∈pre)->out.length<=pre.length->
   (match r.find? (fun g=>vG g !=0)with
   |some g=>dm l (l.length:Int) out (pre.length:Int)=some (.inl ([],vG g))
   |none=>∃out',dm l (l.length:Int) out (pre.length:Int)=some (.inr out')/\nc rq out'/\out'.Nodup/\(∀g,g∈out'↔g∈l)/\out'.length<=l.length):=by
  intro r
  induction r with
  |nil=>
   intro pre out h hp hs hn hm ho
   simp only[List.find?_nil]
   refine⟨out,?_,hs,hn,fun g=>by rw[hm,h];simp,by rw[h];simpa using ho⟩
   unfold dm
   refine aK ?_
   unfold eX
   rw[vag (by rw[h];simp)]
  | cons x r ih =>
   intro pre out h hp hs hn hm ho
   have hlt:pre.length<l.length:=by rw[h];simp
   have hx:=ha x (by rw[h];simp)
   have hi:ep l (pre.length:Int)=some x:=by rw[h];exact eS pre x r
   rw[List.find?_cons]
   cases hv:(vG x !=0)with
   |true=>
    simp only
    unfold dm
    refine aK ?_
    unfold eX
    rw[vae (by simpa using hlt),hi,vaa,qx x (by omega),vaa,vae hv]
   | false =>
    simp only
    have hxo:oY x:=nN.1 (by simpa using hv)
    have harc:∀y∈out,y.Arcs.length<=40:=fun y hy=>by have:=eT (hp y ((hm y).1 hy)).arcs;omega
    have hb:eX l (l.length:Int) out (pre.length:Int)=some (.inl (o0 out x,(((pre++[x]).length:Nat):Int))):=by
     unfold eX
     rw[vae (by simpa using hlt),hi,vaa,qx x (by omega),vaa,vag (by simp[hv]),DF out x (by omega) harc,vaa,cR (by omega) (by omega)]
     congr 3
     simp
    have:=ih (pre++[x]) (o0 out x) (by rw[h];simp) (fun g hg=>by
     rcases vaD.1 hg with hg|hg
     ·exact hp g hg
     ·rw[va2.1 hg];exact hxo) (BI hs) (DG hs hn) (fun g=>by rw[eJ,hm];simp) (by rw[sP];split<;>simp<;>omega)
    unfold dm at this ⊢
    rw[dc hb]
    exact this
 have:=key l [] [] rfl (by simp) (by simp[nc]) (by simp) (by simp) (by simp)
 rw[show(([]:List aa).length:Int)=0 from rfl]at this
 unfold gA
 constructor
 ·intro e he
  cases hf:l.find? (fun g=>vG g !=0)with
  |none=>rw[hf]at he;cases he
  |some g=>rw[hf]at this he;cases he;exact this
 ·intro he
  have hok:=mo (by unfold gA;exact he)
  cases hf:l.find? (fun g=>vG g !=0)with
  |some g=>rw[hf]at he;cases he
  |none=>
   rw[hf]at this
   obtain⟨out,h1,h2,h3,h4,h5⟩:=this
   exact⟨out,h1,⟨h2,h3,fun g hg=>.base g ((h4 g).1 hg),by omega⟩,h4⟩
structure IS(l out0 out v:List aa):Prop where
 rs:RS l out
 old:∀g∈out0,g∈out
 new:∀g∈v,g∈out
 all:∀g∈out,g∈out0\/g∈v
 cnt:out.length=out0.length+v.length
theorem Fw{l first:List aa}(hok:∀g∈l,oY g)(hf:∀g,g∈first↔g∈l)(hfl:first.length<=401){out0 out v:List aa}{a:aa}(ha:Cl l a)(h:IS l out0 out v):∃o:List aa×List aa,ll first (first.length:Int) a.Caller a.Callee a.Arcs out v 0=some o/\(IS l out0 o.1 o.2/\(∀g∈out,g∈o.1)/\out.length<=o.1.length/\(o.1.length<=400->∀b∈first,a.Callee=b.Caller->bK a b∈o.1)):=by
 unfold ll
 have key:=tf first (fun(zz:List aa×List aa×Int)=>gQ first (first.length:Int) a.Caller a.Callee a.Arcs zz.1 zz.2.1 zz.2.2) (fun i (s:List aa×List aa)=>(s.1,s.2,i)) (fun s=>s)
  (fun i s=>IS l out0 s.1 s.2/\(∀g∈out,g∈s.1)/\out.length<=s.1.length/\(s.1.length<=400->∀(q:Nat) b,q<i->first[q]? =some b->a.Callee=b.Caller->bK a b∈s.1)) (fun i hi s hs=>?_) (fun s hs=>?_) (out,v) ⟨h,fun g hg=>hg,vap _,fun _ q b hq=>absurd hq (vaI _)⟩
 ·obtain⟨o,h1,h2,h3,h4,h5⟩:=key
  refine⟨o,h1,h2,h3,h4,fun hl b hb hc=>?_⟩
  obtain⟨q,hq⟩:=vbv hb
  exact h5 hl q b (vaZ.1 hq).1 hq hc
 ·obtain⟨out1,v1⟩:=s
  obtain⟨k1,k2,k3,k4⟩:=hs
  simp only at k1 k2 k3 k4 ⊢
  have hao:=ha.ok hok
  have hbm:first[i]∈l:=(hf _).1 (vaO hi)
  have hbo:=hok _ hbm
  have la:=eT hao.arcs
  have lb:=eT hbo.arcs
  have hw:bU ((i:Int)+1)=((i+1:Nat):Int):=by rw[cR (by omega) (by omega)];omega
  have hcmp:ni a first[i]=if a.Callee=first[i].Caller then(bK a first[i],0)else(FX,6):=by
   unfold ni
   rw[vag (by simp[nN.2 hao]),vag (by simp[nN.2 hbo])]
  have hcomp:iE (⟨a.Caller,a.Callee,a.Arcs⟩:aa) first[i]=some (ni a first[i]):=uh a first[i] (by omega) (by omega)
  unfold gQ
  rw[vae (by simpa using hi),d9 first i hi,vaa,hcomp,vaa,hcmp]
  by_cases hc:a.Callee=first[i].Caller
  ·simp only[hc,if_true]
   have hJ:gr out1 0=some (decide (out1.length>400)):=by
    unfold gr
    rw[vag (by simp)]
    congr 1;rw[vbt];simp;omega
   rw[hJ,vaa]
   by_cases hbig:out1.length>400
   ·rw[vae (by simpa using hbig),hw]
    exact⟨(out1,v1),rfl,k1,k2,k3,fun hl=>by simp only at hl;omega⟩
   ·rw [vag (by simpa using hbig)]
    have hcl:Cl l (bK a first[i]):=.comp _ _ ha (.base _ hbm) hc
    have hrs:=k1.rs.put hcl (by omega)
    rw[DF out1 _ (by have:=k1.rs.len;omega) (k1.rs.arcs hok),vaa,sP]
    have hdone:∀(q:Nat) b,q<i+1->first[q]? =some b->a.Callee=b.Caller->bK a b∈o0 out1 (bK a first[i]):=fun q b hq hb hcb=>by
     by_cases hqi:q=i
     ·subst hqi
      rw[vab hi]at hb;cases hb
      exact eJ.2 (.inr rfl)
     ·exact eJ.2 (.inl (k4 (by omega) q b (by omega) hb hcb))
    by_cases hin:(lX out1 (bK a first[i])).head?=some (bK a first[i])
    ·rw[vae hin,vag (by simp),hw]
     have he:o0 out1 (bK a first[i])=out1:=by unfold o0;rw[vae hin]
     rw[he]at hdone ⊢
     exact⟨(out1,v1),rfl,k1,k2,k3,fun _ q b hq hb hcb=>hdone q b hq hb (hc.trans hcb)⟩
    ·rw [vag hin,vae (by simp; omega),mE (by have:=k1.cnt; have:=k1.rs.len; simp; omega),vaa,hw]
     refine⟨(o0 out1 (bK a first[i]),v1++[bK a first[i]]),rfl,⟨hrs,fun g hg=>eJ.2 (.inl (k1.old g hg)),fun g hg=>?_,fun g hg=>?_,?_⟩,fun g hg=>eJ.2 (.inl (k2 g hg)),(show out.length<=(o0 out1 (bK a first[i])).length by rw[sP];omega),fun _ q b hq hb hcb=>hdone q b hq hb (hc.trans hcb)⟩
     ·rcases vaD.1 hg with hg|hg
      ·exact eJ.2 (.inl (k1.new g hg))
      ·exact eJ.2 (.inr (va2.1 hg))
     ·rcases eJ.1 hg with hg|rfl
      ·rcases k1.all g hg with hg|hg
       ·exact .inl hg
       ·exact .inr (by simp[hg])
      ·exact .inr (by simp)
     ·simp only
      rw[sP,vag hin,k1.cnt]
      simp
      omega
  ·simp only[hc,if_false]
   have hJ:gr out1 6=some true:=by unfold gr;rfl
   rw[hJ,vaa,vae rfl,hw]
   refine⟨(out1,v1),rfl,k1,k2,k3,fun hl q b hq hb hcb=>?_⟩
   by_cases hqi:q=i
   ·subst hqi
    rw[vab hi]at hb;cases hb
    exact absurd hcb hc
   ·exact k4 hl q b (by omega) hb hcb
 ·unfold gQ
  rw[vag (by simp)]
theorem Fv{l first:List aa}(hok:∀g∈l,oY g)(hf:∀g,g∈first↔g∈l)(hfl:first.length<=401){out todo:List aa}(hrs:RS l out)(ht:∀a∈todo,a∈out)(htl:todo.length<=401):∃o:List aa×List aa,lk first todo (todo.length:Int) out [] 0=some o/\(IS l out o.1 o.2/\(o.1.length<=400->∀a∈todo,∀b∈first,a.Callee=b.Caller->bK a b∈o.1)):=by
 unfold lk
 have key:=tf todo (fun(zz:List aa×List aa×Int)=>gP first todo (todo.length:Int) zz.1 zz.2.1 zz.2.2) (fun i (s:List aa×List aa)=>(s.1,s.2,i)) (fun s=>s)
  (fun i s=>IS l out s.1 s.2/\(s.1.length<=400->∀(q:Nat) a,q<i->todo[q]? =some a->∀b∈first,a.Callee=b.Caller->bK a b∈s.1)) (fun i hi s hs=>?_) (fun s hs=>?_) (out,[]) ⟨⟨hrs,fun g hg=>hg,by simp,fun g hg=>.inl hg,by simp⟩,fun _ q a hq=>absurd hq (vaI _)⟩
 ·obtain⟨o,h1,h2,h3⟩:=key
  refine⟨o,h1,h2,fun hl a ha=>?_⟩
  obtain⟨q,hq⟩:=vbv ha
  exact h3 hl q a (vaZ.1 hq).1 hq
 ·obtain⟨out1,v1⟩:=s
  obtain⟨k1,k2⟩:=hs
  simp only at k1 k2 ⊢
  have hw:bU ((i:Int)+1)=((i+1:Nat):Int):=by rw[cR (by omega) (by omega)];omega
  obtain⟨⟨o1,o2⟩,e1,q1,q2,q3,q4⟩:=Fw hok hf hfl (hrs.cl _ (ht _ (vaO hi))) k1
  simp only at q1 q2 q3 q4
  unfold gP
  rw[vae (by simpa using hi),d9 todo i hi,vaa,e1,vaa,hw]
  refine⟨(o1,o2),rfl,q1,fun hl q a hq ha=>?_⟩
  simp only at hl
  have hlen:out1.length<=400:=by
   omega
  by_cases hqi:q=i
  ·subst hqi
   rw[vab hi]at ha;cases ha
   exact q4 hl
  ·exact fun b hb hc=>q2 _ (k2 hlen q a (by omega) ha b hb hc)
 ·unfold gP
  rw[vag (by simp)]
theorem Ft{l first:List aa}(hok:∀g∈l,oY g)(hf:∀g,g∈first↔g∈l)(h:RS l first):∃out:List aa,lj first first first=some out/\(RS l out/\(∀g∈l,g∈out)/\(out.length<=400->∀a∈out,∀b∈l,a.Callee=b.Caller->bK a b∈out)):=by
 unfold lj
 refine vZ (fun(zz:List aa×List aa)=>jD first zz.1 zz.2)
  (fun s=>RS l s.1/\(∀g∈l,g∈s.1)/\(∀g∈s.2,g∈s.1)/\s.2.length<=401/\(s.1.length<=400->∀a∈s.1,a∈s.2\/∀b∈first,a.Callee=b.Caller->bK a b∈s.1)) (fun s=>2 * (500 - s.1.length)+(if s.2=[]then 0 else 1)) _ ?_ (first,first) ⟨h,fun g hg=>(hf g).2 hg,fun g hg=>hg,h.len,fun _ a ha=>.inl ha⟩
 rintro⟨out,todo⟩ ⟨k1,k2,k3,k4,k5⟩
 simp only at k1 k2 k3 k4 k5 ⊢
 have hJ:li out todo=some (decide (todo≠[])&&decide (out.length<=400)):=by
  unfold li
  cases todo with
  |nil=>rw[vag (by simp)];simp
  |cons x r=>
   rw[vae (by simp)]
   simp
   omega
 unfold jD
 rw[hJ,vaa]
 by_cases hc:todo≠[]/\out.length<=400
 ·rw [vae (by simpa using hc)]
  obtain⟨⟨o1,o2⟩,e1,q1,q2⟩:=Fv hok hf h.len k1 k3 k4
  simp only at q1 q2
  rw[e1,vaa]
  have hc1:=q1.cnt
  have hl1:=q1.rs.len
  refine .inl ⟨_,rfl,⟨q1.rs,fun g hg=>q1.old g (k2 g hg),q1.new,(show o2.length<=401 by omega),fun hl a ha=>?_⟩,?_⟩
  ·simp only at hl ha ⊢
   rcases q1.all a ha with ha|ha
   ·right
    intro b hb hcc
    rcases k5 hc.2 a ha with ht|ht
    ·exact q2 hl a ht b hb hcc
    ·exact q1.old _ (ht b hb hcc)
   ·exact .inl ha
  ·simp only
   rw[vag hc.1]
   by_cases ho:o2=[]
   ·rw[vae ho];omega
   ·rw[vag ho]
    have:=vbO.2 ho
    omega
 ·rw[vag (by simpa using hc)]
  refine .inr ⟨_,rfl,k1,k2,fun hl a ha b hb hcc=>?_⟩
  have ht:todo=[]:=by
   cases todo with
   |nil=>rfl
   |cons x r=>exact absurd ⟨by simp,hl⟩ hc
  rcases k5 hl a ha with hx|hx
  ·rw[ht]at hx;cases hx
  ·exact hx b ((hf b).2 hb) hcc
theorem yG{l out:List aa}(hs:∀g∈l,g∈out)(hr:∀a∈out,∀b∈l,a.Callee=b.Caller->bK a b∈out):∀g,Cl l g->g∈out/\∀a∈out,a.Callee=g.Caller->bK a g∈out:=fun g hg=>by
 induction hg with
 |base g hg=>exact⟨hs g hg,fun a ha hc=>hr a ha g hg hc⟩
 |comp x y _ _ hc ihx ihy=>
  refine⟨ihy.2 x ihx.1 hc,fun a ha hca=>?_⟩
  rw[<-zk]
  exact ihy.2 _ (ihx.2 a ha hca) hc
theorem zV(l:List aa)(hl:l.length<=100)(ha:∀g∈l,g.Arcs.length<=40):(∀e,gA l=some e->eG l=some ([],e))/\(gA l=none->(∃r,eG l=some (r,0)/\mf l r/\r.length<=400)\/(eG l=some ([],7)/\CH l)):=by
 obtain⟨h1,h2⟩:=Fs l hl ha
 constructor
 ·intro e he
  unfold eG
  rw[h1 e he];rfl
 ·intro he
  have hok:=mo he
  obtain⟨first,e1,r1,m1⟩:=h2 he
  obtain⟨out,e2,r2,s2,c2⟩:=Ft hok m1 r1
  unfold eG
  rw[e1,vaa]
  simp only
  rw[e2,vaa]
  by_cases h4:out.length<=400
  ·left
   rw[vag (by simp;omega)]
   exact⟨out,rfl,⟨fun g=>⟨fun hg=>r2.cl g hg,fun hg=>(yG s2 (c2 h4) g hg).1⟩,r2.srt,r2.nd⟩,h4⟩
  ·right
   rw[vae (by simp;omega)]
   exact⟨rfl,out,r2.nd,by omega,r2.cl⟩
theorem mf.uniq{l r r':List aa}(h:mf l r)(h':mf l r'):r=r':=by
 refine qd kP (fun y _=>trivial) ?_ h.srt h'.srt
 exact(List.perm_ext_iff_of_nodup h.nd h'.nd).2 fun g=>(h.mem g).trans (h'.mem g).symm
theorem mf.few{l r:List aa}(h:mf l r)(hl:r.length<=400):¬CH l:=fun⟨q,hn,hq,hc⟩=>by
 have:=hn.length_le_of_subset (fun g hg=>(h.mem g).2 (hc g hg))
 omega
theorem zg(l:List aa)(hl:l.length<=100)(ha:∀g∈l,g.Arcs.length<=40):eG l=av l/\∃r e,av l=some (r,e)/\(e≠0->r=[])/\(e=0->mf l r/\r.length<=400/\∀g∈l,oY g)/\(gA l=none->e≠0->e=7/\CH l):=by
 obtain⟨p1,p2⟩:=Ak l hl ha
 obtain⟨q1,q2⟩:=zV l hl ha
 cases he:gA l with
 |some e=>
  obtain⟨h1,h2⟩:=p1 e he
  exact⟨(q1 e he).trans h1.symm,[],e,h1,fun _=>rfl,fun h=>absurd h h2,(fun h=>by cases h)⟩
 | none =>
  rcases p2 he with⟨r,h1,h2,h3⟩|⟨h1,h2⟩
  ·rcases q2 he with⟨r',k1,k2,_⟩|⟨_,k2⟩
   ·exact⟨by rw[h1,k1,h2.uniq k2],r,0,h1,fun h=>absurd rfl h,fun _=>⟨h2,h3,mo he⟩,fun _ h=>absurd rfl h⟩
   ·exact absurd k2 (h2.few h3)
  ·rcases q2 he with⟨r',_,k2,k3⟩|⟨k1,_⟩
   ·exact absurd h2 (k2.few k3)
   ·exact⟨by rw[h1,k1],[],7,h1,fun _=>rfl,fun h=>absurd h (by decide),fun _ _=>⟨rfl,h2⟩⟩
theorem EH:∀l:List aa,l.length<=w8 (l.map ac)
 |[]=>by simp
 |x::l=>by
  have h1:=EH l
  have h2:1<=yW (ac x):=by unfold ac;simp only[yW,pm];omega
  simp only[vaW,w8,va7];omega
theorem Do{l:List aa}(h:pm (sl ac l)+0<=1048576):l.length<=1048576:=by
 have h1:=EH l
 have h2:pm (sl ac l)=w8 (l.map ac)+1:=by simp only[pm,sl]
 omega
def mz(x:ag):Bool:=x.From==x.To&&x.Strict
theorem Ge(x:ag):cC x=some (mz x):=by
 unfold cC mz
 cases x.From==x.To<;>simp
theorem yX(s:List ag)(hl:s.length<4611686018427387904):dL s=some (s.any mz):=by
 unfold dL jI g7
 rw[AJ s (by omega) (fun zz=>gb s (s.length:Int) zz) (fun i x2=>(cC x2).bind fun r3=>if r3=true then some (.inr (.inl i))else some (.inl (bU (i+1)))) mz (fun i=>rfl) (fun x hx i=>by rw[Ge];simp only[vaa];split<;>rfl),vaa]
 have h:=vcz (xs:=s) (p:=mz)
 cases hf:s.findIdx? mz with
 |none=>rw[hf]at h;simp at h ⊢;exact h
 |some j=>rw[hf]at h;simp at h ⊢;exact h
def Dg(g:aa):Bool:=(g.Caller==g.Callee)&&decide (bK g g=g)
def rR(g:aa):Bool:=Dg g&&!(g.Arcs.any mz)
theorem Fy{g:aa}(h:oY g):cb g.Caller g.Callee g.Arcs=some (!Dg g):=by
 unfold cb Dg
 have hal:=eT (wb h h).arcs
 have hc:bH (⟨g.Caller,g.Callee,g.Arcs⟩:aa) (⟨g.Caller,g.Callee,g.Arcs⟩:aa)=some (bK g g):=re g g h.arcs h.arcs
 cases hq:g.Caller==g.Callee with
 |false=>rfl
 |true=>
  rw[vag (by simp),hc,vaa,A8 _ _ (by omega)]
  rfl
theorem FB(r:List aa)(hl:r.length<=1000)(hok:∀g∈r,oY g):dl r (r.length:Int) 0=some (if r.any rR=true then .inl ()else .inr ()):=by
 unfold dl
 refine iI r (by omega) (fun zz=>d7 r (r.length:Int) zz) (fun i x4=>(cb x4.Caller x4.Callee x4.Arcs).bind fun o9=>if o9=true then some (.inl (bU (i+1)))else(dL x4.Arcs).bind fun r12=>if(!r12)=true then some (.inr (.inl ()))else some (.inl (bU (i+1)))) rR (.inl ()) (.inr ()) (fun i=>rfl) (fun x hx i=>?_)
 have h:=hok x hx
 have hal:=eT h.arcs
 rw[Fy h,vaa,yX _ (by omega),vaa]
 unfold rR
 cases Dg x<;>cases x.Arcs.any mz<;>rfl
theorem wM{l r:List aa}{e:Int}(h:av l=some (r,e))(hl:e=0->r.length<=1000)(hok:e=0->∀g∈r,oY g):bZ l=some (if e≠0 then(false,e)else(!(r.any rR),0)):=by
 unfold bZ
 rw[h,vaa]
 by_cases he:e=0
 ·subst he
  simp only
  rw[vag (by simp),FB r (hl rfl) (hok rfl),vaa]
  cases r.any rR<;>simp
 ·simp only
  rw[vae (by simpa using he),vae he]
theorem C8(g:aa)(hl:g.Arcs.length<4611686018427387904):qi g=some (g.Arcs.any mz):=by
 unfold qi rJ
 rw[iI g.Arcs (by omega) (fun zz=>pB g.Arcs (g.Arcs.length:Int) zz) (fun i x2=>(kF x2.From x2.To x2.Strict).bind fun o5=>if o5=true then some (.inr (.inl ()))else some (.inl (bU (i+1)))) mz (.inl ()) (.inr ()) (fun i=>rfl) (fun x hx i=>by
  have hJ:kF x.From x.To x.Strict=some (mz x):=by
   unfold kF mz
   cases x.From==x.To<;>simp
  rw[hJ];simp only[vaa];split<;>rfl),vaa]
 cases g.Arcs.any mz<;>rfl
theorem En(r:List aa)(hl:r.length<=1000)(hok:∀g∈r,oY g):iV r (r.length:Int) 0=some (if r.any rR=true then .inl ()else .inr ()):=by
 unfold iV
 refine iI r (by omega) (fun zz=>ks r (r.length:Int) zz) (fun i x4=>(iE x4 x4).bind fun r5=>(gd r5.2 x4.Caller x4.Callee x4.Arcs r5.1.Caller r5.1.Callee r5.1.Arcs).bind fun o11=>if o11=true then some (.inr (.inl ()))else some (.inl (bU (i+1)))) rR (.inl ()) (.inr ()) (fun i=>rfl) (fun x hx i=>?_)
 have h:=hok x hx
 have hal:=eT h.arcs
 have hac:=eT (wb h h).arcs
 rw[uh x x (by omega) (by omega),vaa]
 have hJ:gd (ni x x).2 x.Caller x.Callee x.Arcs (ni x x).1.Caller (ni x x).1.Callee (ni x x).1.Arcs=some (rR x):=by
  have hcr:ni x x=if x.Callee=x.Caller then(bK x x,0)else(FX,6):=by
   unfold ni
   rw[vag (by simp[nN.2 h]),vag (by simp[nN.2 h])]
  rw[hcr]
  unfold gd rR Dg
  have hs:lm (⟨(bK x x).Caller,(bK x x).Callee,(bK x x).Arcs⟩:aa) (⟨x.Caller,x.Callee,x.Arcs⟩:aa)=some (decide (bK x x=x)):=ww (bK x x) x (by omega)
  have hf:qi (⟨x.Caller,x.Callee,x.Arcs⟩:aa)=some (x.Arcs.any mz):=C8 x (by omega)
  by_cases hq:x.Callee=x.Caller
  ·rw[vae hq]
   simp only
   rw[vae (by simp),hs,vaa]
   by_cases hd:bK x x=x
   ·rw[vae (by simpa using hd),hf,vaa]
    simp[hd,hq]
   ·rw[vag (by simpa using hd)]
    simp[hd]
  ·rw[vag hq]
   simp only
   rw[vag (by simp)]
   have:(x.Caller==x.Callee)=false:=by simpa using fun e=>hq e.symm
   rw[this];rfl
 rw[hJ,vaa]
 cases rR x<;>rfl
theorem wx{l r:List aa}{e:Int}(h:eG l=some (r,e))(hl:e=0->r.length<=1000)(hok:e=0->∀g∈r,oY g):lq l=some (if e≠0 then(false,e)else(!(r.any rR),0)):=by
 unfold lq
 rw[h,vaa]
 by_cases he:e=0
 ·subst he
  simp only
  rw[vag (by simp),En r (hl rfl) (hok rfl),vaa]
  cases r.any rR<;>simp
 ·simp only
  rw[vae (by simpa using he),vae he]
theorem xQ(r:List aa)(hl:r.length<=1000)(ha:∀g∈r,g.Arcs.length<=40):mg r r=some true:=by
 unfold mg lp
 rw[vag (by simp),show(0:Int)=((0:Nat):Int)from rfl,ig r (by omega) (fun zz=>eZ r r (r.length:Int) zz) (fun _=>false) (.inl ()) (.inr ()) (fun i hi=>?_) ?_ 0 (vaJ _),vaa]
 ·simp
 ·unfold eZ
  rw[vag (by simp)]
 ·unfold eZ
  rw[vae (by simpa using hi),d9 r i hi,vaa,vaa,ww _ _ (by have:=ha _ (vaO hi);omega),vaa]
  simp
theorem zf{l:List aa}(hl:l.length<=100)(ha:∀g∈l,g.Arcs.length<=40):∃r e,av l=some (r,e)/\eG l=some (r,e)/\(e≠0->r=[])/\(e=0->mf l r/\r.length<=400/\(∀g∈l,oY g)/\∀g∈r,oY g)/\(gA l=none->e≠0->e=7/\CH l)/\
  bZ l=some (if e≠0 then(false,e)else(!(r.any rR),0))/\lq l=some (if e≠0 then(false,e)else(!(r.any rR),0))/\r.length<=400/\(∀g∈r,g.Arcs.length<=40):=by
 obtain⟨h0,r,e,h1,h2,h3,h4⟩:=zg l hl ha
 have hok:e=0->∀g∈r,oY g:=fun he g hg=>((h3 he).1.mem g).1 hg|>.ok (h3 he).2.2
 have hlr:e=0->r.length<=1000:=fun he=>by have:=(h3 he).2.1;omega
 refine⟨r,e,h1,h0.trans h1,h2,fun he=>⟨(h3 he).1,(h3 he).2.1,(h3 he).2.2,hok he⟩,h4,wM h1 hlr hok,wx (h0.trans h1) hlr hok,?_,?_⟩
 ·by_cases he:e=0
  ·exact(h3 he).2.1
  ·rw[h2 he];simp
 ·by_cases he:e=0
  ·exact fun g hg=>by have:=eT (hok he g hg).arcs;omega
  ·rw[h2 he];simp
theorem Df(l:List aa)(hl:l.length<=1000)(ha:∀g∈l,g.Arcs.length<=40)(g:aa):oc l g=some (decide (g∈l)):=by
 unfold oc q5
 rw[iI l (by omega) (fun zz=>od g l (l.length:Int) zz) (fun i x2=>(dH x2 g).bind fun r3=>if r3=true then some (.inr (.inl ()))else some (.inl (bU (i+1)))) (fun x=>decide (x=g)) (.inl ()) (.inr ()) (fun i=>rfl) (fun x hx i=>by rw[A8 x g (by have:=ha x hx;omega)];simp only[vaa];split<;>rfl),vaa]
 have:l.any (fun x=>decide (x=g))=decide (g∈l):=by
  rw[vbt]
  simp
 rw[this]
 cases decide (g∈l)<;>rfl
theorem Es(r:List aa)(hl:r.length<=60):du r (r.length:Int) [] 0=some r.reverse:=by
 unfold du
 have:=tf r.reverse (fun(zz:List aa×Int)=>bM r (r.length:Int) zz.1 zz.2) (fun i (s:List aa)=>(s,i)) (fun s=>s) (fun i s=>s=r.reverse.take i) (fun i hi s hs=>?_) (fun s hs=>?_) [] (by simp)
 ·obtain⟨s',h1,h2⟩:=this
  rw[h1,h2,vb5]
 ·subst hs
  have hi':i<r.length:=by simpa using hi
  refine⟨r.reverse.take (i+1),?_,rfl⟩
  unfold bM
  have hw:bU (bU ((r.length:Int) - 1) - (i:Int))=((r.length - 1 - i:Nat):Int):=by
   rw[cR (n:=(r.length:Int) - 1) (by omega) (by omega),cR (by omega) (by omega)];omega
  simp only
  rw[vae (by simpa using hi'),hw,d9 r _ (by omega),vaa,mE (by simp;omega),vaa,cR (by omega) (by omega),vbU hi,List.getElem_reverse]
  rfl
 ·subst hs
  unfold bM
  simp
theorem B3{l:List aa}(h:∀g∈l,oY g):gA l=none:=by
 unfold gA
 rw[vbV,vbR]
 exact fun g hg=>by simp[nN.2 (h g hg)]
theorem Fd{l r q:List aa}(h:mf l r)(hq:∀g∈q,g∈r){g:aa}(hg:Cl q g):g∈r:=by
 induction hg with
 |base g hg=>exact hq g hg
 |comp a b _ _ hc iha ihb=>exact(h.mem _).2 (.comp _ _ ((h.mem _).1 iha) ((h.mem _).1 ihb) hc)
theorem CM{l r:List aa}(h:mf l r)(hok:∀g∈r,oY g)(hl:r.length<=60):av r.reverse=some (r,0):=by
 obtain⟨r2,e2,k1,_,_,k3,k4,_⟩:=zf (l:=r.reverse) (by simp;omega) (fun g hg=>by have:=eT (hok g (vbo.1 hg)).arcs;omega)
 have hsub:∀g,Cl r.reverse g->g∈r:=fun g hg=>Fd h (fun g hg=>vbo.1 hg) hg
 by_cases he:e2=0
 ·subst he
  have h2:=(k3 rfl).1
  have h3:mf r.reverse r:=⟨fun g=>⟨fun hg=>.base g (vbo.2 hg),hsub g⟩,h.srt,h.nd⟩
  rw[k1,h2.uniq h3]
 ·obtain⟨_,q,hn,hq,hc⟩:=k4 (B3 fun g hg=>hok g (vbo.1 hg)) he
  have:=hn.length_le_of_subset (fun g hg=>hsub g (hc g hg))
  omega
theorem CX(r a:List aa)(hl:r.length<=1000)(ha:∀g∈r,g.Arcs.length<=40)(hla:a.length<=1000)(h:∀g∈a,g∈r):dv r a (a.length:Int) 0=some (.inr ()):=by
 unfold dv
 rw[iI a (by omega) (fun zz=>ey r a (a.length:Int) zz) (fun i x24=>(oc r x24).bind fun r25=>if(!r25)=true then some (.inr (.inl ()))else some (.inl (bU (i+1)))) (fun _=>false) (.inl ()) (.inr ()) (fun i=>rfl) (fun x hx i=>by rw[Df r hl ha];simp[h x hx])]
 simp
theorem CZ(l r:List aa)(hC:mf l r)(hok:∀g∈r,oY g)(hl:r.length<=1000){x:aa}(hx:x∈r):dy r (r.length:Int) x.Caller x.Callee x.Arcs 0=some (.inr ()):=by
 have ha:∀g∈r,g.Arcs.length<=40:=fun g hg=>by have:=eT (hok g hg).arcs;omega
 unfold dy
 rw[iI r (by omega) (fun zz=>ez r (r.length:Int) x.Caller x.Callee x.Arcs zz) (fun i x32=>(cj (⟨x.Caller,x.Callee,x.Arcs⟩:aa) x32).bind fun r33=>(cm r r33.2 r33.1.Caller r33.1.Callee r33.1.Arcs).bind fun o36=>if o36=true then some (.inr (.inl ()))else some (.inl (bU (i+1)))) (fun _=>false) (.inl ()) (.inr ()) (fun i=>rfl) (fun y hy i=>?_)]
 ·simp
 ·have hc:cj (⟨x.Caller,x.Callee,x.Arcs⟩:aa) y=some (ni x y):=Al x y (by have:=ha x hx;omega) (by have:=ha y hy;omega)
  rw[hc,vaa]
  have hJ:cm r (ni x y).2 (ni x y).1.Caller (ni x y).1.Callee (ni x y).1.Arcs=some false:=by
   have hcr:ni x y=if x.Callee=y.Caller then(bK x y,0)else(FX,6):=by
    unfold ni
    rw[vag (by simp[nN.2 (hok x hx)]),vag (by simp[nN.2 (hok y hy)])]
   rw[hcr]
   unfold cm
   by_cases hq:x.Callee=y.Caller
   ·rw[vae hq]
    have hh:oc r (⟨(bK x y).Caller,(bK x y).Callee,(bK x y).Arcs⟩:aa)=some (decide (bK x y∈r)):=Df r hl ha (bK x y)
    have hm:bK x y∈r:=(hC.mem _).2 (.comp _ _ ((hC.mem _).1 hx) ((hC.mem _).1 hy) hq)
    simp only
    rw[vae (by simp),hh,vaa]
    simp[hm]
   ·rw[vag hq]
    simp only
    rw[vag (by simp)]
  rw[hJ];rfl
theorem CY(l r:List aa)(hC:mf l r)(hok:∀g∈r,oY g)(hl:r.length<=1000):dw r (r.length:Int) 0=some (.inr ()):=by
 unfold dw
 rw[show(0:Int)=((0:Nat):Int)from rfl,ig r (by omega) (fun zz=>bQ r (r.length:Int) zz) (fun _=>false) (.inl ()) (.inr ()) (fun i hi=>?_) ?_ 0 (vaJ _)]
 ·simp
 ·unfold bQ
  rw[vag (by simp)]
 ·unfold bQ
  rw[vae (by simpa using hi),d9 r i hi,vaa,CZ l r hC hok hl (vaO hi),vaa]
  simp
theorem oZ(l:List aa)(h:pm (sl ac l)+0<=1048576):gv l=some true:=by
 have hlen:=Do h
 unfold gv
 rw[Ff 4 l (by omega),vaa]
 cases hf:(l.all (fun g=>decide (g.Arcs.length<=40))&&decide ((l.length:Int)<=4))with
 |false=>rw[vae (by simp),oe];rfl
 | true =>
  obtain⟨h1,h2⟩:=C9 hf
  obtain⟨r,e,k1,_,k2,k3,_⟩:=zf (l:=l) (by omega) h1
  rw[vag (by simp),k1,vaa]
  by_cases he:e=0
  ·subst he
   obtain⟨hC,_,_,hok⟩:=k3 rfl
   simp only
   rw[vag (by simp)]
   by_cases hbig:r.length>60
   ·rw[vae (by simp;omega),oe];rfl
   ·have ha:∀g∈r,g.Arcs.length<=40:=fun g hg=>by have:=eT (hok g hg).arcs;omega
    have hJ:dt r r 0=some false:=by
     unfold dt
     rw[vag (by simp),xQ r (by omega) ha];rfl
    rw[vag (by simp;omega),Es r (by omega),vaa,CM hC hok (by omega),vaa,hJ,vaa,vag (by simp),CX r l (by omega) ha (by omega) (fun g hg=>(hC.mem g).2 (.base g hg)),vaa]
    simp only
    rw[CY l r hC hok (by omega),vaa]
    simp only
    rw[oe];rfl
  ·simp only
   rw[vae (by simpa using he),k2 he]
   simp only[List.length_nil]
   rw[vae (by rfl),oe];rfl
end Go.Proofs.YtoficachfgggjaaDoor
