/- PROVED: a part of the proof. Conditions: none. -/
import Derived.Test.YtankopenjcbeeaaGreatDoords3
import Derived.Test.YtankopenjcbeeaaGreatDoords4
set_option linter.unusedSimpArgs false
set_option linter.unusedVariables false
noncomputable section
namespace Go.Proofs.YtankopenjcbeeaaGreatDoor
open Go
section plain
variable{σ X:Type}
def rh(body:σ->Option (σ⊕X)):Nat->σ->Option X
 |0,_=>none
 |n+1,s=>match body s with
  |none=>none
  |some (.inl s')=>rh body n s'
  |some (.inr x)=>some x
theorem J5{body:σ->Option (σ⊕X)}:∀{n:Nat} {s:σ} {x:X},rh body n s=some x->∀k,rh body (n+k) s=some x
 |0,_,_,h,_=>by cases h
 | n + 1,s,x,h,k => by
  rw[Nat.add_right_comm]
  unfold rh at h ⊢
  split at h
  ·cases h
  ·exact J5 h k
  ·exact h
theorem L1{body:σ->Option (σ⊕X)}{n m:Nat}{s:σ}{x y:X}(h1:rh body n s=some x)(h2:rh body m s=some y):x=y:=by
 have h3:=J5 h1 m
 have h4:=J5 h2 n
 rw[vca]at h4
 exact vbf (h3.symm.trans h4)
open Classical in
def St(body:σ->Option (σ⊕X))(s:σ):Option X:=if h:∃x n,rh body n s=some x then some h.choose else none
def qbV:Nat:=2 ^ 200
def loop(body:σ->Option (σ⊕X))(s:σ):Option X:=match rh body qbV s with
 |some x=>some x
 |none=>St body s
theorem CB{body:σ->Option (σ⊕X)}{s:σ}{x:X}:loop body s=some x↔∃n,rh body n s=some x:=by
 have hC:St body s=some x↔∃n,rh body n s=some x:=by
  unfold St
  constructor
  ·intro h
   split at h
   ·rename_i he;cases h;exact he.choose_spec
   ·cases h
  ·rintro⟨n,h⟩
   have he:∃x n,rh body n s=some x:=⟨x,n,h⟩
   rw[dif_pos he]
   obtain⟨m,hm⟩:=he.choose_spec
   rw[L1 hm h]
 unfold loop
 split
 ·rename_i y hy
  exact⟨λh=>⟨qbV,hy.trans h⟩,λ⟨n,h⟩=>vaS some (L1 hy h)⟩
 ·exact hC
theorem P7(body:σ->Option (σ⊕X))(s:σ):loop body s=match body s with
  |none=>none
  |some (.inl s')=>loop body s'
  |some (.inr x)=>some x:=by
 have key:∀y,loop body s=some y↔(match body s with
  |none=>none
  |some (.inl s')=>loop body s'
  |some (.inr x)=>some x)=some y:=by
  intro y
  rw[CB]
  constructor
  ·rintro⟨n,h⟩
   cases n with
   |zero=>cases h
   | succ n =>
    unfold rh at h
    cases hb:body s with
    |none=>rw[hb]at h;cases h
    |some v=>
     cases v with
     |inl s'=>rw[hb]at h;exact CB.2 ⟨n,h⟩
     |inr x=>rw[hb]at h;exact h
  ·intro h
   cases hb:body s with
   |none=>rw[hb]at h;cases h
   | some v =>
    cases v with
    |inl s'=>
     rw[hb]at h
     obtain⟨n,hn⟩:=CB.1 h
     exact⟨n+1,by unfold rh;rw[hb];exact hn⟩
    |inr x=>rw[hb]at h;exact⟨1,by unfold rh;rw[hb];exact h⟩
 cases h1:loop body s with
 | none =>
  cases h2:(match body s with
   |none=>none
   |some (.inl s')=>loop body s'
   |some (.inr x)=>some x)with
  |none=>rfl
  |some y=>rw[(key y).2 h2]at h1;cases h1
 |some y=>exact((key y).1 h1).symm
def dw{α:Type}(l:List α)(i:Int):Option α:=if 0<=i then l[i.toNat]? else none
theorem KZ{α β:Type}{o:Option α}{k:α->Option β}{x:β}(h:o.bind k=some x):∃a,o=some a/\k a=some x:=by
 cases o with
 |none=>cases h
 |some a=>exact⟨a,rfl,h⟩
theorem OB{β:Type}{b:Bool}{x y:Option β}{z:β}(h:(if b=true then x else y)=some z):(b=true/\x=some z)\/(b=false/\y=some z):=by
 cases b
 ·exact .inr ⟨rfl,h⟩
 ·exact .inl ⟨rfl,h⟩
end plain
structure mj(GE:List (Nat×List PVal))(m:Nat)(E:ko):Prop where
 ge:E.GE=GE
 low:∀b n,E.Γ b=some n->b<E.w.heap.size
 nt:m=0->∀b,¬E.T b
 gl:∀g cs,(g,cs)∈GE->VR E.Γ [] E.w (.eptr cs) (.pointer (some ⟨g,0,none⟩))
def cC(P:Program)(GE:List (Nat×List PVal))(m:Nat)(c:Code)(Q:Exit->ay->Prop)(st:ay):Prop:=
 ∀(ro:Option Nat) (E:ko) (bs0:bg) (a:Act) (w:World),mj GE m E->bs0.length=m % 1000->Mm P E bs0 st a w->CQ ro P c (Jr P E bs0 a.defers Q) a w
def EX(e:Exit)(st:ay):Exit->ay->Prop:=λe' st'=>e'=e/\st'=st
def pJ(P:Program)(m:Nat)(st st':ay):Prop:=∀(E:ko) (bs0:bg) (a:Act) (w:World),bs0.length=m % 1000->Mm P E bs0 st a w->Mm P E bs0 st' a w
section
variable{P:Program}{GE:List (Nat×List PVal)}{m:Nat}
theorem pJ.refl(st:ay):pJ P m st st:=λ_ _ _ _ _ h=>h
theorem pJ.trans{a b c:ay}(h:pJ P m a b)(h':pJ P m b c):pJ P m a c:=λE bs0 x w hb h0=>h' E bs0 x w hb (h E bs0 x w hb h0)
theorem pJ.of_less{st st':ay}(h:Wc st st')(hm:m % 1000<=st'.boxes.length):pJ P m st st':=λ_ _ _ _ hb hR=>hR.less h (by rw[hb];exact hm)
theorem cC.mono{c:Code}{Q Q':Exit->ay->Prop}{st:ay}(h:cC P GE m c Q st)(hq:∀e st,Q e st->∃st',pJ P m st st'/\Q' e st'):cC P GE m c Q' st:=
 λro E bs0 a w hE hb hR=>ew (h ro E bs0 a w hE hb hR) λe a' w' hP=>by
  obtain⟨hd,st1,hR1,hQ⟩:=hP
  obtain⟨st2,hw,hQ2⟩:=hq e st1 hQ
  exact⟨hd,st2,hw E bs0 a' w' hb hR1,hQ2⟩
theorem cC.imp{c:Code}{Q Q':Exit->ay->Prop}{st:ay}(h:cC P GE m c Q st)(hq:∀e st,Q e st->Q' e st):cC P GE m c Q' st:=h.mono λe st hQ=>⟨st,.refl st,hq e st hQ⟩
theorem cC.weak{c:Code}{Q:Exit->ay->Prop}{st st':ay}(hw:pJ P m st st')(h:cC P GE m c Q st'):cC P GE m c Q st:=
 λro E bs0 a w hE hb hR=>h ro E bs0 a w hE hb (hw E bs0 a w hb hR)
theorem cC.skip{Q:Exit->ay->Prop}{st:ay}(h:Q .normal st):cC P GE m .skip Q st:=λ_ _ _ _ _ _ _ hR=>JI ⟨rfl,st,hR,h⟩
theorem cC.label{l:Nat}{Q:Exit->ay->Prop}{st:ay}(h:Q .normal st):cC P GE m (.label l) Q st:=λ_ _ _ _ _ _ _ hR=>QO ⟨rfl,st,hR,h⟩
theorem cC.exit{id:Nat}{Q:Exit->ay->Prop}{st:ay}(h:Q (.exit id) st):cC P GE m (.exit id) Q st:=λ_ _ _ _ _ _ _ hR=>JH ⟨rfl,st,hR,h⟩
theorem cC.ret{Q:Exit->ay->Prop}{st:ay}(h:Q .ret st):cC P GE m .ret Q st:=λ_ _ _ _ _ _ _ hR=>Tv ⟨rfl,st,hR,h⟩
theorem cC.seq{x y:Code}{Q:Exit->ay->Prop}{st:ay}(h:cC P GE m x (λe st'=>match e with|.normal=>cC P GE m y Q st'|e=>Q e st') st):cC P GE m (.seq x y) Q st:=by
 intro ro E bs0 a w hE hb hR
 refine pD (ew (h ro E bs0 a w hE hb hR) λe a' w' hq=>?_)
 obtain⟨hd,st',hR',hq⟩:=hq
 cases e with
 |normal=>
  have:=hq ro E bs0 a' w' hE hb hR'
  rw[hd]at this
  exact this
 |exit id=>exact⟨hd,st',hR',hq⟩
 |goto l=>exact⟨hd,st',hR',hq⟩
 |ret=>exact⟨hd,st',hR',hq⟩
 |panic c=>exact⟨hd,st',hR',hq⟩
 |outgrown=>exact⟨hd,st',hR',hq⟩
theorem cC.cond{c:Operand}{x y:Code}{Q:Exit->ay->Prop}{st:ay}{t:Bool}(hv:opv GE st.tmps c=.bool t)(h1:t=true->cC P GE m x Q st)(h2:t=false->cC P GE m y Q st):cC P GE m (.cond c x y) Q st:=by
 intro ro E bs0 a w hE hb hR
 obtain⟨Γ,bs,ow,h,hk⟩:=hR
 have hv':=h.opv a.defers c
 rw[hE.ge,hv]at hv'
 generalize hc:(Act.mk a.tmps a.defers).eval c=vc at hv'
 cases hv'
 exact Be (t:=t) hc (λht=>h1 ht ro E bs0 a w hE hb ⟨Γ,bs,ow,h,hk⟩) (λht=>h2 ht ro E bs0 a w hE hb ⟨Γ,bs,ow,h,hk⟩)
theorem cC.block{id:Nat}{c:Code}{Q:Exit->ay->Prop}{st:ay}(h:cC P GE m c (Mq id Q) st):cC P GE m (.block id c) Q st:=by
 intro ro E bs0 a w hE hb hR
 refine Cv (ew (h ro E bs0 a w hE hb hR) λe a' w' hq=>?_)
 obtain⟨hd,st',hR',hq⟩:=hq
 cases e with
 | exit id' =>
  simp only[Mq]at hq
  simp only[Exit.inBlock]
  split at hq
  ·rename_i hid;rw[vaJ hid];exact⟨hd,st',hR',hq⟩
  ·rename_i hid;rw[vaM hid];exact⟨hd,st',hR',hq⟩
 |normal=>exact⟨hd,st',hR',hq⟩
 |goto l=>exact⟨hd,st',hR',hq⟩
 |ret=>exact⟨hd,st',hR',hq⟩
 |panic c=>exact⟨hd,st',hR',hq⟩
 |outgrown=>exact⟨hd,st',hR',hq⟩
theorem cC.text{A:List Nat}{id:Nat}{ops:Array Oper}{Q:Exit->ay->Prop}{st:ay}(hd:ops.toList.all db=true)
  (h:b8 P GE A ops (Q .normal) ops.toList st.boxes.length {st with boxes:=st.boxes++ey P ops.toList}):cC P GE m (.region id ops false) Q st:=by
 intro ro E bs0 a w hE hb hR
 obtain⟨rfl,_,_,_⟩:=hE
 refine ew (im (Q:=λe a' w'=>e=.normal/\Jr P E bs0 a.defers Q .normal a' w') hd (by rintro⟨_,_,h,_⟩;cases h) ?_) λe a' w' hq=>by obtain⟨rfl,hq⟩:=hq;exact hq
 exact DL hR hR.len (λa' w' st' hd hR' hK=>⟨rfl,hd,st',hR',hK⟩) h
def LQ{σ X:Type}(S:σ->ay)(ex:X->Exit)(so:X->ay):σ⊕X->Exit->ay->Prop
 |.inl s,e,st=>e=.normal/\st=S s
 |.inr x,e,st=>e≠.normal/\e=ex x/\st=so x
theorem cC.loop{σ X:Type}{S:σ->ay}{ex:X->Exit}{so:X->ay}{body:σ->Option (σ⊕X)}{c:Code}{s:σ}{x:X}(h:loop body s=some x)
  (hb:∀s y,body s=some y->cC P GE m c (LQ S ex so y) (S s)):cC P GE m (.loop c) (EX (ex x) (so x)) (S s):=by
 obtain⟨n,hn⟩:=CB.1 h
 intro ro E bs0 a w hE hb0 hR
 refine sW (λk a' w'=>a'.defers=a.defers/\∃s',Mm P E bs0 (S s') a' w'/\rh body k s'=some x) n ⟨rfl,s,hR,hn⟩ ?_
 intro k a1 w1 hI
 obtain⟨hd1,s1,hR1,hl⟩:=hI
 cases k with
 |zero=>cases hl
 | succ k =>
  unfold rh at hl
  split at hl
  ·cases hl
  ·rename_i s2 hs2
   refine ew (hb s1 _ hs2 ro E bs0 a1 w1 hE hb0 hR1) λe a' w' hq=>?_
   obtain⟨hd,st',hR',rfl,rfl⟩:=hq
   exact⟨k,Nat.lt_succ_self k,hd.trans hd1,s2,hR',hl⟩
  ·rename_i x2 hs2
   cases hl
   refine ew (hb s1 _ hs2 ro E bs0 a1 w1 hE hb0 hR1) λe a' w' hq=>?_
   obtain⟨hd,st',hR',hne,rfl,rfl⟩:=hq
   have hd':=hd.trans hd1
   cases hex:ex x with
   |normal=>exact absurd hex hne
   |exit id=>exact⟨hd',_,hR',rfl,rfl⟩
   |goto l=>exact⟨hd',_,hR',rfl,rfl⟩
   |ret=>exact⟨hd',_,hR',rfl,rfl⟩
   |panic c=>exact⟨hd',_,hR',rfl,rfl⟩
   |outgrown=>exact⟨hd',_,hR',rfl,rfl⟩
def If:List PVal->List PVal->List PVal
 |[],_=>[]
 |_::ps,[]=>.undef::If ps []
 |_::ps,.undef::qs=>.undef::If ps qs
 |p::ps,_::qs=>p::If ps qs
def uv:ax->ax->ax
 |_,.dead=>.dead
 |.cells cs own,.cells _ own'=>.cells cs (match own'.all λx=>decide (x∈own)with
  |true=>own'
  |false=>own)
 |p,_=>p
def MO:List ax->List ax->List ax
 |[],_=>[]
 |p::ps,[]=>p::MO ps []
 |p::ps,q::qs=>uv p q::MO ps qs
def qcN(B B':ax):Prop:=B=.dead\/B=B'\/∃cs own own',B'=.cells cs own/\B=.cells cs own'/\∀x∈own',x∈own
theorem PZ(p q:ax):qcN (uv p q) p:=by
 unfold uv
 split
 ·exact .inl rfl
 ·split
  ·rename_i h
   exact .inr (.inr ⟨_,_,_,rfl,rfl,λx hx=>by simpa using vaq.1 h x hx⟩)
  ·exact .inr (.inl rfl)
 ·exact .inr (.inl rfl)
theorem NN(p:PVal)(ps qs:List PVal):∃q r,If (p::ps) qs=q::If ps r/\(q=.undef\/q=p):=by
 cases qs with
 |nil=>exact⟨_,[],by simp[If],.inl rfl⟩
 |cons q qs=>cases q<;>first|(refine⟨p,qs,?_,.inr rfl⟩;simp only[If];done)|(refine⟨.undef,qs,?_,.inl rfl⟩;simp only[If];done)
theorem MQ:∀{l bs:List PVal} {i:Nat} {p:PVal},(If l bs)[i]? =some p->p=.undef\/l[i]? =some p
 |[],bs,i,p,h=>by simp[If]at h
 |q::l,bs,i,p,h=>by
  obtain⟨q',r,h1,h2⟩:=NN q l bs
  rw[h1]at h
  cases i with
  |zero=>simp at h;subst h;rcases h2 with h2|h2<;>simp[h2]
  |succ i=>simpa using MQ (by simpa using h)
theorem MR:∀{l bs:List PVal},(If l bs).length=l.length
 |[],bs=>by simp[If]
 |q::l,bs=>by obtain⟨q',r,h1,h2⟩:=NN q l bs;rw[h1];simp[MR]
theorem Jj:∀{l bs:List ax} {i:Nat} {B:ax},(MO l bs)[i]? =some B->∃B',l[i]? =some B'/\qcN B B'
 |[],bs,i,p,h=>by simp[MO]at h
 |q::l,[],i,B,h=>by
  simp only[MO]at h
  cases i with
  |zero=>simp at h;subst h;exact⟨q,rfl,.inr (.inl rfl)⟩
  |succ i=>simpa using Jj (by simpa using h)
 |q::l,r::bs,i,B,h=>by
  simp only[MO]at h
  cases i with
  |zero=>simp at h;subst h;exact⟨q,rfl,PZ q r⟩
  |succ i=>simpa using Jj (by simpa using h)
theorem MP:∀{l bs:List ax},(MO l bs).length=l.length
 |[],bs=>by simp[MO]
 |q::l,[]=>by simp only[MO,vbe,MP]
 |q::l,r::bs=>by simp only[MO,vbe,MP]
theorem pJ.forget{st:ay}(bt:List PVal)(bb:List ax)(own:List ((Nat×Nat)×TypeId))(ho:∀x∈own,x∈st.own):pJ P m st ⟨If st.tmps bt,MO st.boxes bb,own⟩:=by
 intro E bs0 a w hb hR
 obtain⟨Γ,bs,ow,h,hk⟩:=hR
 refine⟨Γ,bs,ow,?_,hk⟩
 exact{h with
  sz:=by rw[h.sz];exact MR.symm
  tm:=λt p v hp hv=>by
   rcases MQ hp with rfl|hp'
   ·exact .undef v
   ·exact h.tm t p v hp' hv
  bl:=by rw[h.bl];exact MP.symm
  bx:=λi b B hib hB=>by
   obtain⟨B',hB',hx⟩:=Jj hB
   obtain⟨k1,k2,k3⟩:=h.bx i b B' hib hB'
   rcases hx with rfl|rfl|⟨cs,own,own',rfl,rfl,_⟩
   ·exact⟨k1,k2,vzz⟩
   ·exact⟨k1,k2,k3⟩
   ·exact⟨k1,k2,k3⟩
  ot:=λt k e he=>h.ot t k e (ho _ he)
  ob:=λi j e cs own' b hB hj hib=>by
   obtain⟨B',hB',hx⟩:=Jj hB
   rcases hx with hx|rfl|⟨cs1,dL,own2,rfl,e2,hs⟩
   ·cases hx
   ·exact h.ob i j e cs own' b hB' hj hib
   ·cases e2;exact h.ob i j e _ dL b hB' (hs _ hj) hib}
theorem EX.of{c:Code}{e:Exit}{st st0:ay}{Q:Exit->ay->Prop}(h:cC P GE m c (EX e st0) st)(hq:Q e st0):cC P GE m c Q st:=
 h.imp λe' st' hx=>by obtain⟨rfl,rfl⟩:=hx;exact hq
end
structure GC where
 ρ:List Nat
 argsC:List PVal
 oa:List OA
 Bs:List ax
 Hc:List ax
 Bs':List ax
 Hc':List ax
 r:PVal
 rc:PVal
 ro:List (Nat×TypeId)
inductive It where
 |cg (c:GC)
 |cn (c:GC)
 |ar (i:Nat) (e:TypeId) (n:Nat) (cs:List PVal)
 |fz (i:Nat) (es:List (List PVal)) (lv rk:List Nat)
 |g (j:Nat) (b:Bool)
 |k
 |s
 |v (p:PVal)
 |x (cs:List PVal)
 |w (i:Nat) (B:ax)
 |c (r:PVal) (ro:List (Nat×TypeId))
 |dr (an:List Nat)
 |dx (an:List Nat) (X:List ax) (br:List (Nat×Nat)) (rw:List Nat)
 |pa (n:Nat)
 |pc (st0:ay) (e:Exit) (st1:ay)
 |b (p:PVal) (L:List (Nat×TypeId))
 |y (vs:List PVal)
 |z (l:List PVal)
 |e (vs:List PVal)
 |sh (t k:Nat) (e:TypeId)
def qp:List PVal->Nat->(PVal->Prop)->Prop
 |[],_,k=>k .undef
 |p::_,0,k=>k p
 |_::l,n+1,k=>qp l n k
theorem eJ:∀(l:List PVal) (n:Nat) (k:PVal->Prop),qp l n k=k (l.getD n .undef)
 |[],_,_=>by simp[qp]
 |_::_,0,_=>by simp[qp]
 |_::l,n+1,k=>by simp only[qp,eJ l n k,List.getD_cons_succ]
def dY{α:Type}:List α->Nat->α->(List α->Prop)->Prop
 |[],_,_,k=>k []
 |_::l,0,v,k=>k (v::l)
 |x::l,n+1,v,k=>dY l n v λl'=>k (x::l')
theorem bp{α:Type}:∀(l:List α) (n:Nat) (v:α) (k:List α->Prop),dY l n v k=k (l.set n v)
 |[],_,_,_=>by simp[dY]
 |_::_,0,_,_=>by simp[dY]
 |x::l,n+1,v,k=>by simp only[dY,bp l n v,List.set_cons_succ]
def ba{α:Type}:List α->(List α->Prop)->Prop
 |[],k=>k []
 |x::l,k=>ba l λl'=>k (x::l')
def IJ(l:List ax)(r:List ax)(k:List ax->Prop):Prop:=ba (l++r) k
theorem aG{α:Type}:∀(l:List α) (k:List α->Prop),ba l k=k l
 |[],_=>rfl
 |x::l,k=>by simp only[ba,aG l]
def UM:Value->(PVal->Prop)->Prop
 |.int a n,k=>k (.int a n)
 |.bool b,k=>k (.bool b)
 |.string s,k=>ba s.data.toList λl=>k (.str l)
 |v,k=>k (absV v)
theorem Tb(v:Value)(k:PVal->Prop):UM v k=k (absV v):=by
 unfold UM
 split
 ·rfl
 ·rfl
 ·rw[aG];rfl
 ·rfl
def kX(GE:List (Nat×List PVal))(tmps:List PVal)(x:Operand)(k:PVal->Prop):Prop:=
 match x with
 |.tmp t=>qp tmps t k
 |.const v=>UM v k
 |x=>k (opv GE tmps x)
theorem bJ(GE:List (Nat×List PVal))(tmps:List PVal)(x:Operand)(k:PVal->Prop):kX GE tmps x k=k (opv GE tmps x):=by
 cases x with
 |tmp t=>exact eJ _ _ _
 |const v=>exact Tb _ _
 |global g=>rfl
 |func f=>rfl
def Kd(GE:List (Nat×List PVal))(tmps:List PVal):List Operand->(List PVal->Prop)->Prop
 |[],k=>k []
 |x::l,k=>kX GE tmps x λp=>Kd GE tmps l λps=>k (p::ps)
theorem jn(GE:List (Nat×List PVal))(tmps:List PVal):∀(l:List Operand) (k:List PVal->Prop),Kd GE tmps l k=k (l.map (opv GE tmps))
 |[],_=>rfl
 |x::l,k=>by simp only[Kd,bJ,jn GE tmps l,vaZ]
def wK(GE:List (Nat×List PVal))(tmps:List PVal):List (Nat×Operand)->(List (Nat×PVal)->Prop)->Prop
 |[],k=>k []
 |x::l,k=>kX GE tmps x.2 λp=>wK GE tmps l λps=>k ((x.1,p)::ps)
theorem mr(GE:List (Nat×List PVal))(tmps:List PVal):∀(l:List (Nat×Operand)) (k:List (Nat×PVal)->Prop),wK GE tmps l k=k (l.map λx=>(x.1,opv GE tmps x.2))
 |[],_=>rfl
 |x::l,k=>by simp only[wK,bJ,mr GE tmps l,vaZ]
def TJ(GE:List (Nat×List PVal))(tmps:List PVal):Option Operand->(Option PVal->Prop)->Prop
 |none,k=>k none
 |some x,k=>kX GE tmps x λp=>k (some p)
theorem TK(GE:List (Nat×List PVal))(tmps:List PVal)(o:Option Operand)(k:Option PVal->Prop):TJ GE tmps o k=k (o.map (opv GE tmps)):=by
 cases o with
 |none=>rfl
 |some x=>simp only[TJ,bJ,van]
def EY(sc:List It)(f:PVal->Prop)(K:PVal->List It->Prop):Prop:=
 match sc with
 |.v p::sc'=>f p/\K p sc'
 |_=>False
def Lp(o:Option PVal)(K:PVal->Prop):Prop:=
 match o with
 |some p=>K p
 |none=>False
theorem vO{o:Option PVal}{K:PVal->Prop}(h:Lp o K):∃p,o=some p/\K p:=by
 unfold Lp at h
 split at h
 ·exact⟨_,rfl,h⟩
 ·exact h.elim
theorem km{sc:List It}{f:PVal->Prop}{K:PVal->List It->Prop}(h:EY sc f K):∃p sc',f p/\K p sc':=by
 unfold EY at h
 split at h
 ·exact⟨_,_,h⟩
 ·exact h.elim
def CC(P:Program)(GE:List (Nat×List PVal))(g:FuncId)(args:List PVal)(r:PVal)(ro:List (Nat×TypeId)):Prop:=eP 0 args/\C P GE g args [] [] r ro []
def ED(P:Program)(t:TypeId)(es:List (PVal×PVal))(k:PVal)(ok:Bool):Option PVal:=
 match P.underlying t with
 | some (.map kt e) => match P.underlying kt with
  | some kd =>
   if jm kd k then
    match BH k es 0,BZ P e with
    |some (some (_,v)),_=>some (if ok then .tuple [v,.bool true]else v)
    |some none,some z=>some (if ok then .tuple [z,.bool false]else z)
    |_,_=>none
   else none
  |_=>none
 |_=>none
theorem Rk{P:Program}{t:TypeId}{es:List (PVal×PVal)}{k p:PVal}{ok:Bool}{H:List ax}{i:Nat}(hB:H[i]? =some (.map es))(h:ED P t es k ok=some p):vX P t (.mapr i) k ok H=some p:=by
 unfold ED at h
 unfold vX
 split at h
 ·rename_i kt e hu
  split at h
  ·rename_i kd hk
   simp only[hu,hB,hk]
   exact h
  ·cases h
 ·cases h
def L9(P:Program)(t:TypeId)(es:List (PVal×PVal))(k v:PVal):Option (List (PVal×PVal)):=
 match P.underlying t with
 | some (.map kt _) => match P.underlying kt with
  | some kd =>
   if jm kd k then
    match BH k es 0 with
    |some (some (j,_))=>some (es.set j (k,v))
    |some none=>some (es++[(k,v)])
    |none=>none
   else none
  |_=>none
 |_=>none
theorem Oc{P:Program}{t:TypeId}{es es':List (PVal×PVal)}{k v:PVal}{H:List ax}{i:Nat}(hB:H[i]? =some (.map es))(h:L9 P t es k v=some es'):fA P t (.mapr i) k v H=some (H.set i (.map es')):=by
 unfold L9 at h
 unfold fA
 split at h
 ·rename_i kt e hu
  split at h
  ·rename_i kd hk
   simp only[hu,hB,hk]
   split at h
   ·rename_i hkk
    rw[vaJ hkk]
    split at h
    ·rename_i hf;cases h;simp[hf]
    ·rename_i hf;cases h;simp[hf]
    ·cases h
   ·cases h
  ·cases h
 ·cases h
def jk:List ax->Nat->(ax->Prop)->Prop
 |[],_,_=>False
 |B::_,0,k=>k B
 |_::l,n+1,k=>jk l n k
theorem dl:∀{l:List ax} {n:Nat} {k:ax->Prop},jk l n k->∃B,l[n]? =some B/\k B
 |[],_,_,h=>h.elim
 |B::_,0,_,h=>⟨B,rfl,h⟩
 |_::l,n+1,k,h=>by simp only[jk]at h;obtain⟨B,h1,h2⟩:=dl h;exact⟨B,by simpa using h1,h2⟩
def QW(op:BinOp)(x:PVal):Bool:=match op,x with
 |.quo,_=>true
 |.rem,_=>true
 |.add,.str _=>true
 |_,.agg _=>true
 |_,_=>false
def PU(P:Program)(GE:List (Nat×List PVal))(op:Op)(tmps:List PVal)(H:List ax)(sc:List It)(K:PVal->List ax->List It->Prop):Prop:=
 match op with
 |.move x=>kX GE tmps x λp=>K p H sc
 |.assign x=>kX GE tmps x λp=>K p H sc
 |.pick c x y=>kX GE tmps c λpc=>match pc with
  |.bool true=>kX GE tmps x λp=>K p H sc
  |.bool false=>kX GE tmps y λp=>K p H sc
  |_=>False
 |.binOp op T x y _=>kX GE tmps x λvx=>kX GE tmps y λvy=>match QW op vx with
  |true=>EY sc (λp=>M7 P op T vx vy=some p) λp sc'=>K p H sc'
  |false=>Lp (M7 P op T vx vy) λp=>K p H sc
 |.unOp op _ x=>kX GE tmps x λvx=>Lp (X4 op vx) λp=>K p H sc
 |.convert s d x=>kX GE tmps x λvx=>EY sc (λp=>L7 P s d vx=some p) λp sc'=>K p H sc'
 |.extract t i=>kX GE tmps t λvt=>Lp (tt vt i) λp=>K p H sc
 |.nilCheck x=>kX GE tmps x λvx=>match vx with
  |.eptr cs=>K (.eptr cs) H sc
  |.bptr i off=>K (.bptr i off) H sc
  |.func (.func f) first cap=>K (.func (.func f) first cap) H sc
  |_=>False
 |.makeFunc fn first cap=>Kd GE tmps first.toList λf=>Kd GE tmps cap.toList λc=>K (.func fn f c) H sc
 | .load t x => kX GE tmps x fun vx => match vx with
  |.eptr cs=>EY sc (λp=>aZ P t cs=some p) λp sc'=>K p H sc'
  | .bptr i off => jk H i fun B => match B with
   |.cells cs _=>match sc with
    |.s::sc'=>Lp (aZ P t (cs.drop off)) λp=>K p H sc'
    |.v p::sc'=>aZ P t (cs.drop off)=some p/\K p H sc'
    |_=>False
   |_=>False
  |_=>False
 | .store t x y => kX GE tmps x fun vx => kX GE tmps y fun vy => match vx,sc with
  | .bptr i off,.s :: sc' => match bO vy with
   | some vs => jk H i fun B => match B with
    |.cells cs own=>match decide (vs.length=P.cellsOf t)&&(P.info? t).isSome&&decide (off+vs.length<=cs.length)&&vs.all PVal.one with
     |true=>ba (cs.take off++vs++cs.drop (off+vs.length)) λcs'=>dY H i (.cells cs' (own.filter λy=>y.1<off||off+vs.length<=y.1)) λH'=>K (.val undef) H' sc'
     |false=>False
    |_=>False
   |none=>False
  | .bptr i off,.x vs :: sc' => bO vy = some vs∧(jk H i fun B => match B with
    |.cells cs own=>match decide (vs.length=P.cellsOf t)&&(P.info? t).isSome&&decide (off+vs.length<=cs.length)&&vs.all PVal.one with
     |true=>ba (cs.take off++vs++cs.drop (off+vs.length)) λcs'=>dY H i (.cells cs' (own.filter λy=>y.1<off||off+vs.length<=y.1)) λH'=>K (.val undef) H' sc'
     |false=>False
    |_=>False)
  |.bptr i off,.w _ (.cells cs' own')::sc'=>jk H i λB=>(dN P t (.bptr 0 off) vy [B]=some [.cells cs' own'])/\dY H i (.cells cs' own') λH'=>K (.val undef) H' sc'
  |_,_=>False
 |.fieldAddr s x f=>kX GE tmps x λvx=>match vx with
  |.bptr i off=>Lp (aH P s (.bptr i off) f) λp=>K p H sc
  |vx=>EY sc (λp=>aH P s vx f=some p) λp sc'=>K p H sc'
 |.field t x f=>kX GE tmps x λvx=>EY sc (λp=>Nd P t vx f=some p) λp sc'=>K p H sc'
 |.indexAddr t x i=>kX GE tmps x λvx=>kX GE tmps i λvi=>EY sc (λp=>iq P t vx vi=some p) λp sc'=>K p H sc'
 |.index t x i=>kX GE tmps x λvx=>kX GE tmps i λvi=>EY sc (λp=>yV P t vx vi=some p) λp sc'=>K p H sc'
 | .lookup t m k ok => kX GE tmps m fun vm => kX GE tmps k fun vk => match vm with
  |.mapr i=>jk H i λB=>match B with
   |.map es=>EY sc (λp=>ED P t es vk ok=some p) λp sc'=>K p H sc'
   |_=>False
  |_=>False
 | .mapUpdate t m k x => kX GE tmps m fun vm => kX GE tmps k fun vk => kX GE tmps x fun vx => match vm,sc with
  |.mapr i,.w _ (.map es')::sc'=>jk H i λB=>match B with
   |.map es=>L9 P t es vk vx=some es'/\dY H i (.map es') λH'=>K (.val undef) H' sc'
   |_=>False
  |_,_=>False
 |.slice t x lo hi none=>kX GE tmps x λvx=>TJ GE tmps lo λvl=>TJ GE tmps hi λvh=>EY sc (λp=>po P t vx vl vh none=some p) λp sc'=>K p H sc'
 |.build t parts=>wK GE tmps parts.toList λps=>EY sc (λp=>cF P t ps=some p) λp sc'=>K p H sc'
 |.buildSlice t len parts=>wK GE tmps parts.toList λps=>EY sc (λp=>ei P t len ps=some p) λp sc'=>K p H sc'
 | .call { callee := .builtin .len,args:=⟨[x]⟩,argTypes:=⟨[t]⟩ } => kX GE tmps x fun vx => match vx with
  |.mapr i=>jk H i λB=>match B with
   |.map es=>EY sc (λp=>p=.int .i64 es.length/\(P.underlying t).any (λd=>match d with|.map _ _=>true|_=>false)=true) λp sc'=>K p H sc'
   |_=>False
  |vx=>EY sc (λp=>∀H,EC P t vx H=some p) λp sc'=>K p H sc'
 |.call {callee:=.builtin .max,args:=⟨x::r⟩,..}=>kX GE tmps x λvx=>Kd GE tmps r λvr=>Lp (Io Qe vx vr) λp=>K p H sc
 |.call {callee:=.builtin .min,args:=⟨x::r⟩,..}=>kX GE tmps x λvx=>Kd GE tmps r λvr=>Lp (Io Qf vx vr) λp=>K p H sc
 |_=>False
section
variable{P:Program}{GE:List (Nat×List PVal)}
theorem Rp{t:TypeId}{off i:Nat}{y:PVal}{H:List ax}{B:ax}{cs':List PVal}{own':List (Nat×TypeId)}(hB:H[i]? =some B)(h:dN P t (.bptr 0 off) y [B]=some [.cells cs' own']):dN P t (.bptr i off) y H=some (H.set i (.cells cs' own')):=by
 unfold dN at h ⊢
 split at h
 ·rename_i i' off' vs h1 h2
  cases h1
  simp only[h2]
  change (match(some B:Option ax)with|some (.cells cs own)=>_|_=>none)=_ at h
  rw[hB]
  split at h
  ·rename_i hb
   cases hb
   simp only
   split at h
   ·rename_i hc
    rw[vaJ hc]
    simp only[List.set_cons_zero,vat,vbC,vb1]at h
    rw[h]
   ·cases h
  ·cases h
 ·cases h
theorem SD(t:TypeId)(id:Nat)(v:Operand->PVal)(x:Operand)(H:List ax):pI P (.load t x) id v H=(gO P t (v x) H).map λp=>(p,H):=rfl
theorem Ie{op:Op}{id:Nat}{tmps:List PVal}{H:List ax}{sc:List It}{K:PVal->List ax->List It->Prop}(h:PU P GE op tmps H sc K):∃p H' sc',pI P op id (opv GE tmps) H=some (p,H')/\K p H' sc'/\H'.length=H.length:=by
 unfold PU at h
 split at h
 case h_1=>rw[bJ]at h;exact⟨_,_,_,rfl,h,rfl⟩
 case h_2=>rw[bJ]at h;exact⟨_,_,_,rfl,h,rfl⟩
 case h_3 c x y=>
  rw[bJ]at h
  split at h
  ·rename_i hc;rw[bJ]at h;exact⟨_,_,_,by simp only[pI,hc],h,rfl⟩
  ·rename_i hc;rw[bJ]at h;exact⟨_,_,_,by simp only[pI,hc],h,rfl⟩
  ·exact h.elim
 case h_4=>
  simp only[bJ]at h
  split at h
  ·obtain⟨p,sc',h1,h2⟩:=km h;exact⟨p,_,sc',by simp only[pI,h1,van],h2,rfl⟩
  ·obtain⟨p,h1,h2⟩:=vO h;exact⟨p,_,_,by simp only[pI,h1,van],h2,rfl⟩
 case h_5=>simp only[bJ]at h;obtain⟨p,h1,h2⟩:=vO h;exact⟨p,_,_,by simp only[pI,h1,van],h2,rfl⟩
 case h_6=>simp only[bJ]at h;obtain⟨p,sc',h1,h2⟩:=km h;exact⟨p,_,sc',by simp only[pI,h1,van],h2,rfl⟩
 case h_7=>simp only[bJ]at h;obtain⟨p,h1,h2⟩:=vO h;exact⟨p,_,_,by simp only[pI,h1,van],h2,rfl⟩
 case h_8=>
  simp only[bJ]at h
  split at h
  ·rename_i hv;exact⟨_,_,_,by simp only[pI,hv],h,rfl⟩
  ·rename_i hv;exact⟨_,_,_,by simp only[pI,hv],h,rfl⟩
  ·rename_i hv;exact⟨_,_,_,by simp only[pI,hv],h,rfl⟩
  ·exact h.elim
 case h_9=>simp only[jn]at h;exact⟨_,_,_,rfl,h,rfl⟩
 case h_10 t x=>
  simp only[bJ]at h
  rw[SD]
  split at h
  ·rename_i cs hv
   obtain⟨p,sc',h1,h2⟩:=km h
   exact⟨p,_,sc',by simp only[hv,gO,h1,van],h2,rfl⟩
  ·rename_i i off hv
   obtain⟨B,hB,h⟩:=dl h
   split at h
   ·rename_i cs own
    split at h
    ·obtain⟨p,h1,h2⟩:=vO h
     exact⟨p,_,_,by simp only[hv,gO,hB,h1,van],h2,rfl⟩
    ·exact⟨_,_,_,by simp only[hv,gO,hB,h.1,van],h.2,rfl⟩
    ·exact h.elim
   ·exact h.elim
  ·exact h.elim
 case h_11 t x y=>
  simp only[bJ]at h
  split at h
  ·rename_i i off sc' hv
   split at h
   ·rename_i vs hvs
    obtain⟨B,hB,h⟩:=dl h
    split at h
    ·rename_i cs own
     split at h
     ·rename_i hc
      simp only[aG,bp]at h
      simp only[vaf,vap]at hc
      exact⟨_,_,_,by simp only[pI,dN,hv,hvs,hB];rw[vaJ ⟨hc.1.1.1,hc.1.1.2,hc.1.2,hc.2⟩];rfl,h,by simp⟩
     ·exact h.elim
    ·exact h.elim
   ·exact h.elim
  ·rename_i i off vs sc' hv
   obtain⟨hvs,h⟩:=h
   obtain⟨B,hB,h⟩:=dl h
   split at h
   ·rename_i cs own
    split at h
    ·rename_i hc
     simp only[aG,bp]at h
     simp only[vaf,vap]at hc
     exact⟨_,_,_,by simp only[pI,dN,hv,hvs,hB];rw[vaJ ⟨hc.1.1.1,hc.1.1.2,hc.1.2,hc.2⟩];rfl,h,by simp⟩
    ·exact h.elim
   ·exact h.elim
  ·rename_i i off j cs' own' sc' hv
   obtain⟨B,hB,h1,h2⟩:=dl h
   rw[bp]at h2
   exact⟨_,_,_,by simp only[pI,hv,Rp hB h1];rfl,h2,by simp⟩
  ·exact h.elim
 case h_12=>
  simp only[bJ]at h
  split at h
  ·rename_i hv
   obtain⟨p,h1,h2⟩:=vO h;exact⟨p,_,_,by simp only[pI,hv,h1,van],h2,rfl⟩
  ·obtain⟨p,sc',h1,h2⟩:=km h;exact⟨p,_,sc',by simp only[pI,h1,van],h2,rfl⟩
 case h_13=>simp only[bJ]at h;obtain⟨p,sc',h1,h2⟩:=km h;exact⟨p,_,sc',by simp only[pI,h1,van],h2,rfl⟩
 case h_14=>simp only[bJ]at h;obtain⟨p,sc',h1,h2⟩:=km h;exact⟨p,_,sc',by simp only[pI,h1,van],h2,rfl⟩
 case h_15=>simp only[bJ]at h;obtain⟨p,sc',h1,h2⟩:=km h;exact⟨p,_,sc',by simp only[pI,h1,van],h2,rfl⟩
 case h_16 t m k ok=>
  simp only[bJ]at h
  split at h
  ·rename_i i hv
   obtain⟨B,hB,h⟩:=dl h
   split at h
   ·rename_i es
    obtain⟨p,sc',h1,h2⟩:=km h
    exact⟨p,_,sc',by simp only[pI,hv,Rk hB h1,van],h2,rfl⟩
   ·exact h.elim
  ·exact h.elim
 case h_17 t m k x=>
  simp only[bJ]at h
  split at h
  ·rename_i i j es' sc' hv
   obtain⟨B,hB,h⟩:=dl h
   split at h
   ·rename_i es
    obtain⟨h1,h2⟩:=h
    rw[bp]at h2
    exact⟨_,_,_,by simp only[pI,hv,Oc hB h1];rfl,h2,by simp⟩
   ·exact h.elim
  ·exact h.elim
 case h_18=>simp only[bJ,TK]at h;obtain⟨p,sc',h1,h2⟩:=km h;exact⟨p,_,sc',by simp only[pI,h1,van],h2,rfl⟩
 case h_19=>simp only[mr]at h;obtain⟨p,sc',h1,h2⟩:=km h;exact⟨p,_,sc',by simp only[pI,h1,van],h2,rfl⟩
 case h_20=>simp only[mr]at h;obtain⟨p,sc',h1,h2⟩:=km h;exact⟨p,_,sc',by simp only[pI,h1,van],h2,rfl⟩
 case h_21 x t=>
  simp only[bJ]at h
  split at h
  ·rename_i i hv
   obtain⟨B,hB,h⟩:=dl h
   split at h
   ·rename_i es
    obtain⟨p,sc',⟨rfl,h1⟩,h2⟩:=km h
    refine⟨_,_,sc',?_,h2,rfl⟩
    simp only[pI,hv,EC]
    cases hu:P.underlying t with
    |none=>rw[hu]at h1;cases h1
    |some d=>
     rw[hu]at h1
     cases d<;>simp at h1
     simp only[hB,van]
   ·exact h.elim
  ·obtain⟨p,sc',h1,h2⟩:=km h;exact⟨p,_,sc',by simp only[pI,h1 H,van],h2,rfl⟩
 case h_22=>simp only[bJ,jn]at h;obtain⟨p,h1,h2⟩:=vO h;exact⟨p,_,_,by simp only[pI,h1,van],h2,rfl⟩
 case h_23=>simp only[bJ,jn]at h;obtain⟨p,h1,h2⟩:=vO h;exact⟨p,_,_,by simp only[pI,h1,van],h2,rfl⟩
 case h_24=>exact h.elim
end
def Lz(st:ay)(dst:Option Tmp)(p:PVal)(ro:List (Nat×TypeId))(H:List ax)(K:ay->Prop):Prop:=
 match dst with
 |some d=>dY st.tmps d p λtm=>ba ((ro.map λx=>((d,x.1),x.2))++bo d st.own) λow=>K ⟨tm,H,ow⟩
 |none=>K ⟨st.tmps,H,st.own⟩
theorem sH(st:ay)(dst:Option Tmp)(p:PVal)(ro:List (Nat×TypeId))(H:List ax)(K:ay->Prop):Lz st dst p ro H K=K (w9 st dst p ro H):=by
 cases dst with
 |none=>rfl
 |some d=>simp only[Lz,bp,aG,w9]
def O8(P:Program)(GE:List (Nat×List PVal))(f:Operand)(args:List Operand)(tmps:List PVal)(sc:List It)(K:PVal->List (Nat×TypeId)->List It->Prop):Prop:=
 kX GE tmps f λvf=>match vf with
  |.func (.func g) first cap=>Kd GE tmps args λas=>match sc with
   |.c r ro::sc'=>CC P GE g (first++as++cap) r ro/\K r ro sc'
   |_=>False
  |_=>False
def vF(P:Program)(GE:List (Nat×List PVal))(o:Oper)(id:Nat)(sc:List It)(st:ay)(K:List It->ay->Prop):Prop:=
 match kI o st.tmps.length with
 |false=>False
 | true => match o.op with
  |.call {callee:=.value f,args,..}=>O8 P GE f args.toList st.tmps sc λr ro sc'=>Lz st o.dst r ro st.boxes λst'=>K sc' st'
  |.alloc t=>match sc with
   |.x zs::sc'=>dZ P t=some zs/\ba (Iv P t) λow=>dY st.boxes id (.cells zs ow) λH=>Lz st o.dst (.bptr id 0) [] H λst'=>K sc' st'
   |_=>False
  |.box _ x=>kX GE st.tmps x λvx=>match sc with
   |.x cs::sc'=>bO vx=some cs/\Ex cs=true/\dY st.boxes id (.cells cs []) λH=>Lz st o.dst (.bptr id 0) [] H λst'=>K sc' st'
   |_=>False
  |.makeMap _ none=>dY st.boxes id (.map []) λH=>Lz st o.dst (.mapr id) [] H λst'=>K sc st'
  |op=>PU P GE op st.tmps st.boxes sc λp H sc'=>Lz st o.dst p [] H λst'=>K sc' st'
def Ln(n d:Nat)(K:Prop):Prop:=match decide (d<n)with
 |true=>K
 |false=>False
theorem io{n d:Nat}{K:Prop}(h:Ln n d K):d<n/\K:=by
 unfold Ln at h
 split at h
 ·rename_i hd;exact⟨by simpa using hd,h⟩
 ·exact h.elim
def JL(P:Program)(st:ay)(T e:TypeId)(t:Nat)(dst:Option Tmp)(vx vt:PVal)(sc:List It)(K:List It->ay->Prop):Prop:=
 match vx with
 | .bptr i off => match dN P T (.bptr i off) vt st.boxes with
  | some H => jk H i fun B => match B with
   |.cells cs own=>match vt.one with
    |true=>ba cs λcs'=>dY H i (.cells cs' ((off,e)::own)) λH'=>Lz {st with own:=st.own.filter λx=>x.1 !=(t,0)} dst (.val undef) [] H' λst'=>K sc st'
    |false=>False
   |_=>False
  |none=>False
 |_=>False
def JM(P:Program)(GE:List (Nat×List PVal))(A:List Nat)(o:Oper)(id:Nat)(sc:List It)(st:ay)(K:List It->ay->Prop):Prop:=
 match o.op,o.dst with
 |.assign (.tmp t),some d=>Ln st.tmps.length d (qp st.tmps t λp=>dY st.tmps d p λtm=>ba (gn d (λx=>if x.1=t then(d,x.2)else x) st.own) λow=>K sc ⟨tm,st.boxes,ow⟩)
 |.move (.tmp t),some d=>match decide (d∈A)with
  |true=>Ln st.tmps.length d (qp st.tmps t λp=>dY st.tmps d p λtm=>ba (gn d (λx=>if x.1=t then(d,x.2)else x) st.own) λow=>K sc ⟨tm,st.boxes,ow⟩)
  |false=>vF P GE o id sc st K
 |.assign (.const v),some d=>match sd P o.type v with
  |some e=>Ln st.tmps.length d (dY st.tmps d (.slice []) λtm=>ba (((d,0),e)::bo d st.own) λow=>K sc ⟨tm,st.boxes,ow⟩)
  |none=>vF P GE o id sc st K
 |.move (.const v),some d=>match sd P o.type v with
  |some e=>Ln st.tmps.length d (dY st.tmps d (.slice []) λtm=>ba (((d,0),e)::bo d st.own) λow=>K sc ⟨tm,st.boxes,ow⟩)
  |none=>vF P GE o id sc st K
 |.extract (.tmp t) i,some d=>Ln st.tmps.length d (qp st.tmps t λvt=>Lp (tt vt i) λp=>dY st.tmps d p λtm=>ba (gn d (λx=>if x=(t,i)then(d,0)else x) st.own) λow=>K sc ⟨tm,st.boxes,ow⟩)
 |.buildSlice T len parts,some d=>Ln st.tmps.length d (wK GE st.tmps parts.toList λps=>match sc,P.underlying T with
  |.v p::sc',some (.slice e)=>ei P T len ps=some p/\dY st.tmps d p λtm=>ba (((d,0),e)::bo d st.own) λow=>K sc' ⟨tm,st.boxes,ow⟩
  |_,_=>False)
 | .call { callee := .builtin .append,args:=⟨[.tmp t,y]⟩,argTypes:=⟨[T,T']⟩ },some d => Ln st.tmps.length d (qp st.tmps t fun ve => kX GE st.tmps y fun vn => match ve,vn,sc,P.underlying T with
  |.slice es,.slice ns,.v p::sc',some (.slice e)=>match decide (T=T')&&decide (((t,0),e)∈st.own)with
   |true=>fj P T es ns=some p/\dY st.tmps d p λtm=>ba (((d,0),e)::bo d (st.own.filter λx=>x.1 !=(t,0))) λow=>K sc' ⟨tm,st.boxes,ow⟩
   |false=>False
  |_,_,_,_=>False)
 | .load T x,some d => match decide (d ∈ A) with
  | true => Ln st.tmps.length d (kX GE st.tmps x fun vx => match vx,P.underlying T with
   | .bptr i off,some (.slice e) => jk st.boxes i fun B => match B with
    |.cells cs own=>match decide ((off,e)∈own)&&decide (off<cs.length)with
     |true=>qp cs off λp=>dY st.tmps d p λtm=>ba (own.filter λx=>x.1 !=off) λown'=>dY st.boxes i (.cells cs own') λH=>ba (((d,0),e)::bo d st.own) λow=>K sc ⟨tm,H,ow⟩
     |false=>False
    |_=>False
   |_,_=>False)
  |false=>vF P GE o id sc st K
 |.store T x (.tmp t),_=>match st.own.find? (λy=>y.1==(t,0))with
  |some (_,e)=>kX GE st.tmps x λvx=>qp st.tmps t λvt=>JL P st T e t o.dst vx vt sc K
  |none=>vF P GE o id sc st K
 |_,_=>vF P GE o id sc st K
def qdl:Value->Bool
 |.bool _=>true
 |_=>false
def Jg(ops:Array Oper)(j:Nat)(want:Bool)(pos:Nat)(sc:List It)(st:ay)(go:Bool->List It->ay->Prop):Prop:=
 match(ops[j]?).bind (·.dst)with
 |none=>False
 | some t => qp st.tmps t fun p => match p with
  | .bool x => match sc with
   |.g pos' b::sc'=>match pos'==pos with
    |true=>x=b/\dY st.tmps t (.bool b) λtm=>go (b==want) sc' ⟨tm,st.boxes,st.own⟩
    |false=>go (x==want) sc st
   |_=>go (x==want) sc st
  |.val v=>match qdl v with
   |true=>False
   |false=>go false sc st
  |_=>False
def na:List Nat->Bool
 |[]=>true
 |x::r=>!(r.contains x)&&na r
theorem iT:∀{l:List Nat},na l=true->l.Nodup
 |[],_=>.nil
 |x::r,h=>by
  simp only[na,vaf,vaQ,vcs,vbG]at h
  exact vbv.2 ⟨h.1,iT h.2⟩
def Il(t:Nat)(own:List ((Nat×Nat)×TypeId)):List (Nat×TypeId):=own.filterMap λx=>if x.1.1==t then some (x.1.2,x.2)else none
theorem CF{t:Nat}{own:List ((Nat×Nat)×TypeId)}{y:Nat×TypeId}(h:y∈Il t own):((t,y.1),y.2)∈own:=by
 unfold Il at h
 obtain⟨⟨⟨t',k⟩,e⟩,hx,he⟩:=vbQ.1 h
 split at he
 ·rename_i ht
  simp only[va0]at ht
  cases he;subst ht;exact hx
 ·cases he
def Qb(off n:Nat)(own:List (Nat×TypeId)):List (Nat×TypeId):=own.filterMap λx=>if decide (off<=x.1)&&decide (x.1<off+n)then some (x.1 - off,x.2)else none
theorem CE{off n:Nat}{own:List (Nat×TypeId)}{y:Nat×TypeId}(h:y∈Qb off n own):(off+y.1,y.2)∈own/\y.1<n:=by
 unfold Qb at h
 obtain⟨⟨k,e⟩,hx,he⟩:=vbQ.1 h
 split at he
 ·rename_i ht
  simp only[vaf,vap]at ht
  cases he
  have:off+(k - off)=k:=by omega
  exact⟨by rw[this];exact hx,by simp only;omega⟩
 ·cases he
def CP(ρ:List Nat):List PVal->List PVal->Prop
 |[],[]=>True
 |p::ps,q::qs=>uP ρ p q/\CP ρ ps qs
 |_,_=>False
theorem CP.len{ρ:List Nat}:∀{l r:List PVal},CP ρ l r->l.length=r.length
 |[],[],_=>rfl
 |[],_::_,h=>h.elim
 |_::_,[],h=>h.elim
 |_::_,_::_,h=>by simp[CP.len h.2]
theorem CP.get{ρ:List Nat}:∀{l r:List PVal},CP ρ l r->∀(i:Nat) p q,l[i]? =some p->r[i]? =some q->uP ρ p q
 |[],[],_,i,p,q,hp,_=>by simp at hp
 |[],_::_,h,_,_,_,_,_=>h.elim
 |_::_,[],h,_,_,_,_,_=>h.elim
 |_::_,_::_,h,0,p,q,hp,hq=>by simp at hp hq;subst hp;subst hq;exact h.1
 |_::_,_::_,h,i+1,p,q,hp,hq=>CP.get h.2 i p q (by simpa using hp) (by simpa using hq)
def OH(ρ:List Nat):ax->ax->Prop
 |.cells cs own,.cells cs' own'=>own=own'/\CP ρ cs cs'
 |.map es,.map es'=>es=es'/\∀x∈es,x.1.cl 0/\x.2.cl 0
 |.dead,.dead=>True
 |_,_=>False
theorem OH.to{ρ:List Nat}{B B':ax}(h:OH ρ B B'):fS ρ B B':=by
 cases B<;>cases B'<;>simp only[OH]at h
 ·exact⟨h.1,h.2.len,h.2.get⟩
 ·obtain⟨rfl,h⟩:=h
  refine⟨rfl,λi k u k' u' h1 h2=>?_⟩
  rw[h1]at h2;cases h2
  obtain⟨q1,q2⟩:=h _ (var h1)
  exact⟨.refl _ q1,.refl _ q2⟩
 ·trivial
def mW(ρ:List Nat)(H:List ax):List Nat->List ax->List ax->Prop
 |[],[],[]=>True
 |j::js,B::Bs,Bc::Hc=>(jk H j λB0=>uv B0 B=B/\OH ρ B Bc)/\mW ρ H js Bs Hc
 |_,_,_=>False
def pT(ρ:List Nat):List ax->List ax->Prop
 |[],[]=>True
 |B::Bs,Bc::Hc=>OH ρ B Bc/\pT ρ Bs Hc
 |_,_=>False
def hO(H:List ax):List Nat->List ax->List ax
 |j::js,B::Bs=>hO (H.set j B) js Bs
 |_,_=>H
def No(H:List ax):List Nat->List ax->(List ax->Prop)->Prop
 |j::js,B::Bs,K=>dY H j B λH'=>No H' js Bs K
 |_,_,K=>K H
theorem mz:∀(H:List ax) (js:List Nat) (Bs:List ax) (K:List ax->Prop),No H js Bs K=K (hO H js Bs)
 |H,[],_,K=>by cases ‹List ax›<;>rfl
 |H,_::_,[],K=>rfl
 |H,j::js,B::Bs,K=>by simp only[No,bp,mz,hO]
theorem CO:∀(H:List ax) (js:List Nat) (Bs:List ax),(hO H js Bs).length=H.length
 |H,[],_=>by cases ‹List ax›<;>rfl
 |H,_::_,[]=>rfl
 |H,j::js,B::Bs=>by simp only[hO,CO,vb6]
theorem gS:∀(H:List ax) (js:List Nat) (Bs:List ax) {j:Nat},j∉js->(hO H js Bs)[j]? =H[j]?
 |H,[],Bs,_,_=>by cases Bs<;>rfl
 |H,_::_,[],_,_=>rfl
 |H,k::js,B::Bs,j,h=>by
  simp only[vaI,not_or]at h
  simp only[hO]
  rw[gS _ js Bs h.2,vai (Ne.symm h.1)]
theorem GD:∀(H:List ax) (js:List Nat) (Bs:List ax),js.Nodup->js.length=Bs.length->(∀j∈js,j<H.length)->∀(i j:Nat) B,js[i]? =some j->Bs[i]? =some B->(hO H js Bs)[j]? =some B
 |H,[],Bs,_,_,_,i,j,B,hj,_=>by simp at hj
 |H,_::_,[],_,hl,_,_,_,_,_,_=>by simp at hl
 | H,k :: js,B0 :: Bs,hn,hl,hlt,i,j,B,hj,hB => by
  obtain⟨hn1,hn2⟩:=vbv.1 hn
  simp only[hO]
  cases i with
  |zero=>
   simp at hj hB;subst hj;subst hB
   rw[gS _ js Bs hn1,vad (hlt _ (by simp))]
  |succ i=>exact GD _ js Bs hn2 (by simpa using hl) (λx hx=>by rw[vb6];exact hlt x (by simp[hx])) i j B (by simpa using hj) (by simpa using hB)
theorem JT{ρ:List Nat}{H:List ax}:∀{js:List Nat} {Bs Hc:List ax},mW ρ H js Bs Hc->js.length=Bs.length/\Hc.length=js.length/\(∀j∈js,j<H.length)/\
  ∀(i j:Nat) B Bc,js[i]? =some j->Bs[i]? =some B->Hc[i]? =some Bc->(∃B0,H[j]? =some B0/\uv B0 B=B)/\fS ρ B Bc
 |[],[],[],_=>⟨rfl,rfl,by simp,by simp⟩
 |[],_::_,_,h=>by simp[mW]at h
 |[],[],_::_,h=>by simp[mW]at h
 |_::_,[],_,h=>by simp[mW]at h
 |_::_,_::_,[],h=>by simp[mW]at h
 | k :: js,B :: Bs,Bc :: Hc,h => by
  obtain⟨h1,h2⟩:=h
  obtain⟨B0,hB0,h3,h4⟩:=dl h1
  obtain⟨k1,k2,k3,k4⟩:=JT h2
  refine⟨by simp[k1],by simp[k2],λj hj=>?_,λi j b bc hj hb hbc=>?_⟩
  ·rcases vaI.1 hj with rfl|hj
   ·exact ah hB0
   ·exact k3 j hj
  ·cases i with
   |zero=>simp at hj hb hbc;subst hj;subst hb;subst hbc;exact⟨⟨B0,hB0,h3⟩,h4.to⟩
   |succ i=>exact k4 i j b bc (by simpa using hj) (by simpa using hb) (by simpa using hbc)
theorem Br{ρ:List Nat}:∀{Bs Hc:List ax},pT ρ Bs Hc->Bs.length=Hc.length/\∀(i:Nat) B Bc,Bs[i]? =some B->Hc[i]? =some Bc->fS ρ B Bc
 |[],[],_=>⟨rfl,by simp⟩
 |[],_::_,h=>h.elim
 |_::_,[],h=>h.elim
 |B::Bs,Bc::Hc,h=>by
  obtain⟨k1,k2⟩:=Br h.2
  refine⟨by simp[k1],λi b bc hb hbc=>?_⟩
  cases i with
  |zero=>simp at hb hbc;subst hb;subst hbc;exact h.1.to
  |succ i=>exact k2 i b bc (by simpa using hb) (by simpa using hbc)
def Uk(t:Nat):Option Operand->Bool
 |some (.tmp u)=>u==t
 |_=>false
def Sl:Option Operand->Bool
 |some (.const v)=>jN v
 |_=>false
def N3(n:Nat)(args:List Operand)(own:List ((Nat×Nat)×TypeId))(oa:List OA):Bool:=
 oa.all (λx=>decide (n<=x.i)&&((Sl args[x.i - n]? &&x.k==0)||(decide (((x.t,x.k),x.e)∈own)&&Uk x.t args[x.i - n]?)))&&oa.all λx=>oa.all λy=>!(x.t==y.t&&x.k==y.k)||x.i==y.i
def Jl:ax->Bool
 |.dead=>false
 |_=>true
def fM(P:Program)(GE:List (Nat×List PVal))(f:Operand)(args:List Operand)(c:GC)(st:ay)(K:List ax->Prop):Prop:=
 kX GE st.tmps f λvf=>match vf with
 | .func (.func g) first cap => Kd GE st.tmps args fun as => match na c.ρ && N3 first.length args st.own c.oa && c.Bs.all Jl && decide (c.Bs'.length = c.ρ.length) with
  | true => C P GE g c.argsC (c.oa.map fun x => ((x.i,x.k),x.e)) c.Hc c.rc c.ro c.Hc'∧CP c.ρ (first ++ as ++ cap) c.argsC∧mW c.ρ st.boxes c.ρ c.Bs c.Hc∧pT c.ρ c.Bs' c.Hc'∧uP c.ρ c.r c.rc ∧
    No st.boxes c.ρ c.Bs' K
  |false=>False
 |_=>False
theorem pG{P:Program}{GE:List (Nat×List PVal)}{f:Operand}{args:List Operand}{c:GC}{st:ay}{K:List ax->Prop}(h:fM P GE f args c st K):∃H',E4 P GE f args st c.r c.ro H' c.oa/\K H':=by
 unfold fM at h
 rw[bJ]at h
 split at h
 ·rename_i g first cap hf
  rw[jn]at h
  split at h
  ·rename_i hb
   simp only[vaf,vap]at hb
   obtain⟨⟨⟨b1,b2⟩,b3⟩,b4⟩:=hb
   obtain⟨h1,h2,h3,h4,h5,h6⟩:=h
   rw[mz]at h6
   have hn:=iT b1
   obtain⟨i1,i2,i3,i4⟩:=JT h3
   obtain⟨o1,o2⟩:=Br h4
   unfold N3 at b2
   rw[vaf]at b2
   obtain⟨c1,c2⟩:=b2
   have hgetB:∀{i j:Nat},c.ρ[i]? =some j->∃B,c.Bs[i]? =some B:=λ{i j} hj=>⟨_,vaa (by rw[<-i1];exact ah hj)⟩
   have hgetH:∀{i j:Nat},c.ρ[i]? =some j->∃B,c.Hc[i]? =some B:=λ{i j} hj=>⟨_,vaa (by rw[i2];exact ah hj)⟩
   refine⟨_,⟨g,first,cap,c.argsC,c.ρ,hO st.boxes c.ρ c.Bs,c.Hc,c.Hc',c.rc,hf,hn,h1,⟨CO _ _ _,λi B hB=>?_⟩,⟨i2,λi j hj=>?_⟩,⟨by rw[<-o1];exact b4,λi j hj=>?_⟩,CO _ _ _,λj hj=>by rw[gS _ _ _ hj,gS _ _ _ hj],h5,h2.len,h2.get,λx hx=>?_,λx hx y hy e1 e2=>?_⟩,h6⟩
   ·by_cases hi:i∈c.ρ
    ·obtain⟨k,hk⟩:=vaW.1 hi
     obtain⟨B1,hB1⟩:=hgetB hk
     obtain⟨Bc,hBc⟩:=hgetH hk
     obtain⟨⟨B0,hB0,hfg⟩,_⟩:=i4 k i B1 Bc hk hB1 hBc
     rw[GD _ _ _ hn i1 i3 k i B1 hk hB1]at hB
     cases hB
     refine⟨B0,hB0,?_⟩
     rcases PZ B0 B with hx|hx|hx
     ·rw[hfg]at hx
      have:=vaq.1 b3 B (var hB1)
      rw[hx]at this;cases this
     ·rw[hfg]at hx;exact .inl hx
     ·rw[hfg]at hx;exact .inr hx
    ·rw[gS _ _ _ hi]at hB
     exact⟨B,hB,.inl rfl⟩
   ·obtain⟨B1,hB1⟩:=hgetB hj
    obtain⟨Bc,hBc⟩:=hgetH hj
    exact⟨B1,Bc,GD _ _ _ hn i1 i3 i j B1 hj hB1,hBc,(i4 i j B1 Bc hj hB1 hBc).2⟩
   ·have hi:=ah hj
    have e1:=vaa (l:=c.Bs') (i:=i) (by omega)
    have e2:=vaa (l:=c.Hc') (i:=i) (by omega)
    exact⟨_,_,GD _ _ _ hn b4.symm i3 i j _ hj e1,e2,o2 i _ _ e1 e2⟩
   ·have:=vaq.1 c1 x hx
    simp only[vaf,va2,vap,va0]at this
    refine⟨x.i - first.length,by omega,?_⟩
    rcases this.2 with⟨h2,h3⟩|⟨h2,h3⟩
    ·left
     unfold Sl at h2
     split at h2
     ·rename_i v hv
      unfold jN at h2
      split at h2
      ·exact⟨hv,h3⟩
      ·cases h2
     ·cases h2
    ·right
     unfold Uk at h3
     split at h3
     ·rename_i u hu
      simp only[va0]at h3
      subst h3;exact⟨h2,hu⟩
     ·cases h3
   ·have:=vaq.1 (vaq.1 c2 x hx) y hy
    simp only[va2,vaQ,Bool.and_eq_false_iff,beq_eq_false_iff_ne,ne_eq,va0]at this
    rcases this with(hx|hx)|hx
    ·exact absurd e1 hx
    ·exact absurd e2 hx
    ·exact hx
  ·exact h.elim
 ·exact h.elim
def MI(P:Program)(GE:List (Nat×List PVal))(f:Operand)(args:List Operand)(c:GC)(d:Nat)(st:ay)(K:List PVal->List ax->List ((Nat×Nat)×TypeId)->Prop):Prop:=
 kX GE st.tmps f λvf=>Kd GE st.tmps args λvs=>match vf with
  |.func (.func g) [] []=>match decide (c.ρ=List.range' st.boxes.length c.Hc'.length)with
   |true=>CN P GE g vs c.rc c.ro c.Hc'/\eP 0 vs/\pT c.ρ c.Bs' c.Hc'/\uP c.ρ c.r c.rc/\dY st.tmps d c.r λtm=>ba ((c.ro.map λx=>((d,x.1),x.2))++bo d st.own) λow=>IJ st.boxes c.Bs' λH=>K tm H ow
   |false=>False
  |_=>False
theorem Lh{P:Program}{GE:List (Nat×List PVal)}{o:Oper}{f:Operand}{args:Array Operand}{tys:Array TypeId}{c:GC}{d:Nat}{st:ay}{K:List It->ay->Prop}{sc:List It}(ho:o.op=.call {callee:=.value f,args,argTypes:=tys})(hd:o.dst=some d)(h1:d<st.tmps.length)
  (h:MI P GE f args.toList c d st λtm H ow=>K sc ⟨tm,H,ow⟩):Od P GE o (λst'=>∃sc',K sc' st') st:=by
 unfold MI at h
 rw[bJ,jn]at h
 split at h
 ·rename_i g hf
  split at h
  ·rename_i hc
   simp only[vap]at hc
   obtain⟨h2,h3,h4,h5,h6⟩:=h
   simp only[bp,aG,IJ]at h6
   obtain⟨k1,k2⟩:=Br h4
   unfold Od
   simp only[ho,hd]
   rw[hc]at h5 k2
   exact⟨g,c.rc,c.ro,c.Bs',c.Hc',c.r,hf,h2,h3,k1,k2,h5,h1,sc,h6⟩
  ·exact h.elim
 ·exact h.elim
def Ji (P:Program) (GE:List (Nat×List PVal)) (A:List Nat) (o:Oper) (id:Nat) (sc:List It) (st:ay) (K:List It→ay→Prop):Prop :=
 match o.op,sc with
 |.build T parts,.b p L::sc'=>match o.dst with
  |some d=>Ln st.tmps.length d (wK GE st.tmps parts.toList λps=>cF P T ps=some p/\wL P T ps L/\dY st.tmps d p λtm=>ba ((L.map λx=>((d,x.1),x.2))++bo d st.own) λow=>K sc' ⟨tm,st.boxes,ow⟩)
  |none=>False
 | .store T x (.tmp t),.y vs :: sc' => qp st.tmps t fun vt => match vt with
  | .agg l => match o.dst with
   | none => kX GE st.tmps x fun vx => match vx with
    | .bptr i off => ba (Il t st.own) fun L => l = vs∧jk st.boxes i fun B => match B with
     | .cells cs own => match na (L.map (·.1)) && decide (vs.length = P.cellsOf T) && (P.info? T).isSome && decide (off + vs.length ≤ cs.length) && vs.all PVal.one with
      | true => ba (cs.take off ++ vs ++ cs.drop (off + vs.length)) fun cs' => ba ((L.map fun y => (off + y.1,y.2)).reverse ++ own.filter fun y => y.1 < off || off + vs.length ≤ y.1) fun own' =>
        dY st.boxes i (.cells cs' own') λH=>ba (st.own.filter λx=>!L.any λy=>x.1==(t,y.1)) λow=>K sc' ⟨st.tmps,H,ow⟩
      |false=>False
     |_=>False
    |_=>False
   |some _=>False
  |_=>JM P GE A o id sc st K
 | .load T x,.z l :: sc' => match P.underlying T with
  | some (.struct _) => match o.dst with
   | some d => Ln st.tmps.length d (kX GE st.tmps x fun vx => match vx with
    | .bptr i off => jk st.boxes i fun B => match B with
     | .cells cs own => aZ P T (cs.drop off) = some (.agg l)∧ba (Qb off (P.cellsOf T) own) fun L => match na (L.map (·.1)) with
      | true => dY st.tmps d (.agg l) fun tm => ba (own.filter fun x => !L.any fun y => x.1 == off + y.1) fun own' => dY st.boxes i (.cells cs own') fun H =>
        ba ((L.map λy=>((d,y.1),y.2)).reverse++bo d st.own) λow=>K sc' ⟨tm,H,ow⟩
      |false=>False
     |_=>False
    |_=>False)
   |none=>False
  |_=>JM P GE A o id sc st K
 |.box _ x,.e vs::sc'=>match o.dst with
  |some d=>Ln st.tmps.length d (kX GE st.tmps x λvx=>bO vx=some vs/\dY st.tmps d (.eptr vs) λtm=>ba (bo d st.own) λow=>K sc' ⟨tm,st.boxes,ow⟩)
  |none=>False
 |.call {callee:=.value f,args,..},.cg c::sc'=>match o.dst with
  |some d=>Ln st.tmps.length d (fM P GE f args.toList c st λH=>dY st.tmps d c.r λtm=>ba ((c.ro.map λx=>((d,x.1),x.2))++bo d (st.own.filter λz=>!c.oa.any λx=>z.1==(x.t,x.k))) λow=>K sc' ⟨tm,H,ow⟩)
  |none=>False
 |.call {callee:=.value f,args,..},.cn c::sc'=>match o.dst with
  |some d=>Ln st.tmps.length d (MI P GE f args.toList c d st λtm H ow=>K sc' ⟨tm,H,ow⟩)
  |none=>False
 | .call { callee := .builtin .append,args:=⟨[.tmp t,y]⟩,argTypes:=⟨[T,T']⟩ },.ar i e n cs :: sc' => match o.dst with
  | some d => Ln st.tmps.length d (qp st.tmps t fun ve => kX GE st.tmps y fun vn => match ve,vn with
   | .slice [],.slice ns => match decide (T = T') && decide (((t,0),e) ∈ st.own) && decide (i = st.boxes.length) with
    | true => P.underlying T = some (.slice e)∧(∃ p,fj P T [] ns = some p)∧(n = ns.length∧cs = ns.flatten) ∧
      dY st.tmps d (.bsl i 0 n) λtm=>ba (bo d (st.own.filter λx=>x.1 !=(t,0))) λow=>IJ st.boxes [.cells cs []] λH=>K sc' ⟨tm,H,ow⟩
    |false=>False
   |_,_=>False)
  |none=>False
 | .call { callee := .value f,args:=⟨[x]⟩,.. },.ar i e n cs :: sc' => match o.dst with
  | some d => Ln st.tmps.length d (kX GE st.tmps f fun vf => kX GE st.tmps x fun vn => match vf,vn with
   | .func (.func g) [] [],.slice ns => match decide (i = st.boxes.length) with
    | true => sT P g e∧(0 < P.cellsOf e∧(∀ x ∈ ns,x.length = P.cellsOf e∧∀ q ∈ x,q.one = true)∧ns.length ≤ bF)∧(n = ns.length∧cs = ns.flatten) ∧
      dY st.tmps d (.bsl i 0 n) λtm=>ba (bo d st.own) λow=>IJ st.boxes [.cells cs []] λH=>K sc' ⟨tm,H,ow⟩
    |false=>False
   |_,_=>False)
  |none=>False
 | .store T x (.const v),.ar _ e _ _ :: sc' => match o.dst,jN v with
  | none,true => kX GE st.tmps x fun vx => kX GE st.tmps (.const v) fun vy => match vx,bO vy with
   | .bptr i off,some vs => jk st.boxes i fun B => match B with
    |.cells cs own=>match decide (vs.length=P.cellsOf T)&&(P.info? T).isSome&&decide (off+vs.length<=cs.length)&&vs.all PVal.one with
     |true=>ba (cs.take off++vs++cs.drop (off+vs.length)) λcs'=>ba ((off,e)::own.filter λy=>y.1<off||off+vs.length<=y.1) λown'=>dY st.boxes i (.cells cs' own') λH=>K sc' ⟨st.tmps,H,st.own⟩
     |false=>False
    |_=>False
   |_,_=>False
  |_,_=>False
 | .box T (.tmp t),.y vs :: sc' => match o.dst with
  | some d => Ln st.tmps.length d (qp st.tmps t fun vt => match vt with
   |.agg l=>ba (Il t st.own) λL=>l=vs/\(match na (L.map (·.1))&&Ex vs with
    |true=>ba (vs.map (nilTo id T)) λcs=>dY st.tmps d (.bptr id 0) λtm=>ba ((L.map λy=>(0+y.1,y.2)).reverse++[]) λown=>dY st.boxes id (.cells cs own) λH=>ba (bo d (st.own.filter λx=>!L.any λy=>x.1==(t,y.1))) λow=>K sc' ⟨tm,H,ow⟩
    |false=>False)
   |_=>False)
  |none=>False
 |.alloc T,.y vs::sc'=>match o.dst with
  |some d=>Ln st.tmps.length d (dZ P T=some vs/\ba (Iv P T) λown=>ba (vs.map (nilTo id T)) λcs=>dY st.tmps d (.bptr id 0) λtm=>dY st.boxes id (.cells cs own) λH=>ba (bo d st.own) λow=>K sc' ⟨tm,H,ow⟩)
  |none=>False
 | .call { callee := .builtin .append,args:=⟨[.tmp t,y]⟩,argTypes:=⟨[T,T']⟩ },.z ps :: sc' => match o.dst,ps with
  | some d,[p] => Ln st.tmps.length d (qp st.tmps t fun ve => kX GE st.tmps y fun vn => match ve,vn,P.underlying T with
   |.slice es,.str s,some (.slice e)=>match decide (((t,0),e)∈st.own)with
    |true=>xz P T T' es s=some p/\dY st.tmps d p λtm=>ba (((d,0),e)::bo d (st.own.filter λx=>x.1 !=(t,0))) λow=>K sc' ⟨tm,st.boxes,ow⟩
    |false=>False
   |.slice es,.slice ns,some (.slice e)=>match decide (T'=T)&&decide (((t,P.cellsOf e),e)∈st.own)with
    |true=>fj P T es ns=some p/\dY st.tmps d p λtm=>ba (((d,P.cellsOf e),e)::bo d (st.own.filter λx=>x.1.1 !=t)) λow=>K sc' ⟨tm,st.boxes,ow⟩
    |false=>False
   |_,_,_=>False)
  |_,_=>False
 | .slice T (.tmp t) (some lo) none none,.z ps :: sc' => match o.dst,ps with
  | some d,[p] => Ln st.tmps.length d (qp st.tmps t fun ve => kX GE st.tmps lo fun vl => match ve,P.underlying T with
   |.slice es,some (.slice e)=>match decide (0<P.cellsOf e)&&(decide (((t,0),e)∈st.own)||decide (((t,P.cellsOf e),e)∈st.own))with
    |true=>po P T (.slice es) (some vl) none none=some p/\dY st.tmps d p λtm=>ba (((d,P.cellsOf e),e)::bo d (st.own.filter λx=>x.1.1 !=t)) λow=>K sc' ⟨tm,st.boxes,ow⟩
    |false=>False
   |_,_=>False)
  |_,_=>False
 |_,_=>JM P GE A o id sc st K
def Fv(P:Program)(GE:List (Nat×List PVal))(A:List Nat)(ops:Array Oper)(K:List It->ay->Prop):List Oper->Nat->Nat->List It->ay->Prop
 |[],_,_,sc,st=>K sc st
 | o :: rest,pos,id,sc,st =>
  let step (sc:List It) (st:ay):Prop:=Ji P GE A o id sc st λsc' st'=>Fv P GE A ops K rest (pos+1) (id+if aB o.op then 1 else 0) sc' st'
  match o.guard with
  |none=>step sc st
  |some (j,want)=>Jg ops j want pos sc st λb sc' st'=>match b with
   |true=>step sc' st'
   |false=>Lz st' o.dst (.val undef) [] st'.boxes λst''=>Fv P GE A ops K rest (pos+1) (id+if aB o.op then 1 else 0) sc' st''
section
variable{P:Program}{GE:List (Nat×List PVal)}{A:List Nat}{ops:Array Oper}
theorem MG{f:Operand}{args:List Operand}{tmps:List PVal}{H:List ax}{sc:List It}{K:PVal->List (Nat×TypeId)->List It->Prop}(h:O8 P GE f args tmps sc K):EA P GE (opv GE tmps f) (args.map (opv GE tmps)) H λr ro H'=>H'=H/\∃sc',K r ro sc':=by
 unfold O8 at h
 rw[bJ]at h
 split at h
 ·rename_i g first cap hf
  rw[jn]at h
  split at h
  ·rename_i r ro sc'
   rw[hf]
   exact .inl ⟨h.1.1,r,ro,h.1.2,rfl,sc',h.2⟩
  ·exact h.elim
 ·exact h.elim
theorem CH{op:Op}{id:Nat}{v:Operand->PVal}{H H':List ax}{p:PVal}{K:PVal->List (Nat×TypeId)->List ax->Prop}(hn:∀f args tys,op≠.call {callee:=.value f,args,argTypes:=tys})
  (h:pI P op id v H=some (p,H')) (hk:K p [] H'):Ls P GE op id v H K:=by
 unfold Ls
 split
 ·rename_i f args tys;exact absurd rfl (hn _ _ _)
 ·rw[h];exact hk
theorem iR{o:Oper}{id:Nat}{sc:List It}{st:ay}{K:List It->ay->Prop}(h:vF P GE o id sc st K):kI o st.tmps.length=true/\Ls P GE o.op id (opv GE st.tmps) st.boxes λp ro H=>(λst'=>∃sc',K sc' st') (w9 st o.dst p ro H):=by
 unfold vF at h
 split at h
 ·exact h.elim
 ·rename_i hc
  refine⟨hc,?_⟩
  split at h
  ·rename_i f args tys ho
   have:=MG (H:=st.boxes) h
   unfold Ls
   simp only[ho]
   unfold EA at this ⊢
   split at this
   ·rcases this with⟨k1,r,ro,k2,_,sc',k3⟩|⟨ρ,argsC,Hc,rc,ro,Hc',H',r,k1,k2,k3,k4,k5,k6,k7,k8,k9,rfl,sc',k10⟩
    ·rw[sH]at k3;exact .inl ⟨k1,r,ro,k2,sc',k3⟩
    ·rw[sH]at k10;exact .inr ⟨ρ,argsC,Hc,rc,ro,Hc',_,r,k1,k2,k3,k4,k5,k6,k7,k8,k9,sc',k10⟩
   ·exact this.elim
  ·rename_i t ho
   split at h
   ·rename_i zs sc'
    obtain⟨h1,h2⟩:=h
    simp only[aG,bp,sH]at h2
    rw[ho]
    exact CH (by simp) (by simp only[pI,h1,van]) ⟨sc',h2⟩
   ·exact h.elim
  ·rename_i t x ho
   rw[bJ]at h
   split at h
   ·rename_i cs sc'
    obtain⟨h1,h1n,h2⟩:=h
    simp only[bp,sH]at h2
    rw[ho]
    exact CH (by simp) (by simp only[pI,Ki h1 h1n,van]) ⟨sc',h2⟩
   ·exact h.elim
  ·rename_i t ho
   simp only[bp,sH]at h
   rw[ho]
   exact CH (by simp) (by simp only[pI]) ⟨_,h⟩
  ·rename_i n1 n2 n3 n4
   obtain⟨p,H',sc',k1,k2,_⟩:=Ie (id:=id) h
   rw[sH]at k2
   exact CH (λf args tys e=>n1 f args tys e) k1 ⟨sc',k2⟩
theorem yL{o:Oper}{id:Nat}{sc:List It}{st:ay}{K:List It->ay->Prop}(h:JM P GE A o id sc st K):Iu P GE A o id (λst'=>∃sc',K sc' st') st:=by
 unfold JM at h
 unfold Iu
 split at h
 case h_1 t d ho hd=>
  obtain⟨h1,h2⟩:=io h
  simp only[eJ,bp,aG]at h2
  simp only[ho,hd]
  exact⟨h1,_,h2⟩
 case h_2 t d ho hd=>
  simp only[ho,hd]
  split at h
  ·rename_i hA
   obtain⟨h1,h2⟩:=io h
   simp only[eJ,bp,aG]at h2
   rw[vaJ (by simpa using hA)]
   exact⟨h1,_,h2⟩
  ·rename_i hA
   rw[vaM (by simpa using hA)]
   have:=iR h
   rw[ho,hd]at this
   exact this
 case h_3 v d ho hd=>
  simp only[ho,hd]
  split at h
  ·rename_i e he
   obtain⟨h1,h2⟩:=io h
   simp only[bp,aG]at h2
   simp only[he]
   exact⟨h1,_,h2⟩
  ·rename_i he
   simp only[he]
   have:=iR h
   rw[ho,hd]at this
   exact this
 case h_4 v d ho hd=>
  simp only[ho,hd]
  split at h
  ·rename_i e he
   obtain⟨h1,h2⟩:=io h
   simp only[bp,aG]at h2
   simp only[he]
   exact⟨h1,_,h2⟩
  ·rename_i he
   simp only[he]
   have:=iR h
   rw[ho,hd]at this
   exact this
 case h_5 t i d ho hd=>
  obtain⟨h1,h2⟩:=io h
  rw[eJ]at h2
  obtain⟨p,h3,h4⟩:=vO h2
  simp only[bp,aG]at h4
  simp only[ho,hd,h3]
  exact⟨h1,_,h4⟩
 case h_6 T len parts d ho hd=>
  obtain⟨h1,h2⟩:=io h
  rw[mr]at h2
  split at h2
  ·rename_i p sc' e hu
   obtain⟨h3,h4⟩:=h2
   simp only[bp,aG]at h4
   simp only[ho,hd,h3,hu]
   exact⟨h1,_,h4⟩
  ·exact h2.elim
 case h_7 t y T T' d ho hd=>
  obtain⟨h1,h2⟩:=io h
  rw[eJ,bJ]at h2
  split at h2
  ·rename_i es ns p sc' e he hn hu
   split at h2
   ·rename_i hc
    simp only[vaf,vap]at hc
    obtain⟨h3,h4⟩:=h2
    simp only[bp,aG]at h4
    simp only[ho,hd,hu,he,hn,h3]
    exact⟨hc.1,h1,hc.2,_,h4⟩
   ·exact h2.elim
  ·exact h2.elim
 case h_8 T x d ho hd=>
  simp only[ho,hd]
  split at h
  ·rename_i hA
   obtain⟨h1,h2⟩:=io h
   rw[bJ]at h2
   rw[vaJ (by simpa using hA)]
   split at h2
   ·rename_i i off e hx hu
    obtain⟨B,hB,h2⟩:=dl h2
    split at h2
    ·rename_i cs own
     split at h2
     ·rename_i hc
      simp only[vaf,vap]at hc
      simp only[eJ,bp,aG]at h2
      have hget:cs[off]? =some (cs.getD off .undef):=by
       rw[vam,vaa hc.2];rfl
      simp only[hx,hu,hB,hget]
      exact⟨h1,hc.1,_,h2⟩
     ·exact h2.elim
    ·exact h2.elim
   ·exact h2.elim
  ·rename_i hA
   rw[vaM (by simpa using hA)]
   have:=iR h
   rw[ho,hd]at this
   exact this
 case h_9 T x t ho=>
  simp only[ho]
  split at h
  ·rename_i y e hf
   rw[bJ,eJ]at h
   simp only[hf]
   unfold JL at h
   split at h
   ·rename_i i off hx
    split at h
    ·rename_i H hst
     obtain⟨B,hB,h⟩:=dl h
     split at h
     ·rename_i cs own
      split at h
      ·rename_i hone
       simp only[bp,aG,sH]at h
       simp only[hx,hst,hB,hone]
       exact⟨_,h⟩
      ·exact h.elim
     ·exact h.elim
    ·exact h.elim
   ·exact h.elim
  ·rename_i hf
   simp only[hf]
   have:=iR h
   rw[ho]at this
   exact this
 case h_10=>
  have:=iR h
  split
  all_goals first
   |exact this
   |(exfalso;simp_all;done)
   |(exfalso;simp_all;rename_i hx h1 h2;exact hx _ _ _ _ rfl rfl rfl rfl)
   |(exfalso;simp_all;rename_i hx h1 h2;exact hx _ _ _ _ _ rfl rfl rfl rfl rfl)
   |(exfalso;simp_all;rename_i hx h1 h2;exact hx _ _ _ rfl rfl rfl)
theorem Dr{j:Nat}{want:Bool}{pos:Nat}{sc:List It}{st:ay}{go:Bool->List It->ay->Prop}(h:Jg ops j want pos sc st go):∃x,tz ops st.tmps j=some x/\((x=some want/\∃sc',go true sc' st)\/(x≠some want/\∃sc',go false sc' st)):=by
 unfold Jg at h
 split at h
 ·exact h.elim
 ·rename_i t ht
  rw[eJ]at h
  have hget:∀{p},st.tmps.getD t .undef=p->p≠.undef->st.tmps[t]? =some p:=by
   intro p hp hne
   rw[vam]at hp
   cases hx:st.tmps[t]? with
   |none=>rw[hx]at hp;exact absurd hp.symm hne
   |some q=>rw[hx]at hp;exact vaS some hp
  have hfin:∀(x:Bool) sc',go (x==want) sc' st->(some x=some want/\∃sc',go true sc' st)\/(some x≠some want/\∃sc',go false sc' st):=by
   intro x sc' hg
   cases x<;>cases want<;>simp at hg ⊢<;>exact⟨sc',hg⟩
  split at h
  ·rename_i x hp
   have hx:=hget hp (by simp)
   have hg:tz ops st.tmps j=some (some x):=by unfold tz;simp only[ht,hx]
   refine⟨_,hg,?_⟩
   split at h
   ·rename_i pos' b sc'
    split at h
    ·obtain⟨rfl,h⟩:=h
     rw[bp,GF hx]at h
     exact hfin x sc' h
    ·exact hfin x _ h
   ·exact hfin x _ h
  ·rename_i v hp
   have hx:=hget hp (by simp)
   split at h
   ·exact h.elim
   ·rename_i hb
    refine⟨none,?_,.inr ⟨by simp,_,h⟩⟩
    unfold tz
    simp only[ht,hx]
    cases v<;>simp[qdl]at hb<;>rfl
  ·exact h.elim
theorem Lk{o:Oper}{id:Nat}{sc:List It}{st:ay}{K:List It->ay->Prop}(h:Ji P GE A o id sc st K):BX P GE A o id (λst'=>∃sc',K sc' st') st:=by
 unfold Ji at h
 split at h
 ·rename_i T parts p L sc' ho
  split at h
  ·rename_i d hd
   obtain⟨h1,h2⟩:=io h
   rw[mr]at h2
   obtain⟨h3,h4,h5⟩:=h2
   simp only[bp,aG]at h5
   refine .inr (.inl ?_)
   unfold Kp
   simp only[ho,hd]
   exact⟨p,L,h3,h4,h1,sc',h5⟩
  ·exact h.elim
 ·rename_i T x t vs sc' ho
  rw[eJ]at h
  split at h
  ·rename_i l hl
   split at h
   ·rename_i hd
    rw[bJ]at h
    split at h
    ·rename_i i off hx
     rw[aG]at h
     obtain⟨rfl,h⟩:=h
     obtain⟨B,hB,h⟩:=dl h
     split at h
     ·rename_i cs own
      split at h
      ·rename_i hc
       simp only[bp,aG]at h
       simp only[vaf,vap]at hc
       obtain⟨⟨⟨⟨c1,c2⟩,c3⟩,c4⟩,c5⟩:=hc
       refine .inr (.inl ?_)
       unfold Kp
       simp only[ho,hd]
       have hi:=ah hB
       refine⟨i,off,st.boxes.set i (.cells (cs.take off++l++cs.drop (off+l.length)) (own.filter λy=>y.1<off||off+l.length<=y.1)),_,_,Il t st.own,l,hx,hl,?_,vad hi,λy hy=>CF hy,iT c1,sc',?_⟩
       ·simp only[dN,bO,hB]
        rw[vaJ ⟨c2,c3,c4,c5⟩]
       ·rw[vby];exact h
      ·exact h.elim
     ·exact h.elim
    ·exact h.elim
   ·exact h.elim
  ·exact .inl (yL h)
 ·rename_i T x l sc' ho
  split at h
  ·rename_i fs hT
   split at h
   ·rename_i d hd
    obtain⟨h1,h⟩:=io h
    rw[bJ]at h
    split at h
    ·rename_i i off hx
     obtain⟨B,hB,h⟩:=dl h
     split at h
     ·rename_i cs own
      obtain⟨h2,h⟩:=h
      rw[aG]at h
      split at h
      ·rename_i hn
       simp only[bp,aG]at h
       refine .inr (.inl ?_)
       unfold Kp
       simp only[ho,hd]
       have hlen:l.length=P.cellsOf T:=by
        have hp:=h2
        unfold aZ at hp
        rw[hT]at hp
        simp only at hp
        split at hp
        ·rename_i hh;cases hp;rw[vbb];omega
        ·cases hp
       exact⟨i,off,cs,own,_,l,⟨fs,hT⟩,hx,hB,h2,λy hy=>(CE hy).1,iT hn,λy hy=>by rw[hlen];exact(CE hy).2,h1,sc',h⟩
      ·exact h.elim
     ·exact h.elim
    ·exact h.elim
   ·exact h.elim
  ·exact .inl (yL h)
 ·rename_i T x vs sc' ho
  split at h
  ·rename_i d hd
   obtain⟨h1,h⟩:=io h
   rw[bJ]at h
   obtain⟨h2,h⟩:=h
   simp only[bp,aG]at h
   refine .inr (.inl ?_)
   unfold Kp
   simp only[ho,hd]
   exact⟨vs,h2,h1,sc',h⟩
  ·exact h.elim
 ·rename_i f args tys c sc' ho
  split at h
  ·rename_i d hd
   obtain⟨h1,h⟩:=io h
   obtain⟨H',h2,h3⟩:=pG h
   simp only[bp,aG]at h3
   refine .inr (.inl ?_)
   unfold Kp
   simp only[ho,hd]
   exact⟨c.r,c.ro,H',c.oa,h2,h1,sc',h3⟩
  ·exact h.elim
 ·rename_i f args tys c sc' ho
  split at h
  ·rename_i d hd
   obtain⟨h1,h⟩:=io h
   refine .inr (.inr (.inr (.inl ?_)))
   exact Lh ho hd h1 h
  ·exact h.elim
 ·rename_i t y T T' i e n cs sc' ho
  split at h
  ·rename_i d hd
   have hh:=io h
   clear h
   obtain⟨h1,h⟩:=hh
   rw[eJ,bJ]at h
   split at h
   ·rename_i ns he hn
    split at h
    ·rename_i hc
     simp only[vaf,vap]at hc
     obtain⟨⟨rfl,c2⟩,rfl⟩:=hc
     obtain⟨h2,⟨p,h3⟩,⟨rfl,rfl⟩,h4⟩:=h
     simp only[bp,aG,IJ,aG]at h4
     refine .inr (.inr (.inl ?_))
     unfold Pw
     simp only[ho,hd]
     exact⟨e,ns,p,vzz,h2,he,hn,h3,c2,h1,sc',h4⟩
    ·exact h.elim
   ·exact h.elim
  ·exact h.elim
 ·rename_i f x tys i e n cs sc' ho
  split at h
  ·rename_i d hd
   have hh:=io h
   clear h
   obtain⟨h1,h⟩:=hh
   rw[bJ,bJ]at h
   split at h
   ·rename_i g ns hg hn
    split at h
    ·rename_i hc
     simp only[vap]at hc
     subst hc
     obtain⟨h2,⟨h3,h4,h5⟩,⟨rfl,rfl⟩,h6⟩:=h
     simp only[bp,aG,IJ,aG]at h6
     refine .inr (.inr (.inl ?_))
     unfold Pw
     simp only[ho,hd]
     exact⟨g,e,ns,hg,h2,hn,h3,h4,h5,h1,sc',h6⟩
    ·exact h.elim
   ·exact h.elim
  ·exact h.elim
 ·rename_i T x v i0 e n0 cs0 sc' ho
  split at h
  ·rename_i hd hv
   have hv':v=.slice none 0 0:=by
    unfold jN at hv
    split at hv
    ·rfl
    ·cases hv
   subst hv'
   rw[bJ,bJ]at h
   split at h
   ·rename_i i off vs hx hpc
    obtain⟨B,hB,h⟩:=dl h
    split at h
    ·rename_i cs own
     split at h
     ·rename_i hc
      simp only[bp,aG]at h
      simp only[vaf,vap]at hc
      obtain⟨⟨⟨c2,c3⟩,c4⟩,c5⟩:=hc
      refine .inr (.inr (.inl ?_))
      unfold Pw
      simp only[ho,hd]
      have hi:=ah hB
      refine⟨i,off,e,st.boxes.set i (.cells (cs.take off++vs++cs.drop (off+vs.length)) (own.filter λy=>y.1<off||off+vs.length<=y.1)),_,_,vzz,hx,?_,vad hi,sc',?_⟩
      ·simp only[dN,hpc,hB]
       rw[vaJ ⟨c2,c3,c4,c5⟩]
      ·rw[vby];exact h
     ·exact h.elim
    ·exact h.elim
   ·exact h.elim
  ·exact h.elim
 ·rename_i T t vs sc' ho
  split at h
  ·rename_i d hd
   obtain⟨h1,h⟩:=io h
   rw[eJ]at h
   split at h
   ·rename_i l hl
    rw[aG]at h
    obtain⟨rfl,h⟩:=h
    split at h
    ·rename_i hn
     simp only[bp,aG]at h
     refine .inr (.inr (.inr (.inr (.inl ?_))))
     unfold TL
     simp only[ho,hd]
     rw[vaf]at hn
     exact⟨l,Il t st.own,hl,hn.2,λy hy=>CF hy,iT hn.1,h1,sc',h⟩
    ·exact h.elim
   ·exact h.elim
  ·exact h.elim
 ·rename_i T vs sc' ho
  split at h
  ·rename_i d hd
   obtain⟨h1,h2,h⟩:=io h
   simp only[bp,aG]at h
   refine .inr (.inr (.inr (.inr (.inl ?_))))
   unfold TL
   simp only[ho,hd]
   exact⟨vs,h2,h1,sc',h⟩
  ·exact h.elim
 ·rename_i t y T T' ps sc' ho
  split at h
  ·rename_i d p hd
   have hh:=io h
   clear h
   obtain⟨h1,h⟩:=hh
   rw[eJ,bJ]at h
   split at h
   ·rename_i es s e he hn hT
    split at h
    ·rename_i hc
     simp only[vap]at hc
     obtain⟨h2,h3⟩:=h
     simp only[bp,aG]at h3
     refine .inr (.inr (.inr (.inr (.inl ?_))))
     unfold TL
     simp only[ho,hd]
     exact⟨es,s,e,p,he,hn,hT,hc,h2,h1,sc',h3⟩
    ·exact h.elim
   ·rename_i es ns e he hn hT
    split at h
    ·rename_i hc
     simp only[vaf,vap]at hc
     obtain⟨h2,h3⟩:=h
     simp only[bp,aG]at h3
     refine .inr (.inr (.inr (.inr (.inr ?_))))
     unfold Un
     simp only[ho,hd]
     exact⟨es,ns,e,p,he,hn,hc.1,hT,hc.2,h2,h1,sc',h3⟩
    ·exact h.elim
   ·exact h.elim
  ·exact h.elim
 ·rename_i T t lo ps sc' ho
  split at h
  ·rename_i d p hd
   have hh:=io h
   clear h
   obtain⟨h1,h⟩:=hh
   rw[eJ,bJ]at h
   split at h
   ·rename_i es e he hT
    split at h
    ·rename_i hc
     simp only[vaf,va2,vap]at hc
     obtain⟨h2,h3⟩:=h
     simp only[bp,aG]at h3
     refine .inr (.inr (.inr (.inr (.inr ?_))))
     unfold Un
     simp only[ho,hd]
     exact⟨es,e,p,he,hT,h2,hc.1,hc.2,h1,sc',h3⟩
    ·exact h.elim
   ·exact h.elim
  ·exact h.elim
 ·exact .inl (yL h)
theorem qe{o:Oper}{id:Nat}{K K':ay->Prop}{st:ay}(hk:∀st,K st->K' st)(h:BX P GE A o id K st):BX P GE A o id K' st:=by
 rcases h with h|h|h|h|h|h
 ·exact .inl (Py hk h)
 rotate_left 2
 ·exact .inr (.inr (.inr (.inl (Rn hk h))))
 ·exact .inr (.inr (.inr (.inr (.inl (SA hk h)))))
 ·exact .inr (.inr (.inr (.inr (.inr (SJ hk h)))))
 rotate_left
 ·refine .inr (.inr (.inl ?_))
  unfold Pw at *
  split at h
  ·obtain⟨e,ns,p,h1,h2,h3,h4,h5,h6,h7,h8⟩:=h;exact⟨e,ns,p,h1,h2,h3,h4,h5,h6,h7,hk _ h8⟩
  ·obtain⟨g,e,ns,h1,h2,h3,h4,h5,h6,h7,h8⟩:=h;exact⟨g,e,ns,h1,h2,h3,h4,h5,h6,h7,hk _ h8⟩
  ·obtain⟨i,off,e,H,cs,own,h1,h2,h3,h4,h5⟩:=h;exact⟨i,off,e,H,cs,own,h1,h2,h3,h4,hk _ h5⟩
  ·exact h
 ·refine .inr (.inl ?_)
  unfold Kp at *
  split at h
  ·obtain⟨p,L,h1,h2,h3,h4⟩:=h;exact⟨p,L,h1,h2,h3,hk _ h4⟩
  ·obtain⟨i,off,H,cs,own,L,l,h1,h2,h3,h4,h5,h6,h7⟩:=h;exact⟨i,off,H,cs,own,L,l,h1,h2,h3,h4,h5,h6,hk _ h7⟩
  ·obtain⟨i,off,cs,own,L,l,h0,h1,h2,h3,h4,h5,h6,h7,h8⟩:=h;exact⟨i,off,cs,own,L,l,h0,h1,h2,h3,h4,h5,h6,h7,hk _ h8⟩
  ·obtain⟨vs,h1,h2,h3⟩:=h;exact⟨vs,h1,h2,hk _ h3⟩
  ·obtain⟨r,ro,H',oa,h1,h2,h3⟩:=h;exact⟨r,ro,H',oa,h1,h2,hk _ h3⟩
  ·exact h
theorem pb{K:List It->ay->Prop}:∀(rest:List Oper) (pos id:Nat) (sc:List It) (st:ay),Fv P GE A ops K rest pos id sc st->b8 P GE A ops (λst=>∃sc,K sc st) rest id st
 |[],_,_,sc,st,h=>⟨sc,h⟩
 | o :: rest,pos,id,sc,st,h => by
  simp only[Fv]at h
  have step:∀sc st,Ji P GE A o id sc st (λsc' st'=>Fv P GE A ops K rest (pos+1) (id+if aB o.op then 1 else 0) sc' st')->BX P GE A o id (b8 P GE A ops (λst=>∃sc,K sc st) rest (id+if aB o.op then 1 else 0)) st:=
   λsc st hs=>qe (λst' hx=>by obtain⟨sc',hx⟩:=hx;exact pb rest _ _ sc' st' hx) (Lk hs)
  unfold b8
  split at h
  ·rename_i hg;simp only[hg];exact step _ _ h
  ·rename_i j want hg
   obtain⟨x,hx,hc⟩:=Dr h
   simp only[hg,hx]
   rcases hc with⟨rfl,sc',hc⟩|⟨hne,sc',hc⟩
   ·exact⟨λ_=>step _ _ hc,λhn=>absurd rfl hn⟩
   ·refine⟨λhe=>absurd he hne,λ_=>?_⟩
    simp only[sH]at hc
    exact pb rest _ _ sc' _ hc
end
end Go.Proofs.YtankopenjcbeeaaGreatDoor
