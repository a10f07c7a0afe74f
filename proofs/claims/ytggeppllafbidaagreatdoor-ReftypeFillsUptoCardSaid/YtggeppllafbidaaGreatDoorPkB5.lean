/- PROVED: a part of the proof. Conditions: none. -/
import Derived.Test.YtggeppllafbidaaGreatDoorPkB3
import Derived.Test.YtggeppllafbidaaGreatDoorPkB4
noncomputable section
namespace Go.Proofs.YtggeppllafbidaaGreatDoor
open Go
section plain
variable{σ X:Type}
def my(body:σ->Option (σ⊕X)):Nat->σ->Option X
 |0,_=>none
 |n+1,s=>match body s with
  |none=>none
  |some (.inl s')=>my body n s'
  |some (.inr x)=>some x
theorem Cx{body:σ->Option (σ⊕X)}:∀{n:Nat} {s:σ} {x:X},my body n s=some x->∀k,my body (n+k) s=some x
 |0,_,_,h,_=>by cases h
 | n + 1,s,x,h,k => by
  rw[Nat.add_right_comm]
  unfold my at h ⊢
  split at h
  ·cases h
  ·exact Cx h k
  ·exact h
theorem En{body:σ->Option (σ⊕X)}{n m:Nat}{s:σ}{x y:X}(h1:my body n s=some x)(h2:my body m s=some y):x=y:=by
 have h3:=Cx h1 m
 have h4:=Cx h2 n
 rw[vch]at h4
 exact vbd (h3.symm.trans h4)
open Classical in
def Kf(body:σ->Option (σ⊕X))(s:σ):Option X:=if h:∃x n,my body n s=some x then some h.choose else none
def LU:Nat:=2 ^ 200
def loop(body:σ->Option (σ⊕X))(s:σ):Option X:=match my body LU s with
 |some x=>some x
 |none=>Kf body s
theorem uD{body:σ->Option (σ⊕X)}{s:σ}{x:X}:loop body s=some x↔∃n,my body n s=some x:=by
 have hC:Kf body s=some x↔∃n,my body n s=some x:=by
  unfold Kf
  constructor
  ·intro h
   split at h
   ·rename_i he;cases h;exact he.choose_spec
   ·cases h
  ·rintro⟨n,h⟩
   have he:∃x n,my body n s=some x:=⟨x,n,h⟩
   rw[dif_pos he]
   obtain⟨m,hm⟩:=he.choose_spec
   rw[En hm h]
 unfold loop
 split
 ·rename_i y hy
  exact⟨fun h=>⟨LU,hy.trans h⟩,fun⟨n,h⟩=>vbe some (En hy h)⟩
 ·exact hC
theorem uC(body:σ->Option (σ⊕X))(s:σ):loop body s=match body s with
  |none=>none
  |some (.inl s')=>loop body s'
  |some (.inr x)=>some x:=by
 have key:∀y,loop body s=some y↔(match body s with
  |none=>none
  |some (.inl s')=>loop body s'
  |some (.inr x)=>some x)=some y:=by
  intro y
  rw[uD]
  constructor
  ·rintro⟨n,h⟩
   cases n with
   |zero=>cases h
   | succ n =>
    unfold my at h
    cases hb:body s with
    |none=>rw[hb]at h;cases h
    |some v=>
     cases v with
     |inl s'=>rw[hb]at h;exact uD.2 ⟨n,h⟩
     |inr x=>rw[hb]at h;exact h
  ·intro h
   cases hb:body s with
   |none=>rw[hb]at h;cases h
   | some v =>
    cases v with
    |inl s'=>
     rw[hb]at h
     obtain⟨n,hn⟩:=uD.1 h
     exact⟨n+1,by unfold my;rw[hb];exact hn⟩
    |inr x=>rw[hb]at h;exact⟨1,by unfold my;rw[hb];exact h⟩
 cases h1:loop body s with
 | none =>
  cases h2:(match body s with
   |none=>none
   |some (.inl s')=>loop body s'
   |some (.inr x)=>some x)with
  |none=>rfl
  |some y=>rw[(key y).2 h2]at h1;cases h1
 |some y=>exact((key y).1 h1).symm
def eh{α:Type}(l:List α)(i:Int):Option α:=if 0<=i then l[i.toNat]? else none
theorem av{α β:Type}{o:Option α}{k:α->Option β}{x:β}(h:o.bind k=some x):∃a,o=some a/\k a=some x:=by
 cases o with
 |none=>cases h
 |some a=>exact⟨a,rfl,h⟩
theorem aT{β:Type}{b:Bool}{x y:Option β}{z:β}(h:(if b=true then x else y)=some z):(b=true/\x=some z)\/(b=false/\y=some z):=by
 cases b
 ·exact .inr ⟨rfl,h⟩
 ·exact .inl ⟨rfl,h⟩
end plain
structure xw(GE:List (Nat×List PVal))(m:Nat)(E:ma):Prop where
 ge:E.GE=GE
 low:∀b n,E.Γ b=some n->b<E.w.heap.size
 nt:m=0->∀b,¬E.T b
 gl:∀g cs,(g,cs)∈GE->VR E.Γ [] E.w (.eptr cs) (.pointer (some ⟨g,0,none⟩))
def aC(P:Program)(GE:List (Nat×List PVal))(m:Nat)(c:Code)(Q:Exit->aq->Prop)(st:aq):Prop:=
 ∀(ro:Option Nat) (E:ma) (bs0:ba) (a:Act) (w:World),xw GE m E->bs0.length=m % 1000->FE P E bs0 st a w->Eg ro P c (JB P E bs0 a.defers Q) a w
def EX(e:Exit)(st:aq):Exit->aq->Prop:=fun e' st'=>e'=e/\st'=st
def mO(P:Program)(m:Nat)(st st':aq):Prop:=∀(E:ma) (bs0:ba) (a:Act) (w:World),bs0.length=m % 1000->FE P E bs0 st a w->FE P E bs0 st' a w
section
variable{P:Program}{GE:List (Nat×List PVal)}{m:Nat}
theorem mO.refl(st:aq):mO P m st st:=fun _ _ _ _ _ h=>h
theorem mO.trans{a b c:aq}(h:mO P m a b)(h':mO P m b c):mO P m a c:=fun E bs0 x w hb h0=>h' E bs0 x w hb (h E bs0 x w hb h0)
theorem mO.of_less{st st':aq}(h:Nx st st')(hm:m % 1000<=st'.boxes.length):mO P m st st':=fun _ _ _ _ hb hR=>hR.less h (by rw[hb];exact hm)
theorem aC.mono{c:Code}{Q Q':Exit->aq->Prop}{st:aq}(h:aC P GE m c Q st)(hq:∀e st,Q e st->∃st',mO P m st st'/\Q' e st'):aC P GE m c Q' st:=
 fun ro E bs0 a w hE hb hR=>lS (h ro E bs0 a w hE hb hR) fun e a' w' hP=>by
  obtain⟨hd,st1,hR1,hQ⟩:=hP
  obtain⟨st2,hw,hQ2⟩:=hq e st1 hQ
  exact⟨hd,st2,hw E bs0 a' w' hb hR1,hQ2⟩
theorem aC.imp{c:Code}{Q Q':Exit->aq->Prop}{st:aq}(h:aC P GE m c Q st)(hq:∀e st,Q e st->Q' e st):aC P GE m c Q' st:=h.mono fun e st hQ=>⟨st,.refl st,hq e st hQ⟩
theorem aC.weak{c:Code}{Q:Exit->aq->Prop}{st st':aq}(hw:mO P m st st')(h:aC P GE m c Q st'):aC P GE m c Q st:=
 fun ro E bs0 a w hE hb hR=>h ro E bs0 a w hE hb (hw E bs0 a w hb hR)
theorem aC.skip{Q:Exit->aq->Prop}{st:aq}(h:Q .normal st):aC P GE m .skip Q st:=fun _ _ _ _ _ _ _ hR=>JR ⟨rfl,st,hR,h⟩
theorem aC.label{l:Nat}{Q:Exit->aq->Prop}{st:aq}(h:Q .normal st):aC P GE m (.label l) Q st:=fun _ _ _ _ _ _ _ hR=>IK ⟨rfl,st,hR,h⟩
theorem aC.exit{id:Nat}{Q:Exit->aq->Prop}{st:aq}(h:Q (.exit id) st):aC P GE m (.exit id) Q st:=fun _ _ _ _ _ _ _ hR=>JQ ⟨rfl,st,hR,h⟩
theorem aC.ret{Q:Exit->aq->Prop}{st:aq}(h:Q .ret st):aC P GE m .ret Q st:=fun _ _ _ _ _ _ _ hR=>Lh ⟨rfl,st,hR,h⟩
theorem aC.seq{x y:Code}{Q:Exit->aq->Prop}{st:aq}(h:aC P GE m x (fun e st'=>match e with|.normal=>aC P GE m y Q st'|e=>Q e st') st):aC P GE m (.seq x y) Q st:=by
 intro ro E bs0 a w hE hb hR
 refine Li (lS (h ro E bs0 a w hE hb hR) fun e a' w' hq=>?_)
 obtain⟨hd,st',hR',hq⟩:=hq
 cases e with
 |normal=>
  have:=hq ro E bs0 a' w' hE hb hR'
  rw[hd]at this
  exact this
 |exit id=>exact⟨hd,st',hR',hq⟩
 |goto l=>exact⟨hd,st',hR',hq⟩
 |ret=>exact⟨hd,st',hR',hq⟩
 |panic c=>exact⟨hd,st',hR',hq⟩
 |outgrown=>exact⟨hd,st',hR',hq⟩
theorem aC.cond{c:Operand}{x y:Code}{Q:Exit->aq->Prop}{st:aq}{t:Bool}(hv:opv GE st.tmps c=.bool t)(h1:t=true->aC P GE m x Q st)(h2:t=false->aC P GE m y Q st):aC P GE m (.cond c x y) Q st:=by
 intro ro E bs0 a w hE hb hR
 obtain⟨Γ,bs,ow,h,hk⟩:=hR
 have hv':=h.opv a.defers c
 rw[hE.ge,hv]at hv'
 generalize hc:(Act.mk a.tmps a.defers).eval c=vc at hv'
 cases hv'
 exact JP (t:=t) hc (fun ht=>h1 ht ro E bs0 a w hE hb ⟨Γ,bs,ow,h,hk⟩) (fun ht=>h2 ht ro E bs0 a w hE hb ⟨Γ,bs,ow,h,hk⟩)
theorem aC.block{id:Nat}{c:Code}{Q:Exit->aq->Prop}{st:aq}(h:aC P GE m c (G5 id Q) st):aC P GE m (.block id c) Q st:=by
 intro ro E bs0 a w hE hb hR
 refine IJ (lS (h ro E bs0 a w hE hb hR) fun e a' w' hq=>?_)
 obtain⟨hd,st',hR',hq⟩:=hq
 cases e with
 | exit id' =>
  simp only[G5]at hq
  simp only[Exit.inBlock]
  split at hq
  ·rename_i hid;rw[var hid];exact⟨hd,st',hR',hq⟩
  ·rename_i hid;rw[vav hid];exact⟨hd,st',hR',hq⟩
 |normal=>exact⟨hd,st',hR',hq⟩
 |goto l=>exact⟨hd,st',hR',hq⟩
 |ret=>exact⟨hd,st',hR',hq⟩
 |panic c=>exact⟨hd,st',hR',hq⟩
 |outgrown=>exact⟨hd,st',hR',hq⟩
theorem aC.text{A:List Nat}{id:Nat}{ops:Array Oper}{Q:Exit->aq->Prop}{st:aq}(hd:ops.toList.all dZ=true)
  (h:cr P GE A ops (Q .normal) ops.toList st.boxes.length {st with boxes:=st.boxes++ek P ops.toList}):aC P GE m (.region id ops false) Q st:=by
 intro ro E bs0 a w hE hb hR
 obtain⟨rfl,_,_,_⟩:=hE
 refine lS (wH (Q:=fun e a' w'=>e=.normal/\JB P E bs0 a.defers Q .normal a' w') hd (by rintro⟨_,_,h,_⟩;cases h) ?_) fun e a' w' hq=>by obtain⟨rfl,hq⟩:=hq;exact hq
 exact DX hR hR.len (fun a' w' st' hd hR' hK=>⟨rfl,hd,st',hR',hK⟩) h
def LQ{σ X:Type}(S:σ->aq)(ex:X->Exit)(so:X->aq):σ⊕X->Exit->aq->Prop
 |.inl s,e,st=>e=.normal/\st=S s
 |.inr x,e,st=>e≠.normal/\e=ex x/\st=so x
theorem aC.loop{σ X:Type}{S:σ->aq}{ex:X->Exit}{so:X->aq}{body:σ->Option (σ⊕X)}{c:Code}{s:σ}{x:X}(h:loop body s=some x)
  (hb:∀s y,body s=some y->aC P GE m c (LQ S ex so y) (S s)):aC P GE m (.loop c) (EX (ex x) (so x)) (S s):=by
 obtain⟨n,hn⟩:=uD.1 h
 intro ro E bs0 a w hE hb0 hR
 refine Ca (fun k a' w'=>a'.defers=a.defers/\∃s',FE P E bs0 (S s') a' w'/\my body k s'=some x) n ⟨rfl,s,hR,hn⟩ ?_
 intro k a1 w1 hI
 obtain⟨hd1,s1,hR1,hl⟩:=hI
 cases k with
 |zero=>cases hl
 | succ k =>
  unfold my at hl
  split at hl
  ·cases hl
  ·rename_i s2 hs2
   refine lS (hb s1 _ hs2 ro E bs0 a1 w1 hE hb0 hR1) fun e a' w' hq=>?_
   obtain⟨hd,st',hR',rfl,rfl⟩:=hq
   exact⟨k,vcy k,hd.trans hd1,s2,hR',hl⟩
  ·rename_i x2 hs2
   cases hl
   refine lS (hb s1 _ hs2 ro E bs0 a1 w1 hE hb0 hR1) fun e a' w' hq=>?_
   obtain⟨hd,st',hR',hne,rfl,rfl⟩:=hq
   have hd':=hd.trans hd1
   cases hex:ex x with
   |normal=>exact absurd hex hne
   |exit id=>exact⟨hd',_,hR',rfl,rfl⟩
   |goto l=>exact⟨hd',_,hR',rfl,rfl⟩
   |ret=>exact⟨hd',_,hR',rfl,rfl⟩
   |panic c=>exact⟨hd',_,hR',rfl,rfl⟩
   |outgrown=>exact⟨hd',_,hR',rfl,rfl⟩
def A2:List PVal->List PVal->List PVal
 |[],_=>[]
 |_::ps,[]=>.undef::A2 ps []
 |_::ps,.undef::qs=>.undef::A2 ps qs
 |p::ps,_::qs=>p::A2 ps qs
def DK:aw->aw->aw
 |_,.dead=>.dead
 |.cells cs own,.cells _ own'=>.cells cs (match own'.all fun x=>decide (x∈own)with
  |true=>own'
  |false=>own)
 |p,_=>p
def F6:List aw->List aw->List aw
 |[],_=>[]
 |p::ps,[]=>p::F6 ps []
 |p::ps,q::qs=>DK p q::F6 ps qs
def PA(B B':aw):Prop:=B=.dead\/B=B'\/∃cs own own',B'=.cells cs own/\B=.cells cs own'/\∀x∈own',x∈own
theorem HZ(p q:aw):PA (DK p q) p:=by
 unfold DK
 split
 ·exact .inl rfl
 ·split
  ·rename_i h
   exact .inr (.inr ⟨_,_,_,rfl,rfl,fun x hx=>by simpa using vau.1 h x hx⟩)
  ·exact .inr (.inl rfl)
 ·exact .inr (.inl rfl)
theorem F8(p:PVal)(ps qs:List PVal):∃q r,A2 (p::ps) qs=q::A2 ps r/\(q=.undef\/q=p):=by
 cases qs with
 |nil=>exact⟨_,[],by simp[A2],.inl rfl⟩
 |cons q qs=>cases q<;>first|(refine⟨p,qs,?_,.inr rfl⟩;simp only[A2];done)|(refine⟨.undef,qs,?_,.inl rfl⟩;simp only[A2];done)
theorem E8:∀{l bs:List PVal} {i:Nat} {p:PVal},(A2 l bs)[i]? =some p->p=.undef\/l[i]? =some p
 |[],bs,i,p,h=>by simp[A2]at h
 |q::l,bs,i,p,h=>by
  obtain⟨q',r,h1,h2⟩:=F8 q l bs
  rw[h1]at h
  cases i with
  |zero=>simp at h;subst h;rcases h2 with h2|h2<;>simp[h2]
  |succ i=>simpa using E8 (by simpa using h)
theorem E9:∀{l bs:List PVal},(A2 l bs).length=l.length
 |[],bs=>by simp[A2]
 |q::l,bs=>by obtain⟨q',r,h1,h2⟩:=F8 q l bs;rw[h1];simp[E9]
theorem BN:∀{l bs:List aw} {i:Nat} {B:aw},(F6 l bs)[i]? =some B->∃B',l[i]? =some B'/\PA B B'
 |[],bs,i,p,h=>by simp[F6]at h
 |q::l,[],i,B,h=>by
  simp only[F6]at h
  cases i with
  |zero=>simp at h;subst h;exact⟨q,rfl,.inr (.inl rfl)⟩
  |succ i=>simpa using BN (by simpa using h)
 |q::l,r::bs,i,B,h=>by
  simp only[F6]at h
  cases i with
  |zero=>simp at h;subst h;exact⟨q,rfl,HZ q r⟩
  |succ i=>simpa using BN (by simpa using h)
theorem E7:∀{l bs:List aw},(F6 l bs).length=l.length
 |[],bs=>by simp[F6]
 |q::l,[]=>by simp only[F6,vaS,E7]
 |q::l,r::bs=>by simp only[F6,vaS,E7]
theorem mO.forget{st:aq}(bt:List PVal)(bb:List aw)(own:List ((Nat×Nat)×TypeId))(ho:∀x∈own,x∈st.own):mO P m st ⟨A2 st.tmps bt,F6 st.boxes bb,own⟩:=by
 intro E bs0 a w hb hR
 obtain⟨Γ,bs,ow,h,hk⟩:=hR
 refine⟨Γ,bs,ow,?_,hk⟩
 exact{h with
  sz:=by rw[h.sz];exact E9.symm
  tm:=fun t p v hp hv=>by
   rcases E8 hp with rfl|hp'
   ·exact .undef v
   ·exact h.tm t p v hp' hv
  bl:=by rw[h.bl];exact E7.symm
  bx:=fun i b B hib hB=>by
   obtain⟨B',hB',hx⟩:=BN hB
   obtain⟨k1,k2,k3⟩:=h.bx i b B' hib hB'
   rcases hx with rfl|rfl|⟨cs,own,own',rfl,rfl,_⟩
   ·exact⟨k1,k2,trivial⟩
   ·exact⟨k1,k2,k3⟩
   ·exact⟨k1,k2,k3⟩
  ot:=fun t k e he=>h.ot t k e (ho _ he)
  ob:=fun i j e cs own' b hB hj hib=>by
   obtain⟨B',hB',hx⟩:=BN hB
   rcases hx with hx|rfl|⟨cs1,eR,own2,rfl,e2,hs⟩
   ·cases hx
   ·exact h.ob i j e cs own' b hB' hj hib
   ·cases e2;exact h.ob i j e _ eR b hB' (hs _ hj) hib}
theorem EX.of{c:Code}{e:Exit}{st st0:aq}{Q:Exit->aq->Prop}(h:aC P GE m c (EX e st0) st)(hq:Q e st0):aC P GE m c Q st:=
 h.imp fun e' st' hx=>by obtain⟨rfl,rfl⟩:=hx;exact hq
end
structure GC where
 ρ:List Nat
 argsC:List PVal
 oa:List OA
 Bs:List aw
 Hc:List aw
 Bs':List aw
 Hc':List aw
 r:PVal
 rc:PVal
 ro:List (Nat×TypeId)
inductive It where
 |cg (c:GC)
 |ar (i:Nat) (e:TypeId) (n:Nat) (cs:List PVal)
 |fz (i:Nat) (es:List (List PVal)) (lv rk:List Nat)
 |g (j:Nat) (b:Bool)
 |k
 |s
 |v (p:PVal)
 |x (cs:List PVal)
 |w (i:Nat) (B:aw)
 |c (r:PVal) (ro:List (Nat×TypeId))
 |dr (an:List Nat)
 |dx (an:List Nat) (X:List aw) (br:List (Nat×Nat)) (rw:List Nat)
 |pa (n:Nat)
 |pc (st0:aq) (e:Exit) (st1:aq)
 |b (p:PVal) (L:List (Nat×TypeId))
 |y (vs:List PVal)
 |z (l:List PVal)
 |e (vs:List PVal)
def pD:List PVal->Nat->(PVal->Prop)->Prop
 |[],_,k=>k .undef
 |p::_,0,k=>k p
 |_::l,n+1,k=>pD l n k
theorem fe:∀(l:List PVal) (n:Nat) (k:PVal->Prop),pD l n k=k (l.getD n .undef)
 |[],_,_=>by simp[pD]
 |_::_,0,_=>by simp[pD]
 |_::l,n+1,k=>by simp only[pD,fe l n k,List.getD_cons_succ]
def ep{α:Type}:List α->Nat->α->(List α->Prop)->Prop
 |[],_,_,k=>k []
 |_::l,0,v,k=>k (v::l)
 |x::l,n+1,v,k=>ep l n v fun l'=>k (x::l')
theorem bm{α:Type}:∀(l:List α) (n:Nat) (v:α) (k:List α->Prop),ep l n v k=k (l.set n v)
 |[],_,_,_=>by simp[ep]
 |_::_,0,_,_=>by simp[ep]
 |x::l,n+1,v,k=>by simp only[ep,bm l n v,List.set_cons_succ]
def bh{α:Type}:List α->(List α->Prop)->Prop
 |[],k=>k []
 |x::l,k=>bh l fun l'=>k (x::l')
def EY(l:List aw)(r:List aw)(k:List aw->Prop):Prop:=bh (l++r) k
theorem aA{α:Type}:∀(l:List α) (k:List α->Prop),bh l k=k l
 |[],_=>rfl
 |x::l,k=>by simp only[bh,aA l]
def Mr:Value->(PVal->Prop)->Prop
 |.int a n,k=>k (.int a n)
 |.bool b,k=>k (.bool b)
 |.string s,k=>bh s.data.toList fun l=>k (.str l)
 |v,k=>k (absV v)
theorem KZ(v:Value)(k:PVal->Prop):Mr v k=k (absV v):=by
 unfold Mr
 split
 ·rfl
 ·rfl
 ·rw[aA];rfl
 ·rfl
def j0(GE:List (Nat×List PVal))(tmps:List PVal)(x:Operand)(k:PVal->Prop):Prop:=
 match x with
 |.tmp t=>pD tmps t k
 |.const v=>Mr v k
 |x=>k (opv GE tmps x)
theorem bK(GE:List (Nat×List PVal))(tmps:List PVal)(x:Operand)(k:PVal->Prop):j0 GE tmps x k=k (opv GE tmps x):=by
 cases x with
 |tmp t=>exact fe _ _ _
 |const v=>exact KZ _ _
 |global g=>rfl
 |func f=>rfl
def DO(GE:List (Nat×List PVal))(tmps:List PVal):List Operand->(List PVal->Prop)->Prop
 |[],k=>k []
 |x::l,k=>j0 GE tmps x fun p=>DO GE tmps l fun ps=>k (p::ps)
theorem mX(GE:List (Nat×List PVal))(tmps:List PVal):∀(l:List Operand) (k:List PVal->Prop),DO GE tmps l k=k (l.map (opv GE tmps))
 |[],_=>rfl
 |x::l,k=>by simp only[DO,bK,mX GE tmps l,vaQ]
def pJ(GE:List (Nat×List PVal))(tmps:List PVal):List (Nat×Operand)->(List (Nat×PVal)->Prop)->Prop
 |[],k=>k []
 |x::l,k=>j0 GE tmps x.2 fun p=>pJ GE tmps l fun ps=>k ((x.1,p)::ps)
theorem jU(GE:List (Nat×List PVal))(tmps:List PVal):∀(l:List (Nat×Operand)) (k:List (Nat×PVal)->Prop),pJ GE tmps l k=k (l.map fun x=>(x.1,opv GE tmps x.2))
 |[],_=>rfl
 |x::l,k=>by simp only[pJ,bK,jU GE tmps l,vaQ]
def Lu(GE:List (Nat×List PVal))(tmps:List PVal):Option Operand->(Option PVal->Prop)->Prop
 |none,k=>k none
 |some x,k=>j0 GE tmps x fun p=>k (some p)
theorem Lv(GE:List (Nat×List PVal))(tmps:List PVal)(o:Option Operand)(k:Option PVal->Prop):Lu GE tmps o k=k (o.map (opv GE tmps)):=by
 cases o with
 |none=>rfl
 |some x=>simp only[Lu,bK,vad]
def xo(sc:List It)(f:PVal->Prop)(K:PVal->List It->Prop):Prop:=
 match sc with
 |.v p::sc'=>f p/\K p sc'
 |_=>False
def DL(o:Option PVal)(K:PVal->Prop):Prop:=
 match o with
 |some p=>K p
 |none=>False
theorem oK{o:Option PVal}{K:PVal->Prop}(h:DL o K):∃p,o=some p/\K p:=by
 unfold DL at h
 split at h
 ·exact⟨_,rfl,h⟩
 ·exact h.elim
theorem iC{sc:List It}{f:PVal->Prop}{K:PVal->List It->Prop}(h:xo sc f K):∃p sc',f p/\K p sc':=by
 unfold xo at h
 split at h
 ·exact⟨_,_,h⟩
 ·exact h.elim
def CC(P:Program)(GE:List (Nat×List PVal))(g:FuncId)(args:List PVal)(r:PVal)(ro:List (Nat×TypeId)):Prop:=hX 0 args/\C P GE g args [] [] r ro []
def CO(P:Program)(t:TypeId)(es:List (PVal×PVal))(k:PVal)(ok:Bool):Option PVal:=
 match P.underlying t with
 | some (.map kt e) => match P.underlying kt with
  | some kd =>
   if jy kd k then
    match tM k es 0,zS P e with
    |some (some (_,v)),_=>some (if ok then .tuple [v,.bool true]else v)
    |some none,some z=>some (if ok then .tuple [z,.bool false]else z)
    |_,_=>none
   else none
  |_=>none
 |_=>none
theorem Jb{P:Program}{t:TypeId}{es:List (PVal×PVal)}{k p:PVal}{ok:Bool}{H:List aw}{i:Nat}(hB:H[i]? =some (.map es))(h:CO P t es k ok=some p):oS P t (.mapr i) k ok H=some p:=by
 unfold CO at h
 unfold oS
 split at h
 ·rename_i kt e hu
  split at h
  ·rename_i kd hk
   simp only[hu,hB,hk]
   exact h
  ·cases h
 ·cases h
def Ew(P:Program)(t:TypeId)(es:List (PVal×PVal))(k v:PVal):Option (List (PVal×PVal)):=
 match P.underlying t with
 | some (.map kt _) => match P.underlying kt with
  | some kd =>
   if jy kd k then
    match tM k es 0 with
    |some (some (j,_))=>some (es.set j (k,v))
    |some none=>some (es++[(k,v)])
    |none=>none
   else none
  |_=>none
 |_=>none
theorem Gy{P:Program}{t:TypeId}{es es':List (PVal×PVal)}{k v:PVal}{H:List aw}{i:Nat}(hB:H[i]? =some (.map es))(h:Ew P t es k v=some es'):eJ P t (.mapr i) k v H=some (H.set i (.map es')):=by
 unfold Ew at h
 unfold eJ
 split at h
 ·rename_i kt e hu
  split at h
  ·rename_i kd hk
   simp only[hu,hB,hk]
   split at h
   ·rename_i hkk
    rw[var hkk]
    split at h
    ·rename_i hf;cases h;simp[hf]
    ·rename_i hf;cases h;simp[hf]
    ·cases h
   ·cases h
  ·cases h
 ·cases h
def ig:List aw->Nat->(aw->Prop)->Prop
 |[],_,_=>False
 |B::_,0,k=>k B
 |_::l,n+1,k=>ig l n k
theorem cM:∀{l:List aw} {n:Nat} {k:aw->Prop},ig l n k->∃B,l[n]? =some B/\k B
 |[],_,_,h=>h.elim
 |B::_,0,_,h=>⟨B,rfl,h⟩
 |_::l,n+1,k,h=>by simp only[ig]at h;obtain⟨B,h1,h2⟩:=cM h;exact⟨B,by simpa using h1,h2⟩
def IW(op:BinOp)(x:PVal):Bool:=match op,x with
 |.quo,_=>true
 |.rem,_=>true
 |.add,.str _=>true
 |_,.agg _=>true
 |_,_=>false
def HY(P:Program)(GE:List (Nat×List PVal))(op:Op)(tmps:List PVal)(H:List aw)(sc:List It)(K:PVal->List aw->List It->Prop):Prop:=
 match op with
 |.move x=>j0 GE tmps x fun p=>K p H sc
 |.assign x=>j0 GE tmps x fun p=>K p H sc
 |.pick c x y=>j0 GE tmps c fun pc=>match pc with
  |.bool true=>j0 GE tmps x fun p=>K p H sc
  |.bool false=>j0 GE tmps y fun p=>K p H sc
  |_=>False
 |.binOp op T x y _=>j0 GE tmps x fun vx=>j0 GE tmps y fun vy=>match IW op vx with
  |true=>xo sc (fun p=>Hx P op T vx vy=some p) fun p sc'=>K p H sc'
  |false=>DL (Hx P op T vx vy) fun p=>K p H sc
 |.unOp op _ x=>j0 GE tmps x fun vx=>DL (Oy op vx) fun p=>K p H sc
 |.convert s d x=>j0 GE tmps x fun vx=>xo sc (fun p=>Ik P s d vx=some p) fun p sc'=>K p H sc'
 |.extract t i=>j0 GE tmps t fun vt=>DL (nG vt i) fun p=>K p H sc
 |.nilCheck x=>j0 GE tmps x fun vx=>match vx with
  |.eptr cs=>K (.eptr cs) H sc
  |.bptr i off=>K (.bptr i off) H sc
  |.func (.func f) first cap=>K (.func (.func f) first cap) H sc
  |_=>False
 |.makeFunc fn first cap=>DO GE tmps first.toList fun f=>DO GE tmps cap.toList fun c=>K (.func fn f c) H sc
 | .load t x => j0 GE tmps x fun vx => match vx with
  |.eptr cs=>xo sc (fun p=>ch P t cs=some p) fun p sc'=>K p H sc'
  | .bptr i off => ig H i fun B => match B with
   |.cells cs _=>match sc with
    |.s::sc'=>DL (ch P t (cs.drop off)) fun p=>K p H sc'
    |.v p::sc'=>ch P t (cs.drop off)=some p/\K p H sc'
    |_=>False
   |_=>False
  |_=>False
 | .store t x y => j0 GE tmps x fun vx => j0 GE tmps y fun vy => match vx,sc with
  | .bptr i off,.s :: sc' => match bZ vy with
   | some vs => ig H i fun B => match B with
    |.cells cs own=>match decide (vs.length=P.cellsOf t)&&(P.info? t).isSome&&decide (off+vs.length<=cs.length)&&vs.all PVal.one with
     |true=>bh (cs.take off++vs++cs.drop (off+vs.length)) fun cs'=>ep H i (.cells cs' (own.filter fun y=>y.1<off||off+vs.length<=y.1)) fun H'=>K (.val undef) H' sc'
     |false=>False
    |_=>False
   |none=>False
  | .bptr i off,.x vs :: sc' => bZ vy = some vs∧(ig H i fun B => match B with
    |.cells cs own=>match decide (vs.length=P.cellsOf t)&&(P.info? t).isSome&&decide (off+vs.length<=cs.length)&&vs.all PVal.one with
     |true=>bh (cs.take off++vs++cs.drop (off+vs.length)) fun cs'=>ep H i (.cells cs' (own.filter fun y=>y.1<off||off+vs.length<=y.1)) fun H'=>K (.val undef) H' sc'
     |false=>False
    |_=>False)
  |.bptr i off,.w _ (.cells cs' own')::sc'=>ig H i fun B=>(cH P t (.bptr 0 off) vy [B]=some [.cells cs' own'])/\ep H i (.cells cs' own') fun H'=>K (.val undef) H' sc'
  |_,_=>False
 |.fieldAddr s x f=>j0 GE tmps x fun vx=>match vx with
  |.bptr i off=>DL (cE P s (.bptr i off) f) fun p=>K p H sc
  |vx=>xo sc (fun p=>cE P s vx f=some p) fun p sc'=>K p H sc'
 |.field t x f=>j0 GE tmps x fun vx=>xo sc (fun p=>Fp P t vx f=some p) fun p sc'=>K p H sc'
 |.indexAddr t x i=>j0 GE tmps x fun vx=>j0 GE tmps i fun vi=>xo sc (fun p=>il P t vx vi=some p) fun p sc'=>K p H sc'
 |.index t x i=>j0 GE tmps x fun vx=>j0 GE tmps i fun vi=>xo sc (fun p=>ry P t vx vi=some p) fun p sc'=>K p H sc'
 | .lookup t m k ok => j0 GE tmps m fun vm => j0 GE tmps k fun vk => match vm with
  |.mapr i=>ig H i fun B=>match B with
   |.map es=>xo sc (fun p=>CO P t es vk ok=some p) fun p sc'=>K p H sc'
   |_=>False
  |_=>False
 | .mapUpdate t m k x => j0 GE tmps m fun vm => j0 GE tmps k fun vk => j0 GE tmps x fun vx => match vm,sc with
  |.mapr i,.w _ (.map es')::sc'=>ig H i fun B=>match B with
   |.map es=>Ew P t es vk vx=some es'/\ep H i (.map es') fun H'=>K (.val undef) H' sc'
   |_=>False
  |_,_=>False
 |.slice t x lo hi none=>j0 GE tmps x fun vx=>Lu GE tmps lo fun vl=>Lu GE tmps hi fun vh=>xo sc (fun p=>tT P t vx vl vh none=some p) fun p sc'=>K p H sc'
 |.build t parts=>pJ GE tmps parts.toList fun ps=>xo sc (fun p=>dc P t ps=some p) fun p sc'=>K p H sc'
 |.buildSlice t len parts=>pJ GE tmps parts.toList fun ps=>xo sc (fun p=>dR P t len ps=some p) fun p sc'=>K p H sc'
 | .call { callee := .builtin .len,args:=⟨[x]⟩,argTypes:=⟨[t]⟩ } => j0 GE tmps x fun vx => match vx with
  |.mapr i=>ig H i fun B=>match B with
   |.map es=>xo sc (fun p=>p=.int .i64 es.length/\(P.underlying t).any (fun d=>match d with|.map _ _=>true|_=>false)=true) fun p sc'=>K p H sc'
   |_=>False
  |vx=>xo sc (fun p=>∀H,wV P t vx H=some p) fun p sc'=>K p H sc'
 |.call {callee:=.builtin .max,args:=⟨x::r⟩,..}=>j0 GE tmps x fun vx=>DO GE tmps r fun vr=>DL (Ay Il vx vr) fun p=>K p H sc
 |.call {callee:=.builtin .min,args:=⟨x::r⟩,..}=>j0 GE tmps x fun vx=>DO GE tmps r fun vr=>DL (Ay Im vx vr) fun p=>K p H sc
 |_=>False
section
variable{P:Program}{GE:List (Nat×List PVal)}
theorem Je{t:TypeId}{off i:Nat}{y:PVal}{H:List aw}{B:aw}{cs':List PVal}{own':List (Nat×TypeId)}(hB:H[i]? =some B)(h:cH P t (.bptr 0 off) y [B]=some [.cells cs' own']):cH P t (.bptr i off) y H=some (H.set i (.cells cs' own')):=by
 unfold cH at h ⊢
 split at h
 ·rename_i i' off' vs h1 h2
  cases h1
  simp only[h2]
  change (match(some B:Option aw)with|some (.cells cs own)=>_|_=>none)=_ at h
  rw[hB]
  split at h
  ·rename_i hb
   cases hb
   simp only
   split at h
   ·rename_i hc
    rw[var hc]
    simp only[List.set_cons_zero,vao,vbl,vcB]at h
    rw[h]
   ·cases h
  ·cases h
 ·cases h
theorem Kq(t:TypeId)(id:Nat)(v:Operand->PVal)(x:Operand)(H:List aw):lX P (.load t x) id v H=(kP P t (v x) H).map fun p=>(p,H):=rfl
theorem Ap{op:Op}{id:Nat}{tmps:List PVal}{H:List aw}{sc:List It}{K:PVal->List aw->List It->Prop}(h:HY P GE op tmps H sc K):∃p H' sc',lX P op id (opv GE tmps) H=some (p,H')/\K p H' sc'/\H'.length=H.length:=by
 unfold HY at h
 split at h
 case h_1=>rw[bK]at h;exact⟨_,_,_,rfl,h,rfl⟩
 case h_2=>rw[bK]at h;exact⟨_,_,_,rfl,h,rfl⟩
 case h_3 c x y=>
  rw[bK]at h
  split at h
  ·rename_i hc;rw[bK]at h;exact⟨_,_,_,by simp only[lX,hc],h,rfl⟩
  ·rename_i hc;rw[bK]at h;exact⟨_,_,_,by simp only[lX,hc],h,rfl⟩
  ·exact h.elim
 case h_4=>
  simp only[bK]at h
  split at h
  ·obtain⟨p,sc',h1,h2⟩:=iC h;exact⟨p,_,sc',by simp only[lX,h1,vad],h2,rfl⟩
  ·obtain⟨p,h1,h2⟩:=oK h;exact⟨p,_,_,by simp only[lX,h1,vad],h2,rfl⟩
 case h_5=>simp only[bK]at h;obtain⟨p,h1,h2⟩:=oK h;exact⟨p,_,_,by simp only[lX,h1,vad],h2,rfl⟩
 case h_6=>simp only[bK]at h;obtain⟨p,sc',h1,h2⟩:=iC h;exact⟨p,_,sc',by simp only[lX,h1,vad],h2,rfl⟩
 case h_7=>simp only[bK]at h;obtain⟨p,h1,h2⟩:=oK h;exact⟨p,_,_,by simp only[lX,h1,vad],h2,rfl⟩
 case h_8=>
  simp only[bK]at h
  split at h
  ·rename_i hv;exact⟨_,_,_,by simp only[lX,hv],h,rfl⟩
  ·rename_i hv;exact⟨_,_,_,by simp only[lX,hv],h,rfl⟩
  ·rename_i hv;exact⟨_,_,_,by simp only[lX,hv],h,rfl⟩
  ·exact h.elim
 case h_9=>simp only[mX]at h;exact⟨_,_,_,rfl,h,rfl⟩
 case h_10 t x=>
  simp only[bK]at h
  rw[Kq]
  split at h
  ·rename_i cs hv
   obtain⟨p,sc',h1,h2⟩:=iC h
   exact⟨p,_,sc',by simp only[hv,kP,h1,vad],h2,rfl⟩
  ·rename_i i off hv
   obtain⟨B,hB,h⟩:=cM h
   split at h
   ·rename_i cs own
    split at h
    ·obtain⟨p,h1,h2⟩:=oK h
     exact⟨p,_,_,by simp only[hv,kP,hB,h1,vad],h2,rfl⟩
    ·exact⟨_,_,_,by simp only[hv,kP,hB,h.1,vad],h.2,rfl⟩
    ·exact h.elim
   ·exact h.elim
  ·exact h.elim
 case h_11 t x y=>
  simp only[bK]at h
  split at h
  ·rename_i i off sc' hv
   split at h
   ·rename_i vs hvs
    obtain⟨B,hB,h⟩:=cM h
    split at h
    ·rename_i cs own
     split at h
     ·rename_i hc
      simp only[aA,bm]at h
      simp only[vah,vap]at hc
      exact⟨_,_,_,by simp only[lX,cH,hv,hvs,hB];rw[var ⟨hc.1.1.1,hc.1.1.2,hc.1.2,hc.2⟩];rfl,h,by simp⟩
     ·exact h.elim
    ·exact h.elim
   ·exact h.elim
  ·rename_i i off vs sc' hv
   obtain⟨hvs,h⟩:=h
   obtain⟨B,hB,h⟩:=cM h
   split at h
   ·rename_i cs own
    split at h
    ·rename_i hc
     simp only[aA,bm]at h
     simp only[vah,vap]at hc
     exact⟨_,_,_,by simp only[lX,cH,hv,hvs,hB];rw[var ⟨hc.1.1.1,hc.1.1.2,hc.1.2,hc.2⟩];rfl,h,by simp⟩
    ·exact h.elim
   ·exact h.elim
  ·rename_i i off j cs' own' sc' hv
   obtain⟨B,hB,h1,h2⟩:=cM h
   rw[bm]at h2
   exact⟨_,_,_,by simp only[lX,hv,Je hB h1];rfl,h2,by simp⟩
  ·exact h.elim
 case h_12=>
  simp only[bK]at h
  split at h
  ·rename_i hv
   obtain⟨p,h1,h2⟩:=oK h;exact⟨p,_,_,by simp only[lX,hv,h1,vad],h2,rfl⟩
  ·obtain⟨p,sc',h1,h2⟩:=iC h;exact⟨p,_,sc',by simp only[lX,h1,vad],h2,rfl⟩
 case h_13=>simp only[bK]at h;obtain⟨p,sc',h1,h2⟩:=iC h;exact⟨p,_,sc',by simp only[lX,h1,vad],h2,rfl⟩
 case h_14=>simp only[bK]at h;obtain⟨p,sc',h1,h2⟩:=iC h;exact⟨p,_,sc',by simp only[lX,h1,vad],h2,rfl⟩
 case h_15=>simp only[bK]at h;obtain⟨p,sc',h1,h2⟩:=iC h;exact⟨p,_,sc',by simp only[lX,h1,vad],h2,rfl⟩
 case h_16 t m k ok=>
  simp only[bK]at h
  split at h
  ·rename_i i hv
   obtain⟨B,hB,h⟩:=cM h
   split at h
   ·rename_i es
    obtain⟨p,sc',h1,h2⟩:=iC h
    exact⟨p,_,sc',by simp only[lX,hv,Jb hB h1,vad],h2,rfl⟩
   ·exact h.elim
  ·exact h.elim
 case h_17 t m k x=>
  simp only[bK]at h
  split at h
  ·rename_i i j es' sc' hv
   obtain⟨B,hB,h⟩:=cM h
   split at h
   ·rename_i es
    obtain⟨h1,h2⟩:=h
    rw[bm]at h2
    exact⟨_,_,_,by simp only[lX,hv,Gy hB h1];rfl,h2,by simp⟩
   ·exact h.elim
  ·exact h.elim
 case h_18=>simp only[bK,Lv]at h;obtain⟨p,sc',h1,h2⟩:=iC h;exact⟨p,_,sc',by simp only[lX,h1,vad],h2,rfl⟩
 case h_19=>simp only[jU]at h;obtain⟨p,sc',h1,h2⟩:=iC h;exact⟨p,_,sc',by simp only[lX,h1,vad],h2,rfl⟩
 case h_20=>simp only[jU]at h;obtain⟨p,sc',h1,h2⟩:=iC h;exact⟨p,_,sc',by simp only[lX,h1,vad],h2,rfl⟩
 case h_21 x t=>
  simp only[bK]at h
  split at h
  ·rename_i i hv
   obtain⟨B,hB,h⟩:=cM h
   split at h
   ·rename_i es
    obtain⟨p,sc',⟨rfl,h1⟩,h2⟩:=iC h
    refine⟨_,_,sc',?_,h2,rfl⟩
    simp only[lX,hv,wV]
    cases hu:P.underlying t with
    |none=>rw[hu]at h1;cases h1
    |some d=>
     rw[hu]at h1
     cases d<;>simp at h1
     simp only[hB,vad]
   ·exact h.elim
  ·obtain⟨p,sc',h1,h2⟩:=iC h;exact⟨p,_,sc',by simp only[lX,h1 H,vad],h2,rfl⟩
 case h_22=>simp only[bK,mX]at h;obtain⟨p,h1,h2⟩:=oK h;exact⟨p,_,_,by simp only[lX,h1,vad],h2,rfl⟩
 case h_23=>simp only[bK,mX]at h;obtain⟨p,h1,h2⟩:=oK h;exact⟨p,_,_,by simp only[lX,h1,vad],h2,rfl⟩
 case h_24=>exact h.elim
end
def DY(st:aq)(dst:Option Tmp)(p:PVal)(ro:List (Nat×TypeId))(H:List aw)(K:aq->Prop):Prop:=
 match dst with
 |some d=>ep st.tmps d p fun tm=>bh ((ro.map fun x=>((d,x.1),x.2))++bI d st.own) fun ow=>K ⟨tm,H,ow⟩
 |none=>K ⟨st.tmps,H,st.own⟩
theorem mZ(st:aq)(dst:Option Tmp)(p:PVal)(ro:List (Nat×TypeId))(H:List aw)(K:aq->Prop):DY st dst p ro H K=K (pM st dst p ro H):=by
 cases dst with
 |none=>rfl
 |some d=>simp only[DY,bm,aA,pM]
def Hl(P:Program)(GE:List (Nat×List PVal))(f:Operand)(args:List Operand)(tmps:List PVal)(sc:List It)(K:PVal->List (Nat×TypeId)->List It->Prop):Prop:=
 j0 GE tmps f fun vf=>match vf with
  |.func (.func g) first cap=>DO GE tmps args fun as=>match sc with
   |.c r ro::sc'=>CC P GE g (first++as++cap) r ro/\K r ro sc'
   |_=>False
  |_=>False
def oI(P:Program)(GE:List (Nat×List PVal))(o:Oper)(id:Nat)(sc:List It)(st:aq)(K:List It->aq->Prop):Prop:=
 match jF o st.tmps.length with
 |false=>False
 | true => match o.op with
  |.call {callee:=.value f,args,..}=>Hl P GE f args.toList st.tmps sc fun r ro sc'=>DY st o.dst r ro st.boxes fun st'=>K sc' st'
  |.alloc t=>match sc with
   |.x zs::sc'=>gI P t=some zs/\bh (GF P t) fun ow=>ep st.boxes id (.cells zs ow) fun H=>DY st o.dst (.bptr id 0) [] H fun st'=>K sc' st'
   |_=>False
  |.box _ x=>j0 GE st.tmps x fun vx=>match sc with
   |.x cs::sc'=>bZ vx=some cs/\ep st.boxes id (.cells cs []) fun H=>DY st o.dst (.bptr id 0) [] H fun st'=>K sc' st'
   |_=>False
  |.makeMap _ none=>ep st.boxes id (.map []) fun H=>DY st o.dst (.mapr id) [] H fun st'=>K sc st'
  |op=>HY P GE op st.tmps st.boxes sc fun p H sc'=>DY st o.dst p [] H fun st'=>K sc' st'
def GV(n d:Nat)(K:Prop):Prop:=match decide (d<n)with
 |true=>K
 |false=>False
theorem kj{n d:Nat}{K:Prop}(h:GV n d K):d<n/\K:=by
 unfold GV at h
 split at h
 ·rename_i hd;exact⟨by simpa using hd,h⟩
 ·exact h.elim
def Ce(P:Program)(st:aq)(T e:TypeId)(t:Nat)(dst:Option Tmp)(vx vt:PVal)(sc:List It)(K:List It->aq->Prop):Prop:=
 match vx with
 | .bptr i off => match cH P T (.bptr i off) vt st.boxes with
  | some H => ig H i fun B => match B with
   |.cells cs own=>match vt.one with
    |true=>bh cs fun cs'=>ep H i (.cells cs' ((off,e)::own)) fun H'=>DY {st with own:=st.own.filter fun x=>x.1 !=(t,0)} dst (.val undef) [] H' fun st'=>K sc st'
    |false=>False
   |_=>False
  |none=>False
 |_=>False
def Cf(P:Program)(GE:List (Nat×List PVal))(A:List Nat)(o:Oper)(id:Nat)(sc:List It)(st:aq)(K:List It->aq->Prop):Prop:=
 match o.op,o.dst with
 |.assign (.tmp t),some d=>GV st.tmps.length d (pD st.tmps t fun p=>ep st.tmps d p fun tm=>bh (fy d (fun x=>if x.1=t then(d,x.2)else x) st.own) fun ow=>K sc ⟨tm,st.boxes,ow⟩)
 |.move (.tmp t),some d=>match decide (d∈A)with
  |true=>GV st.tmps.length d (pD st.tmps t fun p=>ep st.tmps d p fun tm=>bh (fy d (fun x=>if x.1=t then(d,x.2)else x) st.own) fun ow=>K sc ⟨tm,st.boxes,ow⟩)
  |false=>oI P GE o id sc st K
 |.assign (.const v),some d=>match mW P o.type v with
  |some e=>GV st.tmps.length d (ep st.tmps d (.slice []) fun tm=>bh (((d,0),e)::bI d st.own) fun ow=>K sc ⟨tm,st.boxes,ow⟩)
  |none=>oI P GE o id sc st K
 |.move (.const v),some d=>match mW P o.type v with
  |some e=>GV st.tmps.length d (ep st.tmps d (.slice []) fun tm=>bh (((d,0),e)::bI d st.own) fun ow=>K sc ⟨tm,st.boxes,ow⟩)
  |none=>oI P GE o id sc st K
 |.extract (.tmp t) i,some d=>GV st.tmps.length d (pD st.tmps t fun vt=>DL (nG vt i) fun p=>ep st.tmps d p fun tm=>bh (fy d (fun x=>if x=(t,i)then(d,0)else x) st.own) fun ow=>K sc ⟨tm,st.boxes,ow⟩)
 |.buildSlice T len parts,some d=>GV st.tmps.length d (pJ GE st.tmps parts.toList fun ps=>match sc,P.underlying T with
  |.v p::sc',some (.slice e)=>dR P T len ps=some p/\ep st.tmps d p fun tm=>bh (((d,0),e)::bI d st.own) fun ow=>K sc' ⟨tm,st.boxes,ow⟩
  |_,_=>False)
 | .call { callee := .builtin .append,args:=⟨[.tmp t,y]⟩,argTypes:=⟨[T,T']⟩ },some d => GV st.tmps.length d (pD st.tmps t fun ve => j0 GE st.tmps y fun vn => match ve,vn,sc,P.underlying T with
  |.slice es,.slice ns,.v p::sc',some (.slice e)=>match decide (T=T')&&decide (((t,0),e)∈st.own)with
   |true=>iz P T es ns=some p/\ep st.tmps d p fun tm=>bh (((d,0),e)::bI d (st.own.filter fun x=>x.1 !=(t,0))) fun ow=>K sc' ⟨tm,st.boxes,ow⟩
   |false=>False
  |_,_,_,_=>False)
 | .load T x,some d => match decide (d ∈ A) with
  | true => GV st.tmps.length d (j0 GE st.tmps x fun vx => match vx,P.underlying T with
   | .bptr i off,some (.slice e) => ig st.boxes i fun B => match B with
    |.cells cs own=>match decide ((off,e)∈own)&&decide (off<cs.length)with
     |true=>pD cs off fun p=>ep st.tmps d p fun tm=>bh (own.filter fun x=>x.1 !=off) fun own'=>ep st.boxes i (.cells cs own') fun H=>bh (((d,0),e)::bI d st.own) fun ow=>K sc ⟨tm,H,ow⟩
     |false=>False
    |_=>False
   |_,_=>False)
  |false=>oI P GE o id sc st K
 |.store T x (.tmp t),_=>match st.own.find? (fun y=>y.1==(t,0))with
  |some (_,e)=>j0 GE st.tmps x fun vx=>pD st.tmps t fun vt=>Ce P st T e t o.dst vx vt sc K
  |none=>oI P GE o id sc st K
 |_,_=>oI P GE o id sc st K
def PQ:Value->Bool
 |.bool _=>true
 |_=>false
def BJ(ops:Array Oper)(j:Nat)(want:Bool)(pos:Nat)(sc:List It)(st:aq)(go:Bool->List It->aq->Prop):Prop:=
 match(ops[j]?).bind (·.dst)with
 |none=>False
 | some t => pD st.tmps t fun p => match p with
  | .bool x => match sc with
   |.g pos' b::sc'=>match pos'==pos with
    |true=>x=b/\ep st.tmps t (.bool b) fun tm=>go (b==want) sc' ⟨tm,st.boxes,st.own⟩
    |false=>go (x==want) sc st
   |_=>go (x==want) sc st
  |.val v=>match PQ v with
   |true=>False
   |false=>go false sc st
  |_=>False
def pI:List Nat->Bool
 |[]=>true
 |x::r=>!(r.contains x)&&pI r
theorem lc:∀{l:List Nat},pI l=true->l.Nodup
 |[],_=>.nil
 |x::r,h=>by
  simp only[pI,vah,vaW,vco,vbn]at h
  exact vbU.2 ⟨h.1,lc h.2⟩
def Et(t:Nat)(own:List ((Nat×Nat)×TypeId)):List (Nat×TypeId):=own.filterMap fun x=>if x.1.1==t then some (x.1.2,x.2)else none
theorem zI{t:Nat}{own:List ((Nat×Nat)×TypeId)}{y:Nat×TypeId}(h:y∈Et t own):((t,y.1),y.2)∈own:=by
 unfold Et at h
 obtain⟨⟨⟨t',k⟩,e⟩,hx,he⟩:=vbE.1 h
 split at he
 ·rename_i ht
  simp only[vaP]at ht
  cases he;subst ht;exact hx
 ·cases he
def Ii(off n:Nat)(own:List (Nat×TypeId)):List (Nat×TypeId):=own.filterMap fun x=>if decide (off<=x.1)&&decide (x.1<off+n)then some (x.1 - off,x.2)else none
theorem uF{off n:Nat}{own:List (Nat×TypeId)}{y:Nat×TypeId}(h:y∈Ii off n own):(off+y.1,y.2)∈own/\y.1<n:=by
 unfold Ii at h
 obtain⟨⟨k,e⟩,hx,he⟩:=vbE.1 h
 split at he
 ·rename_i ht
  simp only[vah,vap]at ht
  cases he
  have:off+(k - off)=k:=by omega
  exact⟨by rw[this];exact hx,by simp only;omega⟩
 ·cases he
def ER(ρ:List Nat):List PVal->List PVal->Prop
 |[],[]=>True
 |p::ps,q::qs=>zg ρ p q/\ER ρ ps qs
 |_,_=>False
theorem ER.len{ρ:List Nat}:∀{l r:List PVal},ER ρ l r->l.length=r.length
 |[],[],_=>rfl
 |[],_::_,h=>h.elim
 |_::_,[],h=>h.elim
 |_::_,_::_,h=>by simp[ER.len h.2]
theorem ER.get{ρ:List Nat}:∀{l r:List PVal},ER ρ l r->∀(i:Nat) p q,l[i]? =some p->r[i]? =some q->zg ρ p q
 |[],[],_,i,p,q,hp,_=>by simp at hp
 |[],_::_,h,_,_,_,_,_=>h.elim
 |_::_,[],h,_,_,_,_,_=>h.elim
 |_::_,_::_,h,0,p,q,hp,hq=>by simp at hp hq;subst hp;subst hq;exact h.1
 |_::_,_::_,h,i+1,p,q,hp,hq=>ER.get h.2 i p q (by simpa using hp) (by simpa using hq)
def JD(ρ:List Nat):aw->aw->Prop
 |.cells cs own,.cells cs' own'=>own=own'/\ER ρ cs cs'
 |.map es,.map es'=>es=es'/\∀x∈es,x.1.cl 0/\x.2.cl 0
 |_,_=>False
theorem JD.to{ρ:List Nat}{B B':aw}(h:JD ρ B B'):g5 ρ B B':=by
 cases B<;>cases B'<;>simp only[JD]at h
 ·exact⟨h.1,h.2.len,h.2.get⟩
 ·obtain⟨rfl,h⟩:=h
  refine⟨rfl,fun i k u k' u' h1 h2=>?_⟩
  rw[h1]at h2;cases h2
  obtain⟨q1,q2⟩:=h _ (vaw h1)
  exact⟨.refl _ q1,.refl _ q2⟩
def rq(ρ:List Nat)(H:List aw):List Nat->List aw->List aw->Prop
 |[],[],[]=>True
 |j::js,B::Bs,Bc::Hc=>(ig H j fun B0=>DK B0 B=B/\JD ρ B Bc)/\rq ρ H js Bs Hc
 |_,_,_=>False
def Cm(ρ:List Nat):List aw->List aw->Prop
 |[],[]=>True
 |B::Bs,Bc::Hc=>JD ρ B Bc/\Cm ρ Bs Hc
 |_,_=>False
def uf(H:List aw):List Nat->List aw->List aw
 |j::js,B::Bs=>uf (H.set j B) js Bs
 |_,_=>H
def Fy(H:List aw):List Nat->List aw->(List aw->Prop)->Prop
 |j::js,B::Bs,K=>ep H j B fun H'=>Fy H' js Bs K
 |_,_,K=>K H
theorem uK:∀(H:List aw) (js:List Nat) (Bs:List aw) (K:List aw->Prop),Fy H js Bs K=K (uf H js Bs)
 |H,[],_,K=>by cases ‹List aw›<;>rfl
 |H,_::_,[],K=>rfl
 |H,j::js,B::Bs,K=>by simp only[Fy,bm,uK,uf]
theorem z6:∀(H:List aw) (js:List Nat) (Bs:List aw),(uf H js Bs).length=H.length
 |H,[],_=>by cases ‹List aw›<;>rfl
 |H,_::_,[]=>rfl
 |H,j::js,B::Bs=>by simp only[uf,z6,vck]
theorem qA:∀(H:List aw) (js:List Nat) (Bs:List aw) {j:Nat},j∉js->(uf H js Bs)[j]? =H[j]?
 |H,[],Bs,_,_=>by cases Bs<;>rfl
 |H,_::_,[],_,_=>rfl
 |H,k::js,B::Bs,j,h=>by
  simp only[vaD,not_or]at h
  simp only[uf]
  rw[qA _ js Bs h.2,vaj (Ne.symm h.1)]
theorem yX:∀(H:List aw) (js:List Nat) (Bs:List aw),js.Nodup->js.length=Bs.length->(∀j∈js,j<H.length)->∀(i j:Nat) B,js[i]? =some j->Bs[i]? =some B->(uf H js Bs)[j]? =some B
 |H,[],Bs,_,_,_,i,j,B,hj,_=>by simp at hj
 |H,_::_,[],_,hl,_,_,_,_,_,_=>by simp at hl
 | H,k :: js,B0 :: Bs,hn,hl,hlt,i,j,B,hj,hB => by
  obtain⟨hn1,hn2⟩:=vbU.1 hn
  simp only[uf]
  cases i with
  |zero=>
   simp at hj hB;subst hj;subst hB
   rw[qA _ js Bs hn1,vaf (hlt _ (by simp))]
  |succ i=>exact yX _ js Bs hn2 (by simpa using hl) (fun x hx=>by rw[vck];exact hlt x (by simp[hx])) i j B (by simpa using hj) (by simpa using hB)
theorem Cl{ρ:List Nat}{H:List aw}:∀{js:List Nat} {Bs Hc:List aw},rq ρ H js Bs Hc->js.length=Bs.length/\Hc.length=js.length/\(∀j∈js,j<H.length)/\
  ∀(i j:Nat) B Bc,js[i]? =some j->Bs[i]? =some B->Hc[i]? =some Bc->(∃B0,H[j]? =some B0/\DK B0 B=B)/\g5 ρ B Bc
 |[],[],[],_=>⟨rfl,rfl,by simp,by simp⟩
 |[],_::_,_,h=>by simp[rq]at h
 |[],[],_::_,h=>by simp[rq]at h
 |_::_,[],_,h=>by simp[rq]at h
 |_::_,_::_,[],h=>by simp[rq]at h
 | k :: js,B :: Bs,Bc :: Hc,h => by
  obtain⟨h1,h2⟩:=h
  obtain⟨B0,hB0,h3,h4⟩:=cM h1
  obtain⟨k1,k2,k3,k4⟩:=Cl h2
  refine⟨by simp[k1],by simp[k2],fun j hj=>?_,fun i j b bc hj hb hbc=>?_⟩
  ·rcases vaD.1 hj with rfl|hj
   ·exact aj hB0
   ·exact k3 j hj
  ·cases i with
   |zero=>simp at hj hb hbc;subst hj;subst hb;subst hbc;exact⟨⟨B0,hB0,h3⟩,h4.to⟩
   |succ i=>exact k4 i j b bc (by simpa using hj) (by simpa using hb) (by simpa using hbc)
theorem Ar{ρ:List Nat}:∀{Bs Hc:List aw},Cm ρ Bs Hc->Bs.length=Hc.length/\∀(i:Nat) B Bc,Bs[i]? =some B->Hc[i]? =some Bc->g5 ρ B Bc
 |[],[],_=>⟨rfl,by simp⟩
 |[],_::_,h=>h.elim
 |_::_,[],h=>h.elim
 |B::Bs,Bc::Hc,h=>by
  obtain⟨k1,k2⟩:=Ar h.2
  refine⟨by simp[k1],fun i b bc hb hbc=>?_⟩
  cases i with
  |zero=>simp at hb hbc;subst hb;subst hbc;exact h.1.to
  |succ i=>exact k2 i b bc (by simpa using hb) (by simpa using hbc)
def L4(t:Nat):Option Operand->Bool
 |some (.tmp u)=>u==t
 |_=>false
def J7:Option Operand->Bool
 |some (.const v)=>ii v
 |_=>false
def I1(n:Nat)(args:List Operand)(own:List ((Nat×Nat)×TypeId))(oa:List OA):Bool:=
 oa.all (fun x=>decide (n<=x.i)&&((J7 args[x.i - n]? &&x.k==0)||(decide (((x.t,x.k),x.e)∈own)&&L4 x.t args[x.i - n]?)))&&oa.all fun x=>oa.all fun y=>!(x.t==y.t&&x.k==y.k)||x.i==y.i
def If:aw->Bool
 |.dead=>false
 |_=>true
def oH(P:Program)(GE:List (Nat×List PVal))(f:Operand)(args:List Operand)(c:GC)(st:aq)(K:List aw->Prop):Prop:=
 j0 GE st.tmps f fun vf=>match vf with
 | .func (.func g) first cap => DO GE st.tmps args fun as => match pI c.ρ && I1 first.length args st.own c.oa && c.Bs.all If && decide (c.Bs'.length = c.ρ.length) with
  | true => C P GE g c.argsC (c.oa.map fun x => ((x.i,x.k),x.e)) c.Hc c.rc c.ro c.Hc'∧ER c.ρ (first ++ as ++ cap) c.argsC∧rq c.ρ st.boxes c.ρ c.Bs c.Hc∧Cm c.ρ c.Bs' c.Hc'∧zg c.ρ c.r c.rc ∧
    Fy st.boxes c.ρ c.Bs' K
  |false=>False
 |_=>False
theorem vw{P:Program}{GE:List (Nat×List PVal)}{f:Operand}{args:List Operand}{c:GC}{st:aq}{K:List aw->Prop}(h:oH P GE f args c st K):∃H',FJ P GE f args st c.r c.ro H' c.oa/\K H':=by
 unfold oH at h
 rw[bK]at h
 split at h
 ·rename_i g first cap hf
  rw[mX]at h
  split at h
  ·rename_i hb
   simp only[vah,vap]at hb
   obtain⟨⟨⟨b1,b2⟩,b3⟩,b4⟩:=hb
   obtain⟨h1,h2,h3,h4,h5,h6⟩:=h
   rw[uK]at h6
   have hn:=lc b1
   obtain⟨i1,i2,i3,i4⟩:=Cl h3
   obtain⟨o1,o2⟩:=Ar h4
   unfold I1 at b2
   rw[vah]at b2
   obtain⟨c1,c2⟩:=b2
   have hgetB:∀{i j:Nat},c.ρ[i]? =some j->∃B,c.Bs[i]? =some B:=fun{i j} hj=>⟨_,vaa (by rw[<-i1];exact aj hj)⟩
   have hgetH:∀{i j:Nat},c.ρ[i]? =some j->∃B,c.Hc[i]? =some B:=fun{i j} hj=>⟨_,vaa (by rw[i2];exact aj hj)⟩
   refine⟨_,⟨g,first,cap,c.argsC,c.ρ,uf st.boxes c.ρ c.Bs,c.Hc,c.Hc',c.rc,hf,hn,h1,⟨z6 _ _ _,fun i B hB=>?_⟩,⟨i2,fun i j hj=>?_⟩,⟨by rw[<-o1];exact b4,fun i j hj=>?_⟩,z6 _ _ _,fun j hj=>by rw[qA _ _ _ hj,qA _ _ _ hj],h5,h2.len,h2.get,fun x hx=>?_,fun x hx y hy e1 e2=>?_⟩,h6⟩
   ·by_cases hi:i∈c.ρ
    ·obtain⟨k,hk⟩:=va4.1 hi
     obtain⟨B1,hB1⟩:=hgetB hk
     obtain⟨Bc,hBc⟩:=hgetH hk
     obtain⟨⟨B0,hB0,hfg⟩,_⟩:=i4 k i B1 Bc hk hB1 hBc
     rw[yX _ _ _ hn i1 i3 k i B1 hk hB1]at hB
     cases hB
     refine⟨B0,hB0,?_⟩
     rcases HZ B0 B with hx|hx|hx
     ·rw[hfg]at hx
      have:=vau.1 b3 B (vaw hB1)
      rw[hx]at this;cases this
     ·rw[hfg]at hx;exact .inl hx
     ·rw[hfg]at hx;exact .inr hx
    ·rw[qA _ _ _ hi]at hB
     exact⟨B,hB,.inl rfl⟩
   ·obtain⟨B1,hB1⟩:=hgetB hj
    obtain⟨Bc,hBc⟩:=hgetH hj
    exact⟨B1,Bc,yX _ _ _ hn i1 i3 i j B1 hj hB1,hBc,(i4 i j B1 Bc hj hB1 hBc).2⟩
   ·have hi:=aj hj
    have e1:=vaa (l:=c.Bs') (i:=i) (by omega)
    have e2:=vaa (l:=c.Hc') (i:=i) (by omega)
    exact⟨_,_,yX _ _ _ hn b4.symm i3 i j _ hj e1,e2,o2 i _ _ e1 e2⟩
   ·have:=vau.1 c1 x hx
    simp only[vah,vaU,vap,vaP]at this
    refine⟨x.i - first.length,by omega,?_⟩
    rcases this.2 with⟨h2,h3⟩|⟨h2,h3⟩
    ·left
     unfold J7 at h2
     split at h2
     ·rename_i v hv
      unfold ii at h2
      split at h2
      ·exact⟨hv,h3⟩
      ·cases h2
     ·cases h2
    ·right
     unfold L4 at h3
     split at h3
     ·rename_i u hu
      simp only[vaP]at h3
      subst h3;exact⟨h2,hu⟩
     ·cases h3
   ·have:=vau.1 (vau.1 c2 x hx) y hy
    simp only[vaU,vaW,Bool.and_eq_false_iff,beq_eq_false_iff_ne,ne_eq,vaP]at this
    rcases this with(hx|hx)|hx
    ·exact absurd e1 hx
    ·exact absurd e2 hx
    ·exact hx
  ·exact h.elim
 ·exact h.elim
def BL (P:Program) (GE:List (Nat×List PVal)) (A:List Nat) (o:Oper) (id:Nat) (sc:List It) (st:aq) (K:List It→aq→Prop):Prop :=
 match o.op,sc with
 |.build T parts,.b p L::sc'=>match o.dst with
  |some d=>GV st.tmps.length d (pJ GE st.tmps parts.toList fun ps=>dc P T ps=some p/\rB P T ps L/\ep st.tmps d p fun tm=>bh ((L.map fun x=>((d,x.1),x.2))++bI d st.own) fun ow=>K sc' ⟨tm,st.boxes,ow⟩)
  |none=>False
 | .store T x (.tmp t),.y vs :: sc' => pD st.tmps t fun vt => match vt with
  | .agg l => match o.dst with
   | none => j0 GE st.tmps x fun vx => match vx with
    | .bptr i off => bh (Et t st.own) fun L => l = vs∧ig st.boxes i fun B => match B with
     | .cells cs own => match pI (L.map (·.1)) && decide (vs.length = P.cellsOf T) && (P.info? T).isSome && decide (off + vs.length ≤ cs.length) && vs.all PVal.one with
      | true => bh (cs.take off ++ vs ++ cs.drop (off + vs.length)) fun cs' => bh ((L.map fun y => (off + y.1,y.2)).reverse ++ own.filter fun y => y.1 < off || off + vs.length ≤ y.1) fun own' =>
        ep st.boxes i (.cells cs' own') fun H=>bh (st.own.filter fun x=>!L.any fun y=>x.1==(t,y.1)) fun ow=>K sc' ⟨st.tmps,H,ow⟩
      |false=>False
     |_=>False
    |_=>False
   |some _=>False
  |_=>Cf P GE A o id sc st K
 | .load T x,.z l :: sc' => match P.underlying T with
  | some (.struct _) => match o.dst with
   | some d => GV st.tmps.length d (j0 GE st.tmps x fun vx => match vx with
    | .bptr i off => ig st.boxes i fun B => match B with
     | .cells cs own => ch P T (cs.drop off) = some (.agg l)∧bh (Ii off (P.cellsOf T) own) fun L => match pI (L.map (·.1)) with
      | true => ep st.tmps d (.agg l) fun tm => bh (own.filter fun x => !L.any fun y => x.1 == off + y.1) fun own' => ep st.boxes i (.cells cs own') fun H =>
        bh ((L.map fun y=>((d,y.1),y.2)).reverse++bI d st.own) fun ow=>K sc' ⟨tm,H,ow⟩
      |false=>False
     |_=>False
    |_=>False)
   |none=>False
  |_=>Cf P GE A o id sc st K
 |.box _ x,.e vs::sc'=>match o.dst with
  |some d=>GV st.tmps.length d (j0 GE st.tmps x fun vx=>bZ vx=some vs/\ep st.tmps d (.eptr vs) fun tm=>bh (bI d st.own) fun ow=>K sc' ⟨tm,st.boxes,ow⟩)
  |none=>False
 |.call {callee:=.value f,args,..},.cg c::sc'=>match o.dst with
  |some d=>GV st.tmps.length d (oH P GE f args.toList c st fun H=>ep st.tmps d c.r fun tm=>bh ((c.ro.map fun x=>((d,x.1),x.2))++bI d (st.own.filter fun z=>!c.oa.any fun x=>z.1==(x.t,x.k))) fun ow=>K sc' ⟨tm,H,ow⟩)
  |none=>False
 | .call { callee := .builtin .append,args:=⟨[.tmp t,y]⟩,argTypes:=⟨[T,T']⟩ },.ar i e n cs :: sc' => match o.dst with
  | some d => GV st.tmps.length d (pD st.tmps t fun ve => j0 GE st.tmps y fun vn => match ve,vn with
   | .slice [],.slice ns => match decide (T = T') && decide (((t,0),e) ∈ st.own) && decide (i = st.boxes.length) with
    | true => P.underlying T = some (.slice e)∧(∃ p,iz P T [] ns = some p)∧(n = ns.length∧cs = ns.flatten) ∧
      ep st.tmps d (.bsl i 0 n) fun tm=>bh (bI d (st.own.filter fun x=>x.1 !=(t,0))) fun ow=>EY st.boxes [.cells cs []] fun H=>K sc' ⟨tm,H,ow⟩
    |false=>False
   |_,_=>False)
  |none=>False
 | .call { callee := .value f,args:=⟨[x]⟩,.. },.ar i e n cs :: sc' => match o.dst with
  | some d => GV st.tmps.length d (j0 GE st.tmps f fun vf => j0 GE st.tmps x fun vn => match vf,vn with
   | .func (.func g) [] [],.slice ns => match decide (i = st.boxes.length) with
    | true => kT P g e∧(0 < P.cellsOf e∧(∀ x ∈ ns,x.length = P.cellsOf e∧∀ q ∈ x,q.one = true)∧ns.length ≤ di)∧(n = ns.length∧cs = ns.flatten) ∧
      ep st.tmps d (.bsl i 0 n) fun tm=>bh (bI d st.own) fun ow=>EY st.boxes [.cells cs []] fun H=>K sc' ⟨tm,H,ow⟩
    |false=>False
   |_,_=>False)
  |none=>False
 | .store T x (.const v),.ar _ e _ _ :: sc' => match o.dst,ii v with
  | none,true => j0 GE st.tmps x fun vx => j0 GE st.tmps (.const v) fun vy => match vx,bZ vy with
   | .bptr i off,some vs => ig st.boxes i fun B => match B with
    |.cells cs own=>match decide (vs.length=P.cellsOf T)&&(P.info? T).isSome&&decide (off+vs.length<=cs.length)&&vs.all PVal.one with
     |true=>bh (cs.take off++vs++cs.drop (off+vs.length)) fun cs'=>bh ((off,e)::own.filter fun y=>y.1<off||off+vs.length<=y.1) fun own'=>ep st.boxes i (.cells cs' own') fun H=>K sc' ⟨st.tmps,H,st.own⟩
     |false=>False
    |_=>False
   |_,_=>False
  |_,_=>False
 |_,_=>Cf P GE A o id sc st K
def Cd(P:Program)(GE:List (Nat×List PVal))(A:List Nat)(ops:Array Oper)(K:List It->aq->Prop):List Oper->Nat->Nat->List It->aq->Prop
 |[],_,_,sc,st=>K sc st
 | o :: rest,pos,id,sc,st =>
  let step (sc:List It) (st:aq):Prop:=BL P GE A o id sc st fun sc' st'=>Cd P GE A ops K rest (pos+1) (id+if au o.op then 1 else 0) sc' st'
  match o.guard with
  |none=>step sc st
  |some (j,want)=>BJ ops j want pos sc st fun b sc' st'=>match b with
   |true=>step sc' st'
   |false=>DY st' o.dst (.val undef) [] st'.boxes fun st''=>Cd P GE A ops K rest (pos+1) (id+if au o.op then 1 else 0) sc' st''
section
variable{P:Program}{GE:List (Nat×List PVal)}{A:List Nat}{ops:Array Oper}
theorem E5{f:Operand}{args:List Operand}{tmps:List PVal}{H:List aw}{sc:List It}{K:PVal->List (Nat×TypeId)->List It->Prop}(h:Hl P GE f args tmps sc K):wS P GE (opv GE tmps f) (args.map (opv GE tmps)) H fun r ro H'=>H'=H/\∃sc',K r ro sc':=by
 unfold Hl at h
 rw[bK]at h
 split at h
 ·rename_i g first cap hf
  rw[mX]at h
  split at h
  ·rename_i r ro sc'
   rw[hf]
   exact .inl ⟨h.1.1,r,ro,h.1.2,rfl,sc',h.2⟩
  ·exact h.elim
 ·exact h.elim
theorem uG{op:Op}{id:Nat}{v:Operand->PVal}{H H':List aw}{p:PVal}{K:PVal->List (Nat×TypeId)->List aw->Prop}(hn:∀f args tys,op≠.call {callee:=.value f,args,argTypes:=tys})
  (h:lX P op id v H=some (p,H')) (hk:K p [] H'):Eu P GE op id v H K:=by
 unfold Eu
 split
 ·rename_i f args tys;exact absurd rfl (hn _ _ _)
 ·rw[h];exact hk
theorem gX{o:Oper}{id:Nat}{sc:List It}{st:aq}{K:List It->aq->Prop}(h:oI P GE o id sc st K):jF o st.tmps.length=true/\Eu P GE o.op id (opv GE st.tmps) st.boxes fun p ro H=>(fun st'=>∃sc',K sc' st') (pM st o.dst p ro H):=by
 unfold oI at h
 split at h
 ·exact h.elim
 ·rename_i hc
  refine⟨hc,?_⟩
  split at h
  ·rename_i f args tys ho
   have:=E5 (H:=st.boxes) h
   unfold Eu
   simp only[ho]
   unfold wS at this ⊢
   split at this
   ·rcases this with⟨k1,r,ro,k2,_,sc',k3⟩|⟨ρ,argsC,Hc,rc,ro,Hc',H',r,k1,k2,k3,k4,k5,k6,k7,k8,k9,rfl,sc',k10⟩
    ·rw[mZ]at k3;exact .inl ⟨k1,r,ro,k2,sc',k3⟩
    ·rw[mZ]at k10;exact .inr ⟨ρ,argsC,Hc,rc,ro,Hc',_,r,k1,k2,k3,k4,k5,k6,k7,k8,k9,sc',k10⟩
   ·exact this.elim
  ·rename_i t ho
   split at h
   ·rename_i zs sc'
    obtain⟨h1,h2⟩:=h
    simp only[aA,bm,mZ]at h2
    rw[ho]
    exact uG (by simp) (by simp only[lX,h1,vad]) ⟨sc',h2⟩
   ·exact h.elim
  ·rename_i t x ho
   rw[bK]at h
   split at h
   ·rename_i cs sc'
    obtain⟨h1,h2⟩:=h
    simp only[bm,mZ]at h2
    rw[ho]
    exact uG (by simp) (by simp only[lX,h1,vad]) ⟨sc',h2⟩
   ·exact h.elim
  ·rename_i t ho
   simp only[bm,mZ]at h
   rw[ho]
   exact uG (by simp) (by simp only[lX]) ⟨_,h⟩
  ·rename_i n1 n2 n3 n4
   obtain⟨p,H',sc',k1,k2,_⟩:=Ap (id:=id) h
   rw[mZ]at k2
   exact uG (fun f args tys e=>n1 f args tys e) k1 ⟨sc',k2⟩
theorem rm{o:Oper}{id:Nat}{sc:List It}{st:aq}{K:List It->aq->Prop}(h:Cf P GE A o id sc st K):AB P GE A o id (fun st'=>∃sc',K sc' st') st:=by
 unfold Cf at h
 unfold AB
 split at h
 case h_1 t d ho hd=>
  obtain⟨h1,h2⟩:=kj h
  simp only[fe,bm,aA]at h2
  simp only[ho,hd]
  exact⟨h1,_,h2⟩
 case h_2 t d ho hd=>
  simp only[ho,hd]
  split at h
  ·rename_i hA
   obtain⟨h1,h2⟩:=kj h
   simp only[fe,bm,aA]at h2
   rw[var (by simpa using hA)]
   exact⟨h1,_,h2⟩
  ·rename_i hA
   rw[vav (by simpa using hA)]
   have:=gX h
   rw[ho,hd]at this
   exact this
 case h_3 v d ho hd=>
  simp only[ho,hd]
  split at h
  ·rename_i e he
   obtain⟨h1,h2⟩:=kj h
   simp only[bm,aA]at h2
   simp only[he]
   exact⟨h1,_,h2⟩
  ·rename_i he
   simp only[he]
   have:=gX h
   rw[ho,hd]at this
   exact this
 case h_4 v d ho hd=>
  simp only[ho,hd]
  split at h
  ·rename_i e he
   obtain⟨h1,h2⟩:=kj h
   simp only[bm,aA]at h2
   simp only[he]
   exact⟨h1,_,h2⟩
  ·rename_i he
   simp only[he]
   have:=gX h
   rw[ho,hd]at this
   exact this
 case h_5 t i d ho hd=>
  obtain⟨h1,h2⟩:=kj h
  rw[fe]at h2
  obtain⟨p,h3,h4⟩:=oK h2
  simp only[bm,aA]at h4
  simp only[ho,hd,h3]
  exact⟨h1,_,h4⟩
 case h_6 T len parts d ho hd=>
  obtain⟨h1,h2⟩:=kj h
  rw[jU]at h2
  split at h2
  ·rename_i p sc' e hu
   obtain⟨h3,h4⟩:=h2
   simp only[bm,aA]at h4
   simp only[ho,hd,h3,hu]
   exact⟨h1,_,h4⟩
  ·exact h2.elim
 case h_7 t y T T' d ho hd=>
  obtain⟨h1,h2⟩:=kj h
  rw[fe,bK]at h2
  split at h2
  ·rename_i es ns p sc' e he hn hu
   split at h2
   ·rename_i hc
    simp only[vah,vap]at hc
    obtain⟨h3,h4⟩:=h2
    simp only[bm,aA]at h4
    simp only[ho,hd,hu,he,hn,h3]
    exact⟨hc.1,h1,hc.2,_,h4⟩
   ·exact h2.elim
  ·exact h2.elim
 case h_8 T x d ho hd=>
  simp only[ho,hd]
  split at h
  ·rename_i hA
   obtain⟨h1,h2⟩:=kj h
   rw[bK]at h2
   rw[var (by simpa using hA)]
   split at h2
   ·rename_i i off e hx hu
    obtain⟨B,hB,h2⟩:=cM h2
    split at h2
    ·rename_i cs own
     split at h2
     ·rename_i hc
      simp only[vah,vap]at hc
      simp only[fe,bm,aA]at h2
      have hget:cs[off]? =some (cs.getD off .undef):=by
       rw[vag,vaa hc.2];rfl
      simp only[hx,hu,hB,hget]
      exact⟨h1,hc.1,_,h2⟩
     ·exact h2.elim
    ·exact h2.elim
   ·exact h2.elim
  ·rename_i hA
   rw[vav (by simpa using hA)]
   have:=gX h
   rw[ho,hd]at this
   exact this
 case h_9 T x t ho=>
  simp only[ho]
  split at h
  ·rename_i y e hf
   rw[bK,fe]at h
   simp only[hf]
   unfold Ce at h
   split at h
   ·rename_i i off hx
    split at h
    ·rename_i H hst
     obtain⟨B,hB,h⟩:=cM h
     split at h
     ·rename_i cs own
      split at h
      ·rename_i hone
       simp only[bm,aA,mZ]at h
       simp only[hx,hst,hB,hone]
       exact⟨_,h⟩
      ·exact h.elim
     ·exact h.elim
    ·exact h.elim
   ·exact h.elim
  ·rename_i hf
   simp only[hf]
   have:=gX h
   rw[ho]at this
   exact this
 case h_10=>
  have:=gX h
  split
  all_goals first
   |exact this
   |(exfalso;simp_all;done)
   |(exfalso;simp_all;rename_i hx h1 h2;exact hx _ _ _ _ rfl rfl rfl rfl)
   |(exfalso;simp_all;rename_i hx h1 h2;exact hx _ _ _ _ _ rfl rfl rfl rfl rfl)
   |(exfalso;simp_all;rename_i hx h1 h2;exact hx _ _ _ rfl rfl rfl)
theorem vA{j:Nat}{want:Bool}{pos:Nat}{sc:List It}{st:aq}{go:Bool->List It->aq->Prop}(h:BJ ops j want pos sc st go):∃x,nH ops st.tmps j=some x/\((x=some want/\∃sc',go true sc' st)\/(x≠some want/\∃sc',go false sc' st)):=by
 unfold BJ at h
 split at h
 ·exact h.elim
 ·rename_i t ht
  rw[fe]at h
  have hget:∀{p},st.tmps.getD t .undef=p->p≠.undef->st.tmps[t]? =some p:=by
   intro p hp hne
   rw[vag]at hp
   cases hx:st.tmps[t]? with
   |none=>rw[hx]at hp;exact absurd hp.symm hne
   |some q=>rw[hx]at hp;exact vbe some hp
  have hfin:∀(x:Bool) sc',go (x==want) sc' st->(some x=some want/\∃sc',go true sc' st)\/(some x≠some want/\∃sc',go false sc' st):=by
   intro x sc' hg
   cases x<;>cases want<;>simp at hg ⊢<;>exact⟨sc',hg⟩
  split at h
  ·rename_i x hp
   have hx:=hget hp (by simp)
   have hg:nH ops st.tmps j=some (some x):=by unfold nH;simp only[ht,hx]
   refine⟨_,hg,?_⟩
   split at h
   ·rename_i pos' b sc'
    split at h
    ·obtain⟨rfl,h⟩:=h
     rw[bm,yY hx]at h
     exact hfin x sc' h
    ·exact hfin x _ h
   ·exact hfin x _ h
  ·rename_i v hp
   have hx:=hget hp (by simp)
   split at h
   ·exact h.elim
   ·rename_i hb
    refine⟨none,?_,.inr ⟨by simp,_,h⟩⟩
    unfold nH
    simp only[ht,hx]
    cases v<;>simp[PQ]at hb<;>rfl
  ·exact h.elim
theorem DI{o:Oper}{id:Nat}{sc:List It}{st:aq}{K:List It->aq->Prop}(h:BL P GE A o id sc st K):tU P GE A o id (fun st'=>∃sc',K sc' st') st:=by
 unfold BL at h
 split at h
 ·rename_i T parts p L sc' ho
  split at h
  ·rename_i d hd
   obtain⟨h1,h2⟩:=kj h
   rw[jU]at h2
   obtain⟨h3,h4,h5⟩:=h2
   simp only[bm,aA]at h5
   refine .inr (.inl ?_)
   unfold CR
   simp only[ho,hd]
   exact⟨p,L,h3,h4,h1,sc',h5⟩
  ·exact h.elim
 ·rename_i T x t vs sc' ho
  rw[fe]at h
  split at h
  ·rename_i l hl
   split at h
   ·rename_i hd
    rw[bK]at h
    split at h
    ·rename_i i off hx
     rw[aA]at h
     obtain⟨rfl,h⟩:=h
     obtain⟨B,hB,h⟩:=cM h
     split at h
     ·rename_i cs own
      split at h
      ·rename_i hc
       simp only[bm,aA]at h
       simp only[vah,vap]at hc
       obtain⟨⟨⟨⟨c1,c2⟩,c3⟩,c4⟩,c5⟩:=hc
       refine .inr (.inl ?_)
       unfold CR
       simp only[ho,hd]
       have hi:=aj hB
       refine⟨i,off,st.boxes.set i (.cells (cs.take off++l++cs.drop (off+l.length)) (own.filter fun y=>y.1<off||off+l.length<=y.1)),_,_,Et t st.own,l,hx,hl,?_,vaf hi,fun y hy=>zI hy,lc c1,sc',?_⟩
       ·simp only[cH,bZ,hB]
        rw[var ⟨c2,c3,c4,c5⟩]
       ·rw[vbN];exact h
      ·exact h.elim
     ·exact h.elim
    ·exact h.elim
   ·exact h.elim
  ·exact .inl (rm h)
 ·rename_i T x l sc' ho
  split at h
  ·rename_i fs hT
   split at h
   ·rename_i d hd
    obtain⟨h1,h⟩:=kj h
    rw[bK]at h
    split at h
    ·rename_i i off hx
     obtain⟨B,hB,h⟩:=cM h
     split at h
     ·rename_i cs own
      obtain⟨h2,h⟩:=h
      rw[aA]at h
      split at h
      ·rename_i hn
       simp only[bm,aA]at h
       refine .inr (.inl ?_)
       unfold CR
       simp only[ho,hd]
       have hlen:l.length=P.cellsOf T:=by
        have hp:=h2
        unfold ch at hp
        rw[hT]at hp
        simp only at hp
        split at hp
        ·rename_i hh;cases hp;rw[vbf];omega
        ·cases hp
       exact⟨i,off,cs,own,_,l,⟨fs,hT⟩,hx,hB,h2,fun y hy=>(uF hy).1,lc hn,fun y hy=>by rw[hlen];exact(uF hy).2,h1,sc',h⟩
      ·exact h.elim
     ·exact h.elim
    ·exact h.elim
   ·exact h.elim
  ·exact .inl (rm h)
 ·rename_i T x vs sc' ho
  split at h
  ·rename_i d hd
   obtain⟨h1,h⟩:=kj h
   rw[bK]at h
   obtain⟨h2,h⟩:=h
   simp only[bm,aA]at h
   refine .inr (.inl ?_)
   unfold CR
   simp only[ho,hd]
   exact⟨vs,h2,h1,sc',h⟩
  ·exact h.elim
 ·rename_i f args tys c sc' ho
  split at h
  ·rename_i d hd
   obtain⟨h1,h⟩:=kj h
   obtain⟨H',h2,h3⟩:=vw h
   simp only[bm,aA]at h3
   refine .inr (.inl ?_)
   unfold CR
   simp only[ho,hd]
   exact⟨c.r,c.ro,H',c.oa,h2,h1,sc',h3⟩
  ·exact h.elim
 ·rename_i t y T T' i e n cs sc' ho
  split at h
  ·rename_i d hd
   have hh:=kj h
   clear h
   obtain⟨h1,h⟩:=hh
   rw[fe,bK]at h
   split at h
   ·rename_i ns he hn
    split at h
    ·rename_i hc
     simp only[vah,vap]at hc
     obtain⟨⟨rfl,c2⟩,rfl⟩:=hc
     obtain⟨h2,⟨p,h3⟩,⟨rfl,rfl⟩,h4⟩:=h
     simp only[bm,aA,EY,aA]at h4
     refine .inr (.inr ?_)
     unfold HB
     simp only[ho,hd]
     exact⟨e,ns,p,trivial,h2,he,hn,h3,c2,h1,sc',h4⟩
    ·exact h.elim
   ·exact h.elim
  ·exact h.elim
 ·rename_i f x tys i e n cs sc' ho
  split at h
  ·rename_i d hd
   have hh:=kj h
   clear h
   obtain⟨h1,h⟩:=hh
   rw[bK,bK]at h
   split at h
   ·rename_i g ns hg hn
    split at h
    ·rename_i hc
     simp only[vap]at hc
     subst hc
     obtain⟨h2,⟨h3,h4,h5⟩,⟨rfl,rfl⟩,h6⟩:=h
     simp only[bm,aA,EY,aA]at h6
     refine .inr (.inr ?_)
     unfold HB
     simp only[ho,hd]
     exact⟨g,e,ns,hg,h2,hn,h3,h4,h5,h1,sc',h6⟩
    ·exact h.elim
   ·exact h.elim
  ·exact h.elim
 ·rename_i T x v i0 e n0 cs0 sc' ho
  split at h
  ·rename_i hd hv
   have hv':v=.slice none 0 0:=by
    unfold ii at hv
    split at hv
    ·rfl
    ·cases hv
   subst hv'
   rw[bK,bK]at h
   split at h
   ·rename_i i off vs hx hpc
    obtain⟨B,hB,h⟩:=cM h
    split at h
    ·rename_i cs own
     split at h
     ·rename_i hc
      simp only[bm,aA]at h
      simp only[vah,vap]at hc
      obtain⟨⟨⟨c2,c3⟩,c4⟩,c5⟩:=hc
      refine .inr (.inr ?_)
      unfold HB
      simp only[ho,hd]
      have hi:=aj hB
      refine⟨i,off,e,st.boxes.set i (.cells (cs.take off++vs++cs.drop (off+vs.length)) (own.filter fun y=>y.1<off||off+vs.length<=y.1)),_,_,trivial,hx,?_,vaf hi,sc',?_⟩
      ·simp only[cH,hpc,hB]
       rw[var ⟨c2,c3,c4,c5⟩]
      ·rw[vbN];exact h
     ·exact h.elim
    ·exact h.elim
   ·exact h.elim
  ·exact h.elim
 ·exact .inl (rm h)
theorem tV{o:Oper}{id:Nat}{K K':aq->Prop}{st:aq}(hk:∀st,K st->K' st)(h:tU P GE A o id K st):tU P GE A o id K' st:=by
 rcases h with h|h|h
 ·exact .inl (HE hk h)
 rotate_left
 ·refine .inr (.inr ?_)
  unfold HB at *
  split at h
  ·obtain⟨e,ns,p,h1,h2,h3,h4,h5,h6,h7,h8⟩:=h;exact⟨e,ns,p,h1,h2,h3,h4,h5,h6,h7,hk _ h8⟩
  ·obtain⟨g,e,ns,h1,h2,h3,h4,h5,h6,h7,h8⟩:=h;exact⟨g,e,ns,h1,h2,h3,h4,h5,h6,h7,hk _ h8⟩
  ·obtain⟨i,off,e,H,cs,own,h1,h2,h3,h4,h5⟩:=h;exact⟨i,off,e,H,cs,own,h1,h2,h3,h4,hk _ h5⟩
  ·exact h
 ·refine .inr (.inl ?_)
  unfold CR at *
  split at h
  ·obtain⟨p,L,h1,h2,h3,h4⟩:=h;exact⟨p,L,h1,h2,h3,hk _ h4⟩
  ·obtain⟨i,off,H,cs,own,L,l,h1,h2,h3,h4,h5,h6,h7⟩:=h;exact⟨i,off,H,cs,own,L,l,h1,h2,h3,h4,h5,h6,hk _ h7⟩
  ·obtain⟨i,off,cs,own,L,l,h0,h1,h2,h3,h4,h5,h6,h7,h8⟩:=h;exact⟨i,off,cs,own,L,l,h0,h1,h2,h3,h4,h5,h6,h7,hk _ h8⟩
  ·obtain⟨vs,h1,h2,h3⟩:=h;exact⟨vs,h1,h2,hk _ h3⟩
  ·obtain⟨r,ro,H',oa,h1,h2,h3⟩:=h;exact⟨r,ro,H',oa,h1,h2,hk _ h3⟩
  ·exact h
theorem rl{K:List It->aq->Prop}:∀(rest:List Oper) (pos id:Nat) (sc:List It) (st:aq),Cd P GE A ops K rest pos id sc st->cr P GE A ops (fun st=>∃sc,K sc st) rest id st
 |[],_,_,sc,st,h=>⟨sc,h⟩
 | o :: rest,pos,id,sc,st,h => by
  simp only[Cd]at h
  have step:∀sc st,BL P GE A o id sc st (fun sc' st'=>Cd P GE A ops K rest (pos+1) (id+if au o.op then 1 else 0) sc' st')->tU P GE A o id (cr P GE A ops (fun st=>∃sc,K sc st) rest (id+if au o.op then 1 else 0)) st:=
   fun sc st hs=>tV (fun st' hx=>by obtain⟨sc',hx⟩:=hx;exact rl rest _ _ sc' st' hx) (DI hs)
  unfold cr
  split at h
  ·rename_i hg;simp only[hg];exact step _ _ h
  ·rename_i j want hg
   obtain⟨x,hx,hc⟩:=vA h
   simp only[hg,hx]
   rcases hc with⟨rfl,sc',hc⟩|⟨hne,sc',hc⟩
   ·exact⟨fun _=>step _ _ hc,fun hn=>absurd rfl hn⟩
   ·refine⟨fun he=>absurd he hne,fun _=>?_⟩
    simp only[mZ]at hc
    exact rl rest _ _ sc' _ hc
end
end Go.Proofs.YtggeppllafbidaaGreatDoor
