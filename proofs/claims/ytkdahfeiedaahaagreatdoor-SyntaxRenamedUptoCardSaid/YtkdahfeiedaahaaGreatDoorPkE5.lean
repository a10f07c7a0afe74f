/- PROVED: a part of the proof. Conditions: none. -/
import Derived.Test.YtkdahfeiedaahaaGreatDoorPkE4
import Derived.Test.YtkdahfeiedaahaaGreatDoorPkE3
noncomputable section
namespace Go.Proofs.YtkdahfeiedaahaaGreatDoor
open Go
def JC(st:aA)(dst:Option Tmp)(p:PVal)(ro:List (Nat×TypeId))(H:List aB)(K:aA->Prop):Prop:=
 match dst with
 |some d=>gS st.tmps d p fun tm=>bF ((ro.map fun x=>((d,x.1),x.2))++bQ d st.own) fun ow=>K ⟨tm,H,ow⟩
 |none=>K ⟨st.tmps,H,st.own⟩
theorem tF(st:aA)(dst:Option Tmp)(p:PVal)(ro:List (Nat×TypeId))(H:List aB)(K:aA->Prop):JC st dst p ro H K=K (wF st dst p ro H):=by
 cases dst with
 |none=>rfl
 |some d=>simp only[JC,bI,aO,wF]
def NL(P:Program)(GE:List (Nat×List PVal))(f:Operand)(args:List Operand)(tmps:List PVal)(sc:List It)(K:PVal->List (Nat×TypeId)->List It->Prop):Prop:=
 pf GE tmps f fun vf=>match vf with
  |.func (.func g) first cap=>Ip GE tmps args fun as=>match sc with
   |.c r ro::sc'=>CC P GE g (first++as++cap) r ro/\K r ro sc'
   |_=>False
  |_=>False
def vM(P:Program)(GE:List (Nat×List PVal))(o:Oper)(id:Nat)(sc:List It)(st:aA)(K:List It->aA->Prop):Prop:=
 match nF o st.tmps.length with
 |false=>False
 | true => match o.op with
  |.call {callee:=.value f,args,..}=>NL P GE f args.toList st.tmps sc fun r ro sc'=>JC st o.dst r ro st.boxes fun st'=>K sc' st'
  |.alloc t=>match sc with
   |.x zs::sc'=>gR P t=some zs/\bF (M1 P t) fun ow=>gS st.boxes id (.cells zs ow) fun H=>JC st o.dst (.bptr id 0) [] H fun st'=>K sc' st'
   |_=>False
  |.box _ x=>pf GE st.tmps x fun vx=>match sc with
   |.x cs::sc'=>cN vx=some cs/\gS st.boxes id (.cells cs []) fun H=>JC st o.dst (.bptr id 0) [] H fun st'=>K sc' st'
   |_=>False
  |.makeMap _ none=>gS st.boxes id (.map []) fun H=>JC st o.dst (.mapr id) [] H fun st'=>K sc st'
  |op=>OG P GE op st.tmps st.boxes sc fun p H sc'=>JC st o.dst p [] H fun st'=>K sc' st'
def Mu(n d:Nat)(K:Prop):Prop:=match decide (d<n)with
 |true=>K
 |false=>False
theorem oP{n d:Nat}{K:Prop}(h:Mu n d K):d<n/\K:=by
 unfold Mu at h
 split at h
 ·rename_i hd;exact⟨by simpa using hd,h⟩
 ·exact h.elim
def HO(P:Program)(st:aA)(T e:TypeId)(t:Nat)(dst:Option Tmp)(vx vt:PVal)(sc:List It)(K:List It->aA->Prop):Prop:=
 match vx with
 | .bptr i off => match fl P T (.bptr i off) vt st.boxes with
  | some H => mh H i fun B => match B with
   |.cells cs own=>match vt.one with
    |true=>bF cs fun cs'=>gS H i (.cells cs' ((off,e)::own)) fun H'=>JC {st with own:=st.own.filter fun x=>x.1 !=(t,0)} dst (.val undef) [] H' fun st'=>K sc st'
    |false=>False
   |_=>False
  |none=>False
 |_=>False
def HP(P:Program)(GE:List (Nat×List PVal))(A:List Nat)(o:Oper)(id:Nat)(sc:List It)(st:aA)(K:List It->aA->Prop):Prop:=
 match o.op,o.dst with
 |.assign (.tmp t),some d=>Mu st.tmps.length d (wB st.tmps t fun p=>gS st.tmps d p fun tm=>bF (kw d (fun x=>if x.1=t then(d,x.2)else x) st.own) fun ow=>K sc ⟨tm,st.boxes,ow⟩)
 |.move (.tmp t),some d=>match decide (d∈A)with
  |true=>Mu st.tmps.length d (wB st.tmps t fun p=>gS st.tmps d p fun tm=>bF (kw d (fun x=>if x.1=t then(d,x.2)else x) st.own) fun ow=>K sc ⟨tm,st.boxes,ow⟩)
  |false=>vM P GE o id sc st K
 |.assign (.const v),some d=>match tD P o.type v with
  |some e=>Mu st.tmps.length d (gS st.tmps d (.slice []) fun tm=>bF (((d,0),e)::bQ d st.own) fun ow=>K sc ⟨tm,st.boxes,ow⟩)
  |none=>vM P GE o id sc st K
 |.move (.const v),some d=>match tD P o.type v with
  |some e=>Mu st.tmps.length d (gS st.tmps d (.slice []) fun tm=>bF (((d,0),e)::bQ d st.own) fun ow=>K sc ⟨tm,st.boxes,ow⟩)
  |none=>vM P GE o id sc st K
 |.extract (.tmp t) i,some d=>Mu st.tmps.length d (wB st.tmps t fun vt=>Js (uJ vt i) fun p=>gS st.tmps d p fun tm=>bF (kw d (fun x=>if x=(t,i)then(d,0)else x) st.own) fun ow=>K sc ⟨tm,st.boxes,ow⟩)
 |.buildSlice T len parts,some d=>Mu st.tmps.length d (wE GE st.tmps parts.toList fun ps=>match sc,P.underlying T with
  |.v p::sc',some (.slice e)=>gQ P T len ps=some p/\gS st.tmps d p fun tm=>bF (((d,0),e)::bQ d st.own) fun ow=>K sc' ⟨tm,st.boxes,ow⟩
  |_,_=>False)
 | .call { callee := .builtin .append,args:=⟨[.tmp t,y]⟩,argTypes:=⟨[T,T']⟩ },some d => Mu st.tmps.length d (wB st.tmps t fun ve => pf GE st.tmps y fun vn => match ve,vn,sc,P.underlying T with
  |.slice es,.slice ns,.v p::sc',some (.slice e)=>match decide (T=T')&&decide (((t,0),e)∈st.own)with
   |true=>nj P T es ns=some p/\gS st.tmps d p fun tm=>bF (((d,0),e)::bQ d (st.own.filter fun x=>x.1 !=(t,0))) fun ow=>K sc' ⟨tm,st.boxes,ow⟩
   |false=>False
  |_,_,_,_=>False)
 | .load T x,some d => match decide (d ∈ A) with
  | true => Mu st.tmps.length d (pf GE st.tmps x fun vx => match vx,P.underlying T with
   | .bptr i off,some (.slice e) => mh st.boxes i fun B => match B with
    |.cells cs own=>match decide ((off,e)∈own)&&decide (off<cs.length)with
     |true=>wB cs off fun p=>gS st.tmps d p fun tm=>bF (own.filter fun x=>x.1 !=off) fun own'=>gS st.boxes i (.cells cs own') fun H=>bF (((d,0),e)::bQ d st.own) fun ow=>K sc ⟨tm,H,ow⟩
     |false=>False
    |_=>False
   |_,_=>False)
  |false=>vM P GE o id sc st K
 |.store T x (.tmp t),_=>match st.own.find? (fun y=>y.1==(t,0))with
  |some (_,e)=>pf GE st.tmps x fun vx=>wB st.tmps t fun vt=>HO P st T e t o.dst vx vt sc K
  |none=>vM P GE o id sc st K
 |_,_=>vM P GE o id sc st K
def X6:Value->Bool
 |.bool _=>true
 |_=>false
def G8(ops:Array Oper)(j:Nat)(want:Bool)(pos:Nat)(sc:List It)(st:aA)(go:Bool->List It->aA->Prop):Prop:=
 match(ops[j]?).bind (·.dst)with
 |none=>False
 | some t => wB st.tmps t fun p => match p with
  | .bool x => match sc with
   |.g pos' b::sc'=>match pos'==pos with
    |true=>x=b/\gS st.tmps t (.bool b) fun tm=>go (b==want) sc' ⟨tm,st.boxes,st.own⟩
    |false=>go (x==want) sc st
   |_=>go (x==want) sc st
  |.val v=>match X6 v with
   |true=>False
   |false=>go false sc st
  |_=>False
def sL:List Nat->Bool
 |[]=>true
 |x::r=>!(r.contains x)&&sL r
theorem pe:∀{l:List Nat},sL l=true->l.Nodup
 |[],_=>.nil
 |x::r,h=>by
  simp only[sL,vae,vaT,vcx,va3]at h
  exact vbB.2 ⟨h.1,pe h.2⟩
def Kn(t:Nat)(own:List ((Nat×Nat)×TypeId)):List (Nat×TypeId):=own.filterMap fun x=>if x.1.1==t then some (x.1.2,x.2)else none
theorem Fc{t:Nat}{own:List ((Nat×Nat)×TypeId)}{y:Nat×TypeId}(h:y∈Kn t own):((t,y.1),y.2)∈own:=by
 unfold Kn at h
 obtain⟨⟨⟨t',k⟩,e⟩,hx,he⟩:=vbR.1 h
 split at he
 ·rename_i ht
  simp only[vaW]at ht
  cases he;subst ht;exact hx
 ·cases he
def OZ(off n:Nat)(own:List (Nat×TypeId)):List (Nat×TypeId):=own.filterMap fun x=>if decide (off<=x.1)&&decide (x.1<off+n)then some (x.1 - off,x.2)else none
theorem AV{off n:Nat}{own:List (Nat×TypeId)}{y:Nat×TypeId}(h:y∈OZ off n own):(off+y.1,y.2)∈own/\y.1<n:=by
 unfold OZ at h
 obtain⟨⟨k,e⟩,hx,he⟩:=vbR.1 h
 split at he
 ·rename_i ht
  simp only[vae,vak]at ht
  cases he
  have:off+(k - off)=k:=by omega
  exact⟨by rw[this];exact hx,by simp only;omega⟩
 ·cases he
def GA(ρ:List Nat):List PVal->List PVal->Prop
 |[],[]=>True
 |p::ps,q::qs=>zu ρ p q/\GA ρ ps qs
 |_,_=>False
theorem GA.len{ρ:List Nat}:∀{l r:List PVal},GA ρ l r->l.length=r.length
 |[],[],_=>rfl
 |[],_::_,h=>h.elim
 |_::_,[],h=>h.elim
 |_::_,_::_,h=>by simp[GA.len h.2]
theorem GA.get{ρ:List Nat}:∀{l r:List PVal},GA ρ l r->∀(i:Nat) p q,l[i]? =some p->r[i]? =some q->zu ρ p q
 |[],[],_,i,p,q,hp,_=>by simp at hp
 |[],_::_,h,_,_,_,_,_=>h.elim
 |_::_,[],h,_,_,_,_,_=>h.elim
 |_::_,_::_,h,0,p,q,hp,hq=>by simp at hp hq;subst hp;subst hq;exact h.1
 |_::_,_::_,h,i+1,p,q,hp,hq=>GA.get h.2 i p q (by simpa using hp) (by simpa using hq)
def QO(ρ:List Nat):aB->aB->Prop
 |.cells cs own,.cells cs' own'=>own=own'/\GA ρ cs cs'
 |.map es,.map es'=>es=es'/\∀x∈es,x.1.cl 0/\x.2.cl 0
 |_,_=>False
theorem QO.to{ρ:List Nat}{B B':aB}(h:QO ρ B B'):jn ρ B B':=by
 cases B<;>cases B'<;>simp only[QO]at h
 ·exact⟨h.1,h.2.len,h.2.get⟩
 ·obtain⟨rfl,h⟩:=h
  refine⟨rfl,fun i k u k' u' h1 h2=>?_⟩
  rw[h1]at h2;cases h2
  obtain⟨q1,q2⟩:=h _ (vaD h1)
  exact⟨.refl _ q1,.refl _ q2⟩
def tx(ρ:List Nat)(H:List aB):List Nat->List aB->List aB->Prop
 |[],[],[]=>True
 |j::js,B::Bs,Bc::Hc=>(mh H j fun B0=>zM B0 B=B/\QO ρ B Bc)/\tx ρ H js Bs Hc
 |_,_,_=>False
def DB(ρ:List Nat):List aB->List aB->Prop
 |[],[]=>True
 |B::Bs,Bc::Hc=>QO ρ B Bc/\DB ρ Bs Hc
 |_,_=>False
def qG(H:List aB):List Nat->List aB->List aB
 |j::js,B::Bs=>qG (H.set j B) js Bs
 |_,_=>H
def LL(H:List aB):List Nat->List aB->(List aB->Prop)->Prop
 |j::js,B::Bs,K=>gS H j B fun H'=>LL H' js Bs K
 |_,_,K=>K H
theorem tT:∀(H:List aB) (js:List Nat) (Bs:List aB) (K:List aB->Prop),LL H js Bs K=K (qG H js Bs)
 |H,[],_,K=>by cases ‹List aB›<;>rfl
 |H,_::_,[],K=>rfl
 |H,j::js,B::Bs,K=>by simp only[LL,bI,tT,qG]
theorem Fl:∀(H:List aB) (js:List Nat) (Bs:List aB),(qG H js Bs).length=H.length
 |H,[],_=>by cases ‹List aB›<;>rfl
 |H,_::_,[]=>rfl
 |H,j::js,B::Bs=>by simp only[qG,Fl,vcu]
theorem pk:∀(H:List aB) (js:List Nat) (Bs:List aB) {j:Nat},j∉js->(qG H js Bs)[j]? =H[j]?
 |H,[],Bs,_,_=>by cases Bs<;>rfl
 |H,_::_,[],_,_=>rfl
 |H,k::js,B::Bs,j,h=>by
  simp only[vaE,not_or]at h
  simp only[qG]
  rw[pk _ js Bs h.2,vap (Ne.symm h.1)]
theorem D7:∀(H:List aB) (js:List Nat) (Bs:List aB),js.Nodup->js.length=Bs.length->(∀j∈js,j<H.length)->∀(i j:Nat) B,js[i]? =some j->Bs[i]? =some B->(qG H js Bs)[j]? =some B
 |H,[],Bs,_,_,_,i,j,B,hj,_=>by simp at hj
 |H,_::_,[],_,hl,_,_,_,_,_,_=>by simp at hl
 | H,k :: js,B0 :: Bs,hn,hl,hlt,i,j,B,hj,hB => by
  obtain⟨hn1,hn2⟩:=vbB.1 hn
  simp only[qG]
  cases i with
  |zero=>
   simp at hj hB;subst hj;subst hB
   rw[pk _ js Bs hn1,vai (hlt _ (by simp))]
  |succ i=>exact D7 _ js Bs hn2 (by simpa using hl) (fun x hx=>by rw[vcu];exact hlt x (by simp[hx])) i j B (by simpa using hj) (by simpa using hB)
theorem HX{ρ:List Nat}{H:List aB}:∀{js:List Nat} {Bs Hc:List aB},tx ρ H js Bs Hc->js.length=Bs.length/\Hc.length=js.length/\(∀j∈js,j<H.length)/\
  ∀(i j:Nat) B Bc,js[i]? =some j->Bs[i]? =some B->Hc[i]? =some Bc->(∃B0,H[j]? =some B0/\zM B0 B=B)/\jn ρ B Bc
 |[],[],[],_=>⟨rfl,rfl,by simp,by simp⟩
 |[],_::_,_,h=>by simp[tx]at h
 |[],[],_::_,h=>by simp[tx]at h
 |_::_,[],_,h=>by simp[tx]at h
 |_::_,_::_,[],h=>by simp[tx]at h
 | k :: js,B :: Bs,Bc :: Hc,h => by
  obtain⟨h1,h2⟩:=h
  obtain⟨B0,hB0,h3,h4⟩:=eD h1
  obtain⟨k1,k2,k3,k4⟩:=HX h2
  refine⟨by simp[k1],by simp[k2],fun j hj=>?_,fun i j b bc hj hb hbc=>?_⟩
  ·rcases vaE.1 hj with rfl|hj
   ·exact ak hB0
   ·exact k3 j hj
  ·cases i with
   |zero=>simp at hj hb hbc;subst hj;subst hb;subst hbc;exact⟨⟨B0,hB0,h3⟩,h4.to⟩
   |succ i=>exact k4 i j b bc (by simpa using hj) (by simpa using hb) (by simpa using hbc)
theorem zQ{ρ:List Nat}:∀{Bs Hc:List aB},DB ρ Bs Hc->Bs.length=Hc.length/\∀(i:Nat) B Bc,Bs[i]? =some B->Hc[i]? =some Bc->jn ρ B Bc
 |[],[],_=>⟨rfl,by simp⟩
 |[],_::_,h=>h.elim
 |_::_,[],h=>h.elim
 |B::Bs,Bc::Hc,h=>by
  obtain⟨k1,k2⟩:=zQ h.2
  refine⟨by simp[k1],fun i b bc hb hbc=>?_⟩
  cases i with
  |zero=>simp at hb hbc;subst hb;subst hbc;exact h.1.to
  |succ i=>exact k2 i b bc (by simpa using hb) (by simpa using hbc)
def T6(t:Nat):Option Operand->Bool
 |some (.tmp u)=>u==t
 |_=>false
def RQ:Option Operand->Bool
 |some (.const v)=>mM v
 |_=>false
def NY(n:Nat)(args:List Operand)(own:List ((Nat×Nat)×TypeId))(oa:List OA):Bool:=
 oa.all (fun x=>decide (n<=x.i)&&((RQ args[x.i - n]? &&x.k==0)||(decide (((x.t,x.k),x.e)∈own)&&T6 x.t args[x.i - n]?)))&&oa.all fun x=>oa.all fun y=>!(x.t==y.t&&x.k==y.k)||x.i==y.i
def Lq:aB->Bool
 |.dead=>false
 |_=>true
def ng(P:Program)(GE:List (Nat×List PVal))(f:Operand)(args:List Operand)(c:GC)(st:aA)(K:List aB->Prop):Prop:=
 pf GE st.tmps f fun vf=>match vf with
 | .func (.func g) first cap => Ip GE st.tmps args fun as => match sL c.ρ && NY first.length args st.own c.oa && c.Bs.all Lq && decide (c.Bs'.length = c.ρ.length) with
  | true => C P GE g c.argsC (c.oa.map fun x => ((x.i,x.k),x.e)) c.Hc c.rc c.ro c.Hc'∧GA c.ρ (first ++ as ++ cap) c.argsC∧tx c.ρ st.boxes c.ρ c.Bs c.Hc∧DB c.ρ c.Bs' c.Hc'∧zu c.ρ c.r c.rc ∧
    LL st.boxes c.ρ c.Bs' K
  |false=>False
 |_=>False
theorem wz{P:Program}{GE:List (Nat×List PVal)}{f:Operand}{args:List Operand}{c:GC}{st:aA}{K:List aB->Prop}(h:ng P GE f args c st K):∃H',Hk P GE f args st c.r c.ro H' c.oa/\K H':=by
 unfold ng at h
 rw[bZ]at h
 split at h
 ·rename_i g first cap hf
  rw[oE]at h
  split at h
  ·rename_i hb
   simp only[vae,vak]at hb
   obtain⟨⟨⟨b1,b2⟩,b3⟩,b4⟩:=hb
   obtain⟨h1,h2,h3,h4,h5,h6⟩:=h
   rw[tT]at h6
   have hn:=pe b1
   obtain⟨i1,i2,i3,i4⟩:=HX h3
   obtain⟨o1,o2⟩:=zQ h4
   unfold NY at b2
   rw[vae]at b2
   obtain⟨c1,c2⟩:=b2
   have hgetB:∀{i j:Nat},c.ρ[i]? =some j->∃B,c.Bs[i]? =some B:=fun{i j} hj=>⟨_,vab (by rw[<-i1];exact ak hj)⟩
   have hgetH:∀{i j:Nat},c.ρ[i]? =some j->∃B,c.Hc[i]? =some B:=fun{i j} hj=>⟨_,vab (by rw[i2];exact ak hj)⟩
   refine⟨_,⟨g,first,cap,c.argsC,c.ρ,qG st.boxes c.ρ c.Bs,c.Hc,c.Hc',c.rc,hf,hn,h1,⟨Fl _ _ _,fun i B hB=>?_⟩,⟨i2,fun i j hj=>?_⟩,⟨by rw[<-o1];exact b4,fun i j hj=>?_⟩,Fl _ _ _,fun j hj=>by rw[pk _ _ _ hj,pk _ _ _ hj],h5,h2.len,h2.get,fun x hx=>?_,fun x hx y hy e1 e2=>?_⟩,h6⟩
   ·by_cases hi:i∈c.ρ
    ·obtain⟨k,hk⟩:=vbf.1 hi
     obtain⟨B1,hB1⟩:=hgetB hk
     obtain⟨Bc,hBc⟩:=hgetH hk
     obtain⟨⟨B0,hB0,hfg⟩,_⟩:=i4 k i B1 Bc hk hB1 hBc
     rw[D7 _ _ _ hn i1 i3 k i B1 hk hB1]at hB
     cases hB
     refine⟨B0,hB0,?_⟩
     rcases OH B0 B with hx|hx|hx
     ·rw[hfg]at hx
      have:=vau.1 b3 B (vaD hB1)
      rw[hx]at this;cases this
     ·rw[hfg]at hx;exact .inl hx
     ·rw[hfg]at hx;exact .inr hx
    ·rw[pk _ _ _ hi]at hB
     exact⟨B,hB,.inl rfl⟩
   ·obtain⟨B1,hB1⟩:=hgetB hj
    obtain⟨Bc,hBc⟩:=hgetH hj
    exact⟨B1,Bc,D7 _ _ _ hn i1 i3 i j B1 hj hB1,hBc,(i4 i j B1 Bc hj hB1 hBc).2⟩
   ·have hi:=ak hj
    have e1:=vab (l:=c.Bs') (i:=i) (by omega)
    have e2:=vab (l:=c.Hc') (i:=i) (by omega)
    exact⟨_,_,D7 _ _ _ hn b4.symm i3 i j _ hj e1,e2,o2 i _ _ e1 e2⟩
   ·have:=vau.1 c1 x hx
    simp only[vae,vaY,vak,vaW]at this
    refine⟨x.i - first.length,by omega,?_⟩
    rcases this.2 with⟨h2,h3⟩|⟨h2,h3⟩
    ·left
     unfold RQ at h2
     split at h2
     ·rename_i v hv
      unfold mM at h2
      split at h2
      ·exact⟨hv,h3⟩
      ·cases h2
     ·cases h2
    ·right
     unfold T6 at h3
     split at h3
     ·rename_i u hu
      simp only[vaW]at h3
      subst h3;exact⟨h2,hu⟩
     ·cases h3
   ·have:=vau.1 (vau.1 c2 x hx) y hy
    simp only[vaY,vaT,Bool.and_eq_false_iff,beq_eq_false_iff_ne,ne_eq,vaW]at this
    rcases this with(hx|hx)|hx
    ·exact absurd e1 hx
    ·exact absurd e2 hx
    ·exact hx
  ·exact h.elim
 ·exact h.elim
def K8(P:Program)(GE:List (Nat×List PVal))(f:Operand)(args:List Operand)(c:GC)(d:Nat)(st:aA)(K:List PVal->List aB->List ((Nat×Nat)×TypeId)->Prop):Prop:=
 pf GE st.tmps f fun vf=>Ip GE st.tmps args fun vs=>match vf with
  |.func (.func g) [] []=>match decide (c.ρ=List.range' st.boxes.length c.Hc'.length)with
   |true=>CN P GE g vs c.rc c.ro c.Hc'/\li 0 vs/\DB c.ρ c.Bs' c.Hc'/\zu c.ρ c.r c.rc/\gS st.tmps d c.r fun tm=>bF ((c.ro.map fun x=>((d,x.1),x.2))++bQ d st.own) fun ow=>GI st.boxes c.Bs' fun H=>K tm H ow
   |false=>False
  |_=>False
theorem Jm{P:Program}{GE:List (Nat×List PVal)}{o:Oper}{f:Operand}{args:Array Operand}{tys:Array TypeId}{c:GC}{d:Nat}{st:aA}{K:List It->aA->Prop}{sc:List It}(ho:o.op=.call {callee:=.value f,args,argTypes:=tys})(hd:o.dst=some d)(h1:d<st.tmps.length)
  (h:K8 P GE f args.toList c d st fun tm H ow=>K sc ⟨tm,H,ow⟩):MY P GE o (fun st'=>∃sc',K sc' st') st:=by
 unfold K8 at h
 rw[bZ,oE]at h
 split at h
 ·rename_i g hf
  split at h
  ·rename_i hc
   simp only[vak]at hc
   obtain⟨h2,h3,h4,h5,h6⟩:=h
   simp only[bI,aO,GI]at h6
   obtain⟨k1,k2⟩:=zQ h4
   unfold MY
   simp only[ho,hd]
   rw[hc]at h5 k2
   exact⟨g,c.rc,c.ro,c.Bs',c.Hc',c.r,hf,h2,h3,k1,k2,h5,h1,sc,h6⟩
  ·exact h.elim
 ·exact h.elim
def Ha (P:Program) (GE:List (Nat×List PVal)) (A:List Nat) (o:Oper) (id:Nat) (sc:List It) (st:aA) (K:List It→aA→Prop):Prop :=
 match o.op,sc with
 |.build T parts,.b p L::sc'=>match o.dst with
  |some d=>Mu st.tmps.length d (wE GE st.tmps parts.toList fun ps=>dX P T ps=some p/\DZ P T ps L/\gS st.tmps d p fun tm=>bF ((L.map fun x=>((d,x.1),x.2))++bQ d st.own) fun ow=>K sc' ⟨tm,st.boxes,ow⟩)
  |none=>False
 | .store T x (.tmp t),.y vs :: sc' => wB st.tmps t fun vt => match vt with
  | .agg l => match o.dst with
   | none => pf GE st.tmps x fun vx => match vx with
    | .bptr i off => bF (Kn t st.own) fun L => l = vs∧mh st.boxes i fun B => match B with
     | .cells cs own => match sL (L.map (·.1)) && decide (vs.length = P.cellsOf T) && (P.info? T).isSome && decide (off + vs.length ≤ cs.length) && vs.all PVal.one with
      | true => bF (cs.take off ++ vs ++ cs.drop (off + vs.length)) fun cs' => bF ((L.map fun y => (off + y.1,y.2)).reverse ++ own.filter fun y => y.1 < off || off + vs.length ≤ y.1) fun own' =>
        gS st.boxes i (.cells cs' own') fun H=>bF (st.own.filter fun x=>!L.any fun y=>x.1==(t,y.1)) fun ow=>K sc' ⟨st.tmps,H,ow⟩
      |false=>False
     |_=>False
    |_=>False
   |some _=>False
  |_=>HP P GE A o id sc st K
 | .load T x,.z l :: sc' => match P.underlying T with
  | some (.struct _) => match o.dst with
   | some d => Mu st.tmps.length d (pf GE st.tmps x fun vx => match vx with
    | .bptr i off => mh st.boxes i fun B => match B with
     | .cells cs own => bK P T (cs.drop off) = some (.agg l)∧bF (OZ off (P.cellsOf T) own) fun L => match sL (L.map (·.1)) with
      | true => gS st.tmps d (.agg l) fun tm => bF (own.filter fun x => !L.any fun y => x.1 == off + y.1) fun own' => gS st.boxes i (.cells cs own') fun H =>
        bF ((L.map fun y=>((d,y.1),y.2)).reverse++bQ d st.own) fun ow=>K sc' ⟨tm,H,ow⟩
      |false=>False
     |_=>False
    |_=>False)
   |none=>False
  |_=>HP P GE A o id sc st K
 |.box _ x,.e vs::sc'=>match o.dst with
  |some d=>Mu st.tmps.length d (pf GE st.tmps x fun vx=>cN vx=some vs/\gS st.tmps d (.eptr vs) fun tm=>bF (bQ d st.own) fun ow=>K sc' ⟨tm,st.boxes,ow⟩)
  |none=>False
 |.call {callee:=.value f,args,..},.cg c::sc'=>match o.dst with
  |some d=>Mu st.tmps.length d (ng P GE f args.toList c st fun H=>gS st.tmps d c.r fun tm=>bF ((c.ro.map fun x=>((d,x.1),x.2))++bQ d (st.own.filter fun z=>!c.oa.any fun x=>z.1==(x.t,x.k))) fun ow=>K sc' ⟨tm,H,ow⟩)
  |none=>False
 |.call {callee:=.value f,args,..},.cn c::sc'=>match o.dst with
  |some d=>Mu st.tmps.length d (K8 P GE f args.toList c d st fun tm H ow=>K sc' ⟨tm,H,ow⟩)
  |none=>False
 | .call { callee := .builtin .append,args:=⟨[.tmp t,y]⟩,argTypes:=⟨[T,T']⟩ },.ar i e n cs :: sc' => match o.dst with
  | some d => Mu st.tmps.length d (wB st.tmps t fun ve => pf GE st.tmps y fun vn => match ve,vn with
   | .slice [],.slice ns => match decide (T = T') && decide (((t,0),e) ∈ st.own) && decide (i = st.boxes.length) with
    | true => P.underlying T = some (.slice e)∧(∃ p,nj P T [] ns = some p)∧(n = ns.length∧cs = ns.flatten) ∧
      gS st.tmps d (.bsl i 0 n) fun tm=>bF (bQ d (st.own.filter fun x=>x.1 !=(t,0))) fun ow=>GI st.boxes [.cells cs []] fun H=>K sc' ⟨tm,H,ow⟩
    |false=>False
   |_,_=>False)
  |none=>False
 | .call { callee := .value f,args:=⟨[x]⟩,.. },.ar i e n cs :: sc' => match o.dst with
  | some d => Mu st.tmps.length d (pf GE st.tmps f fun vf => pf GE st.tmps x fun vn => match vf,vn with
   | .func (.func g) [] [],.slice ns => match decide (i = st.boxes.length) with
    | true => sG P g e∧(0 < P.cellsOf e∧(∀ x ∈ ns,x.length = P.cellsOf e∧∀ q ∈ x,q.one = true)∧ns.length ≤ fC)∧(n = ns.length∧cs = ns.flatten) ∧
      gS st.tmps d (.bsl i 0 n) fun tm=>bF (bQ d st.own) fun ow=>GI st.boxes [.cells cs []] fun H=>K sc' ⟨tm,H,ow⟩
    |false=>False
   |_,_=>False)
  |none=>False
 | .store T x (.const v),.ar _ e _ _ :: sc' => match o.dst,mM v with
  | none,true => pf GE st.tmps x fun vx => pf GE st.tmps (.const v) fun vy => match vx,cN vy with
   | .bptr i off,some vs => mh st.boxes i fun B => match B with
    |.cells cs own=>match decide (vs.length=P.cellsOf T)&&(P.info? T).isSome&&decide (off+vs.length<=cs.length)&&vs.all PVal.one with
     |true=>bF (cs.take off++vs++cs.drop (off+vs.length)) fun cs'=>bF ((off,e)::own.filter fun y=>y.1<off||off+vs.length<=y.1) fun own'=>gS st.boxes i (.cells cs' own') fun H=>K sc' ⟨st.tmps,H,st.own⟩
     |false=>False
    |_=>False
   |_,_=>False
  |_,_=>False
 |_,_=>HP P GE A o id sc st K
def FQ(P:Program)(GE:List (Nat×List PVal))(A:List Nat)(ops:Array Oper)(K:List It->aA->Prop):List Oper->Nat->Nat->List It->aA->Prop
 |[],_,_,sc,st=>K sc st
 | o :: rest,pos,id,sc,st =>
  let step (sc:List It) (st:aA):Prop:=Ha P GE A o id sc st fun sc' st'=>FQ P GE A ops K rest (pos+1) (id+if aG o.op then 1 else 0) sc' st'
  match o.guard with
  |none=>step sc st
  |some (j,want)=>G8 ops j want pos sc st fun b sc' st'=>match b with
   |true=>step sc' st'
   |false=>JC st' o.dst (.val undef) [] st'.boxes fun st''=>FQ P GE A ops K rest (pos+1) (id+if aG o.op then 1 else 0) sc' st''
section
variable{P:Program}{GE:List (Nat×List PVal)}{A:List Nat}{ops:Array Oper}
theorem K6{f:Operand}{args:List Operand}{tmps:List PVal}{H:List aB}{sc:List It}{K:PVal->List (Nat×TypeId)->List It->Prop}(h:NL P GE f args tmps sc K):CE P GE (opv GE tmps f) (args.map (opv GE tmps)) H fun r ro H'=>H'=H/\∃sc',K r ro sc':=by
 unfold NL at h
 rw[bZ]at h
 split at h
 ·rename_i g first cap hf
  rw[oE]at h
  split at h
  ·rename_i r ro sc'
   rw[hf]
   exact .inl ⟨h.1.1,r,ro,h.1.2,rfl,sc',h.2⟩
  ·exact h.elim
 ·exact h.elim
theorem AX{op:Op}{id:Nat}{v:Operand->PVal}{H H':List aB}{p:PVal}{K:PVal->List (Nat×TypeId)->List aB->Prop}(hn:∀f args tys,op≠.call {callee:=.value f,args,argTypes:=tys})
  (h:rJ P op id v H=some (p,H')) (hk:K p [] H'):Jw P GE op id v H K:=by
 unfold Jw
 split
 ·rename_i f args tys;exact absurd rfl (hn _ _ _)
 ·rw[h];exact hk
theorem lX{o:Oper}{id:Nat}{sc:List It}{st:aA}{K:List It->aA->Prop}(h:vM P GE o id sc st K):nF o st.tmps.length=true/\Jw P GE o.op id (opv GE st.tmps) st.boxes fun p ro H=>(fun st'=>∃sc',K sc' st') (wF st o.dst p ro H):=by
 unfold vM at h
 split at h
 ·exact h.elim
 ·rename_i hc
  refine⟨hc,?_⟩
  split at h
  ·rename_i f args tys ho
   have:=K6 (H:=st.boxes) h
   unfold Jw
   simp only[ho]
   unfold CE at this ⊢
   split at this
   ·rcases this with⟨k1,r,ro,k2,_,sc',k3⟩|⟨ρ,argsC,Hc,rc,ro,Hc',H',r,k1,k2,k3,k4,k5,k6,k7,k8,k9,rfl,sc',k10⟩
    ·rw[tF]at k3;exact .inl ⟨k1,r,ro,k2,sc',k3⟩
    ·rw[tF]at k10;exact .inr ⟨ρ,argsC,Hc,rc,ro,Hc',_,r,k1,k2,k3,k4,k5,k6,k7,k8,k9,sc',k10⟩
   ·exact this.elim
  ·rename_i t ho
   split at h
   ·rename_i zs sc'
    obtain⟨h1,h2⟩:=h
    simp only[aO,bI,tF]at h2
    rw[ho]
    exact AX (by simp) (by simp only[rJ,h1,vah]) ⟨sc',h2⟩
   ·exact h.elim
  ·rename_i t x ho
   rw[bZ]at h
   split at h
   ·rename_i cs sc'
    obtain⟨h1,h2⟩:=h
    simp only[bI,tF]at h2
    rw[ho]
    exact AX (by simp) (by simp only[rJ,h1,vah]) ⟨sc',h2⟩
   ·exact h.elim
  ·rename_i t ho
   simp only[bI,tF]at h
   rw[ho]
   exact AX (by simp) (by simp only[rJ]) ⟨_,h⟩
  ·rename_i n1 n2 n3 n4
   obtain⟨p,H',sc',k1,k2,_⟩:=FU (id:=id) h
   rw[tF]at k2
   exact AX (fun f args tys e=>n1 f args tys e) k1 ⟨sc',k2⟩
theorem xT{o:Oper}{id:Nat}{sc:List It}{st:aA}{K:List It->aA->Prop}(h:HP P GE A o id sc st K):Gd P GE A o id (fun st'=>∃sc',K sc' st') st:=by
 unfold HP at h
 unfold Gd
 split at h
 case h_1 t d ho hd=>
  obtain⟨h1,h2⟩:=oP h
  simp only[jK,bI,aO]at h2
  simp only[ho,hd]
  exact⟨h1,_,h2⟩
 case h_2 t d ho hd=>
  simp only[ho,hd]
  split at h
  ·rename_i hA
   obtain⟨h1,h2⟩:=oP h
   simp only[jK,bI,aO]at h2
   rw[vaq (by simpa using hA)]
   exact⟨h1,_,h2⟩
  ·rename_i hA
   rw[vat (by simpa using hA)]
   have:=lX h
   rw[ho,hd]at this
   exact this
 case h_3 v d ho hd=>
  simp only[ho,hd]
  split at h
  ·rename_i e he
   obtain⟨h1,h2⟩:=oP h
   simp only[bI,aO]at h2
   simp only[he]
   exact⟨h1,_,h2⟩
  ·rename_i he
   simp only[he]
   have:=lX h
   rw[ho,hd]at this
   exact this
 case h_4 v d ho hd=>
  simp only[ho,hd]
  split at h
  ·rename_i e he
   obtain⟨h1,h2⟩:=oP h
   simp only[bI,aO]at h2
   simp only[he]
   exact⟨h1,_,h2⟩
  ·rename_i he
   simp only[he]
   have:=lX h
   rw[ho,hd]at this
   exact this
 case h_5 t i d ho hd=>
  obtain⟨h1,h2⟩:=oP h
  rw[jK]at h2
  obtain⟨p,h3,h4⟩:=vO h2
  simp only[bI,aO]at h4
  simp only[ho,hd,h3]
  exact⟨h1,_,h4⟩
 case h_6 T len parts d ho hd=>
  obtain⟨h1,h2⟩:=oP h
  rw[pg]at h2
  split at h2
  ·rename_i p sc' e hu
   obtain⟨h3,h4⟩:=h2
   simp only[bI,aO]at h4
   simp only[ho,hd,h3,hu]
   exact⟨h1,_,h4⟩
  ·exact h2.elim
 case h_7 t y T T' d ho hd=>
  obtain⟨h1,h2⟩:=oP h
  rw[jK,bZ]at h2
  split at h2
  ·rename_i es ns p sc' e he hn hu
   split at h2
   ·rename_i hc
    simp only[vae,vak]at hc
    obtain⟨h3,h4⟩:=h2
    simp only[bI,aO]at h4
    simp only[ho,hd,hu,he,hn,h3]
    exact⟨hc.1,h1,hc.2,_,h4⟩
   ·exact h2.elim
  ·exact h2.elim
 case h_8 T x d ho hd=>
  simp only[ho,hd]
  split at h
  ·rename_i hA
   obtain⟨h1,h2⟩:=oP h
   rw[bZ]at h2
   rw[vaq (by simpa using hA)]
   split at h2
   ·rename_i i off e hx hu
    obtain⟨B,hB,h2⟩:=eD h2
    split at h2
    ·rename_i cs own
     split at h2
     ·rename_i hc
      simp only[vae,vak]at hc
      simp only[jK,bI,aO]at h2
      have hget:cs[off]? =some (cs.getD off .undef):=by
       rw[vaj,vab hc.2];rfl
      simp only[hx,hu,hB,hget]
      exact⟨h1,hc.1,_,h2⟩
     ·exact h2.elim
    ·exact h2.elim
   ·exact h2.elim
  ·rename_i hA
   rw[vat (by simpa using hA)]
   have:=lX h
   rw[ho,hd]at this
   exact this
 case h_9 T x t ho=>
  simp only[ho]
  split at h
  ·rename_i y e hf
   rw[bZ,jK]at h
   simp only[hf]
   unfold HO at h
   split at h
   ·rename_i i off hx
    split at h
    ·rename_i H hst
     obtain⟨B,hB,h⟩:=eD h
     split at h
     ·rename_i cs own
      split at h
      ·rename_i hone
       simp only[bI,aO,tF]at h
       simp only[hx,hst,hB,hone]
       exact⟨_,h⟩
      ·exact h.elim
     ·exact h.elim
    ·exact h.elim
   ·exact h.elim
  ·rename_i hf
   simp only[hf]
   have:=lX h
   rw[ho]at this
   exact this
 case h_10=>
  have:=lX h
  split
  all_goals first
   |exact this
   |(exfalso;simp_all;done)
   |(exfalso;simp_all;rename_i hx h1 h2;exact hx _ _ _ _ rfl rfl rfl rfl)
   |(exfalso;simp_all;rename_i hx h1 h2;exact hx _ _ _ _ _ rfl rfl rfl rfl rfl)
   |(exfalso;simp_all;rename_i hx h1 h2;exact hx _ _ _ rfl rfl rfl)
theorem BM{j:Nat}{want:Bool}{pos:Nat}{sc:List It}{st:aA}{go:Bool->List It->aA->Prop}(h:G8 ops j want pos sc st go):∃x,uK ops st.tmps j=some x/\((x=some want/\∃sc',go true sc' st)\/(x≠some want/\∃sc',go false sc' st)):=by
 unfold G8 at h
 split at h
 ·exact h.elim
 ·rename_i t ht
  rw[jK]at h
  have hget:∀{p},st.tmps.getD t .undef=p->p≠.undef->st.tmps[t]? =some p:=by
   intro p hp hne
   rw[vaj]at hp
   cases hx:st.tmps[t]? with
   |none=>rw[hx]at hp;exact absurd hp.symm hne
   |some q=>rw[hx]at hp;exact va9 some hp
  have hfin:∀(x:Bool) sc',go (x==want) sc' st->(some x=some want/\∃sc',go true sc' st)\/(some x≠some want/\∃sc',go false sc' st):=by
   intro x sc' hg
   cases x<;>cases want<;>simp at hg ⊢<;>exact⟨sc',hg⟩
  split at h
  ·rename_i x hp
   have hx:=hget hp (by simp)
   have hg:uK ops st.tmps j=some (some x):=by unfold uK;simp only[ht,hx]
   refine⟨_,hg,?_⟩
   split at h
   ·rename_i pos' b sc'
    split at h
    ·obtain⟨rfl,h⟩:=h
     rw[bI,D9 hx]at h
     exact hfin x sc' h
    ·exact hfin x _ h
   ·exact hfin x _ h
  ·rename_i v hp
   have hx:=hget hp (by simp)
   split at h
   ·exact h.elim
   ·rename_i hb
    refine⟨none,?_,.inr ⟨by simp,_,h⟩⟩
    unfold uK
    simp only[ht,hx]
    cases v<;>simp[X6]at hb<;>rfl
  ·exact h.elim
theorem Jp{o:Oper}{id:Nat}{sc:List It}{st:aA}{K:List It->aA->Prop}(h:Ha P GE A o id sc st K):Ac P GE A o id (fun st'=>∃sc',K sc' st') st:=by
 unfold Ha at h
 split at h
 ·rename_i T parts p L sc' ho
  split at h
  ·rename_i d hd
   obtain⟨h1,h2⟩:=oP h
   rw[pg]at h2
   obtain⟨h3,h4,h5⟩:=h2
   simp only[bI,aO]at h5
   refine .inr (.inl ?_)
   unfold IB
   simp only[ho,hd]
   exact⟨p,L,h3,h4,h1,sc',h5⟩
  ·exact h.elim
 ·rename_i T x t vs sc' ho
  rw[jK]at h
  split at h
  ·rename_i l hl
   split at h
   ·rename_i hd
    rw[bZ]at h
    split at h
    ·rename_i i off hx
     rw[aO]at h
     obtain⟨rfl,h⟩:=h
     obtain⟨B,hB,h⟩:=eD h
     split at h
     ·rename_i cs own
      split at h
      ·rename_i hc
       simp only[bI,aO]at h
       simp only[vae,vak]at hc
       obtain⟨⟨⟨⟨c1,c2⟩,c3⟩,c4⟩,c5⟩:=hc
       refine .inr (.inl ?_)
       unfold IB
       simp only[ho,hd]
       have hi:=ak hB
       refine⟨i,off,st.boxes.set i (.cells (cs.take off++l++cs.drop (off+l.length)) (own.filter fun y=>y.1<off||off+l.length<=y.1)),_,_,Kn t st.own,l,hx,hl,?_,vai hi,fun y hy=>Fc hy,pe c1,sc',?_⟩
       ·simp only[fl,cN,hB]
        rw[vaq ⟨c2,c3,c4,c5⟩]
       ·rw[vbY];exact h
      ·exact h.elim
     ·exact h.elim
    ·exact h.elim
   ·exact h.elim
  ·exact .inl (xT h)
 ·rename_i T x l sc' ho
  split at h
  ·rename_i fs hT
   split at h
   ·rename_i d hd
    obtain⟨h1,h⟩:=oP h
    rw[bZ]at h
    split at h
    ·rename_i i off hx
     obtain⟨B,hB,h⟩:=eD h
     split at h
     ·rename_i cs own
      obtain⟨h2,h⟩:=h
      rw[aO]at h
      split at h
      ·rename_i hn
       simp only[bI,aO]at h
       refine .inr (.inl ?_)
       unfold IB
       simp only[ho,hd]
       have hlen:l.length=P.cellsOf T:=by
        have hp:=h2
        unfold bK at hp
        rw[hT]at hp
        simp only at hp
        split at hp
        ·rename_i hh;cases hp;rw[vba];omega
        ·cases hp
       exact⟨i,off,cs,own,_,l,⟨fs,hT⟩,hx,hB,h2,fun y hy=>(AV hy).1,pe hn,fun y hy=>by rw[hlen];exact(AV hy).2,h1,sc',h⟩
      ·exact h.elim
     ·exact h.elim
    ·exact h.elim
   ·exact h.elim
  ·exact .inl (xT h)
 ·rename_i T x vs sc' ho
  split at h
  ·rename_i d hd
   obtain⟨h1,h⟩:=oP h
   rw[bZ]at h
   obtain⟨h2,h⟩:=h
   simp only[bI,aO]at h
   refine .inr (.inl ?_)
   unfold IB
   simp only[ho,hd]
   exact⟨vs,h2,h1,sc',h⟩
  ·exact h.elim
 ·rename_i f args tys c sc' ho
  split at h
  ·rename_i d hd
   obtain⟨h1,h⟩:=oP h
   obtain⟨H',h2,h3⟩:=wz h
   simp only[bI,aO]at h3
   refine .inr (.inl ?_)
   unfold IB
   simp only[ho,hd]
   exact⟨c.r,c.ro,H',c.oa,h2,h1,sc',h3⟩
  ·exact h.elim
 ·rename_i f args tys c sc' ho
  split at h
  ·rename_i d hd
   obtain⟨h1,h⟩:=oP h
   refine .inr (.inr (.inr ?_))
   exact Jm ho hd h1 h
  ·exact h.elim
 ·rename_i t y T T' i e n cs sc' ho
  split at h
  ·rename_i d hd
   have hh:=oP h
   clear h
   obtain⟨h1,h⟩:=hh
   rw[jK,bZ]at h
   split at h
   ·rename_i ns he hn
    split at h
    ·rename_i hc
     simp only[vae,vak]at hc
     obtain⟨⟨rfl,c2⟩,rfl⟩:=hc
     obtain⟨h2,⟨p,h3⟩,⟨rfl,rfl⟩,h4⟩:=h
     simp only[bI,aO,GI,aO]at h4
     refine .inr (.inr (.inl ?_))
     unfold N6
     simp only[ho,hd]
     exact⟨e,ns,p,trivial,h2,he,hn,h3,c2,h1,sc',h4⟩
    ·exact h.elim
   ·exact h.elim
  ·exact h.elim
 ·rename_i f x tys i e n cs sc' ho
  split at h
  ·rename_i d hd
   have hh:=oP h
   clear h
   obtain⟨h1,h⟩:=hh
   rw[bZ,bZ]at h
   split at h
   ·rename_i g ns hg hn
    split at h
    ·rename_i hc
     simp only[vak]at hc
     subst hc
     obtain⟨h2,⟨h3,h4,h5⟩,⟨rfl,rfl⟩,h6⟩:=h
     simp only[bI,aO,GI,aO]at h6
     refine .inr (.inr (.inl ?_))
     unfold N6
     simp only[ho,hd]
     exact⟨g,e,ns,hg,h2,hn,h3,h4,h5,h1,sc',h6⟩
    ·exact h.elim
   ·exact h.elim
  ·exact h.elim
 ·rename_i T x v i0 e n0 cs0 sc' ho
  split at h
  ·rename_i hd hv
   have hv':v=.slice none 0 0:=by
    unfold mM at hv
    split at hv
    ·rfl
    ·cases hv
   subst hv'
   rw[bZ,bZ]at h
   split at h
   ·rename_i i off vs hx hpc
    obtain⟨B,hB,h⟩:=eD h
    split at h
    ·rename_i cs own
     split at h
     ·rename_i hc
      simp only[bI,aO]at h
      simp only[vae,vak]at hc
      obtain⟨⟨⟨c2,c3⟩,c4⟩,c5⟩:=hc
      refine .inr (.inr (.inl ?_))
      unfold N6
      simp only[ho,hd]
      have hi:=ak hB
      refine⟨i,off,e,st.boxes.set i (.cells (cs.take off++vs++cs.drop (off+vs.length)) (own.filter fun y=>y.1<off||off+vs.length<=y.1)),_,_,trivial,hx,?_,vai hi,sc',?_⟩
      ·simp only[fl,hpc,hB]
       rw[vaq ⟨c2,c3,c4,c5⟩]
      ·rw[vbY];exact h
     ·exact h.elim
    ·exact h.elim
   ·exact h.elim
  ·exact h.elim
 ·exact .inl (xT h)
theorem su{o:Oper}{id:Nat}{K K':aA->Prop}{st:aA}(hk:∀st,K st->K' st)(h:Ac P GE A o id K st):Ac P GE A o id K' st:=by
 rcases h with h|h|h|h
 ·exact .inl (N9 hk h)
 rotate_left 2
 ·exact .inr (.inr (.inr (Qa hk h)))
 rotate_left
 ·refine .inr (.inr (.inl ?_))
  unfold N6 at *
  split at h
  ·obtain⟨e,ns,p,h1,h2,h3,h4,h5,h6,h7,h8⟩:=h;exact⟨e,ns,p,h1,h2,h3,h4,h5,h6,h7,hk _ h8⟩
  ·obtain⟨g,e,ns,h1,h2,h3,h4,h5,h6,h7,h8⟩:=h;exact⟨g,e,ns,h1,h2,h3,h4,h5,h6,h7,hk _ h8⟩
  ·obtain⟨i,off,e,H,cs,own,h1,h2,h3,h4,h5⟩:=h;exact⟨i,off,e,H,cs,own,h1,h2,h3,h4,hk _ h5⟩
  ·exact h
 ·refine .inr (.inl ?_)
  unfold IB at *
  split at h
  ·obtain⟨p,L,h1,h2,h3,h4⟩:=h;exact⟨p,L,h1,h2,h3,hk _ h4⟩
  ·obtain⟨i,off,H,cs,own,L,l,h1,h2,h3,h4,h5,h6,h7⟩:=h;exact⟨i,off,H,cs,own,L,l,h1,h2,h3,h4,h5,h6,hk _ h7⟩
  ·obtain⟨i,off,cs,own,L,l,h0,h1,h2,h3,h4,h5,h6,h7,h8⟩:=h;exact⟨i,off,cs,own,L,l,h0,h1,h2,h3,h4,h5,h6,h7,hk _ h8⟩
  ·obtain⟨vs,h1,h2,h3⟩:=h;exact⟨vs,h1,h2,hk _ h3⟩
  ·obtain⟨r,ro,H',oa,h1,h2,h3⟩:=h;exact⟨r,ro,H',oa,h1,h2,hk _ h3⟩
  ·exact h
theorem uu{K:List It->aA->Prop}:∀(rest:List Oper) (pos id:Nat) (sc:List It) (st:aA),FQ P GE A ops K rest pos id sc st->dg P GE A ops (fun st=>∃sc,K sc st) rest id st
 |[],_,_,sc,st,h=>⟨sc,h⟩
 | o :: rest,pos,id,sc,st,h => by
  simp only[FQ]at h
  have step:∀sc st,Ha P GE A o id sc st (fun sc' st'=>FQ P GE A ops K rest (pos+1) (id+if aG o.op then 1 else 0) sc' st')->Ac P GE A o id (dg P GE A ops (fun st=>∃sc,K sc st) rest (id+if aG o.op then 1 else 0)) st:=
   fun sc st hs=>su (fun st' hx=>by obtain⟨sc',hx⟩:=hx;exact uu rest _ _ sc' st' hx) (Jp hs)
  unfold dg
  split at h
  ·rename_i hg;simp only[hg];exact step _ _ h
  ·rename_i j want hg
   obtain⟨x,hx,hc⟩:=BM h
   simp only[hg,hx]
   rcases hc with⟨rfl,sc',hc⟩|⟨hne,sc',hc⟩
   ·exact⟨fun _=>step _ _ hc,fun hn=>absurd rfl hn⟩
   ·refine⟨fun he=>absurd he hne,fun _=>?_⟩
    simp only[tF]at hc
    exact uu rest _ _ sc' _ hc
end
abbrev Rs:=Bool×Nat×Nat
abbrev On:=Bool×(Nat×Nat)×TypeId
def eh(τ:On):Rs:=match τ.1 with
 |false=>(false,τ.2.1.1,0)
 |true=>(true,τ.2.1.1,τ.2.1.2)
def jL(st:aA)(τ:On):Prop:=match τ.1 with
 |false=>(τ.2.1,τ.2.2)∈st.own
 |true=>∃cs own,st.boxes[τ.2.1.1]? =some (.cells cs own)/\(τ.2.1.2,τ.2.2)∈own
def a8:aB->aB
 |.cells cs _=>.cells cs []
 |B=>B
theorem Mq{H H2:List aB}(h:H2.map a8=H.map a8)(i:Nat):(H2[i]?).map a8=(H[i]?).map a8:=by
 have:=va9 (fun l=>l[i]?) h
 simpa[vax]using this
theorem xW{H H2:List aB}(h:H2.map a8=H.map a8){i:Nat}{cs:List PVal}{own:List (Nat×TypeId)}(hi:H[i]? =some (.cells cs own)):∃own2,H2[i]? =some (.cells cs own2):=by
 have:=Mq h i
 rw[hi]at this
 cases hB:H2[i]? with
 |none=>rw[hB]at this;cases this
 |some B=>
  rw[hB]at this
  cases B<;>simp[a8]at this
  subst this
  exact⟨_,rfl⟩
section
variable{P:Program}{GE:List (Nat×List PVal)}
theorem MS{t:TypeId}{x:PVal}{H H2:List aB}(h:H2.map a8=H.map a8):mj P t x H2=mj P t x H:=by
 unfold mj
 split
 ·rfl
 ·rename_i i off
  have hi:=Mq h i
  generalize H2[i]? =o at hi
  generalize H[i]? =o' at hi
  rcases o with _|(_|_|_)<;>rcases o' with _|(_|_|_)<;>simp[a8]at hi ⊢
  subst hi;rfl
 ·rfl
theorem N3{t:TypeId}{x:PVal}{H H2:List aB}(h:H2.map a8=H.map a8):CG P t x H2=CG P t x H:=by
 unfold CG
 split<;>first|rfl|skip
 rename_i i _
 have hi:=Mq h i
 generalize H2[i]? =o at hi
 generalize H[i]? =o' at hi
 rcases o with _|(_|_|_)<;>rcases o' with _|(_|_|_)<;>simp[a8]at hi ⊢
 subst hi;rfl
theorem Jx{t:TypeId}{m k:PVal}{ok:Bool}{H H2:List aB}(h:H2.map a8=H.map a8):vW P t m k ok H2=vW P t m k ok H:=by
 unfold vW
 split
 ·rename_i kt e i _
  have hi:=Mq h i
  generalize H2[i]? =o at hi
  generalize H[i]? =o' at hi
  rcases o with _|(_|_|_)<;>rcases o' with _|(_|_|_)<;>simp[a8]at hi ⊢
  subst hi;rfl
 ·rfl
theorem UZ{op:Op}{id:Nat}{v:Operand->PVal}{H H2:List aB}{p:PVal}(hc:ch P op≠3)(hm:aG op=false)(h:rJ P op id v H=some (p,H))(h2:2<=ch P op->H2.map a8=H.map a8):rJ P op id v H2=some (p,H2):=by
 by_cases hlt:ch P op<2
 ·exact TD hlt hm h H2
 ·have hs:=h2 (by omega)
  have key:∀{q q':Option PVal},q'=q->(q.map fun p=>(p,H))=some (p,H)->(q'.map fun p=>(p,H2))=some (p,H2):=by
   intro q q' e hq
   obtain⟨z,hz,he⟩:=ff hq
   cases he
   rw[e,hz];rfl
  unfold rJ at h ⊢
  split at h
  all_goals first
   |(cases h;done)
   |(simp[ch]at hlt;done)
   |(simp[ch]at hc;done)
   |(simp[aG]at hm;done)
   |exact key (MS hs) h
   |exact key (Jx hs) h
   |exact key (N3 hs) h
def bN(P:Program)(rw:List Nat)(o:Oper):Nat:=match o.op with
 |.call {callee:=.value _,..}=>if(o.dst.any fun d=>rw.contains (8 * d+1))=true then 3 else 0
 |op=>ch P op
theorem Dl{rw:List Nat}{o:Oper}(h:∀f args tys,o.op≠.call {callee:=.value f,args,argTypes:=tys}):bN P rw o=ch P o.op:=by
 unfold bN
 split
 ·rename_i hx;exact absurd hx (h _ _ _)
 ·rfl
def Ka:Op->Bool
 |.call {callee:=.value _,..}=>true
 |_=>false
def vX(i off n:Nat):List Rs:=(List.range n).map fun k=>(true,i,off+k)
def Ct(t:Nat):Operand->Bool
 |.tmp t'=>t'==t
 |_=>false
theorem J9{t:Nat}{x:Operand}(h:Ct t x=true):x=.tmp t:=by
 cases x<;>simp[Ct]at h
 rw[h]
def M0(GE:List (Nat×List PVal))(tmps:List PVal)(parts:List (Nat×Operand))(t:Nat)(q:PVal):List (Nat×PVal):=parts.map fun x=>(x.1,if Ct t x.2=true then q else opv GE tmps x.2)
def XJ(P:Program)(T:TypeId)(F:PVal->List (Nat×PVal))(k:Nat):Prop:=∀(b:Option Addr) (n m:Nat),∃cs,dX P T (F (.val (.slice b n m)))=some (.agg cs)/\cs[k]? =some (.val (.slice b n m))
inductive jG(P:Program)(GE:List (Nat×List PVal))(bi:Option (Nat×aB))(rw:List Nat)(o:Oper)(id:Nat)(s:aA):aA->List Rs->Prop where
 | call (d:Nat) (f:Operand) (args:Array Operand) (tys:Array TypeId) (g:FuncId) (first cap:List PVal) (r:PVal) (ro:List (Nat×TypeId)) (ho:o.op = .call { callee := .value f,args,argTypes:=tys }) (hd:o.dst = some d)
   (hf:opv GE s.tmps f=.func (.func g) first cap) (hcl:li 0 (first++args.toList.map (opv GE s.tmps)++cap)) (hc:C P GE g (first++args.toList.map (opv GE s.tmps)++cap) [] [] r ro []):
   jG P GE bi rw o id s ⟨s.tmps.set d r,s.boxes,(ro.map fun x=>((d,x.1),x.2))++bQ d s.own⟩ [(false,d,0)]
 |alloc (d:Nat) (t:TypeId) (zs:List PVal) (ho:o.op=.alloc t) (hd:o.dst=some d) (hz:gR P t=some zs):jG P GE bi rw o id s ⟨s.tmps.set d (.bptr id 0),s.boxes,bQ d s.own⟩ [(false,d,0)]
 |mkmap (d:Nat) (t:TypeId) (ho:o.op=.makeMap t none) (hd:o.dst=some d):jG P GE bi rw o id s ⟨s.tmps.set d (.mapr id),s.boxes,bQ d s.own⟩ [(false,d,0)]
 | ev (d:Nat) (p:PVal) (hd:o.dst = some d) (hn:Ka o.op = false) (hm:aG o.op = false) (hc:ch P o.op ≠ 3) (h:rJ P o.op id (opv GE s.tmps) s.boxes = some (p,s.boxes)) :
   jG P GE bi rw o id s ⟨s.tmps.set d p,s.boxes,bQ d s.own⟩ [(false,d,0)]
 | res (d:Nat) (p:PVal) (L:List (Nat×TypeId)) (hd:o.dst = some d)
   (h:(∃T len parts e,o.op=.buildSlice T len parts/\gQ P T len (parts.toList.map fun x=>(x.1,opv GE s.tmps x.2))=some p/\P.underlying T=some (.slice e)/\L=[(0,e)])\/
    (∃T parts,o.op=.build T parts/\dX P T (parts.toList.map fun x=>(x.1,opv GE s.tmps x.2))=some p/\DZ P T (parts.toList.map fun x=>(x.1,opv GE s.tmps x.2)) L)\/
    (∃v e,(o.op=.assign (.const v)\/o.op=.move (.const v))/\tD P o.type v=some e/\p=.slice []/\L=[(0,e)])):
   jG P GE bi rw o id s ⟨s.tmps.set d p,s.boxes,(L.map fun x=>((d,x.1),x.2))++bQ d s.own⟩ [(false,d,0)]
 | app (d t:Nat) (T e:TypeId) (y:Operand) (es ns:List (List PVal)) (p:PVal) (hd:o.dst = some d) (ho:o.op = .call { callee := .builtin .append,args:=⟨[.tmp t,y]⟩,argTypes:=⟨[T,T]⟩ })
   (hT:P.underlying T=some (.slice e)) (he:s.tmps.getD t .undef=.slice es) (hn:opv GE s.tmps y=.slice ns) (hp:nj P T es ns=some p) (hm:((t,0),e)∈s.own):
   jG P GE bi rw o id s ⟨s.tmps.set d p,s.boxes,((d,0),e)::bQ d (s.own.filter fun x=>x.1 !=(t,0))⟩ [(false,d,0),(false,t,0)]
 | mv (d t:Nat) (hd:o.dst = some d) (ho:o.op = .assign (.tmp t)∨o.op = .move (.tmp t)) (hdt:d ≠ t) :
   jG P GE bi rw o id s ⟨s.tmps.set d (s.tmps.getD t .undef),s.boxes,kw d (fun x=>if x.1=t then(d,x.2)else x) s.own⟩ [(false,d,0),(false,t,0)]
 | bmv (d t k:Nat) (T:TypeId) (parts:Array (Nat×Operand)) (p:PVal) (es:List (List PVal)) (hd:o.dst = some d) (ho:o.op = .build T parts) (hdt:d ≠ t) (ht:s.tmps.getD t .undef = .slice es) (hin:(parts.toList.any fun x => Ct t x.2) = true)
   (hp:dX P T (parts.toList.map fun x=>(x.1,opv GE s.tmps x.2))=some p) (hm:XJ P T (M0 GE s.tmps parts.toList t) k):
   jG P GE bi rw o id s ⟨s.tmps.set d p,s.boxes,kw d (fun x=>if x=(t,0)then(d,k)else x) s.own⟩ [(false,d,0),(false,t,0)]
 | ld (d:Nat) (T:TypeId) (x:Operand) (i off:Nat) (cs:List PVal) (own L:List (Nat×TypeId)) (p:PVal) (hd:o.dst = some d) (ho:o.op = .load T x) (hx:opv GE s.tmps x = .bptr i off) (hB:s.boxes[i]? = some (.cells cs own))
   (h:(∃e,P.underlying T=some (.slice e)/\cs[off]? =some p/\L=[(0,e)])\/(∃fs l,P.underlying T=some (.struct fs)/\bK P T (cs.drop off)=some (.agg l)/\p=.agg l/\(L.map (·.1)).Nodup/\∀y∈L,y.1<l.length))
   (hm:∀y∈L,(off+y.1,y.2)∈own):
   jG P GE bi rw o id s ⟨s.tmps.set d p,s.boxes.set i (.cells cs (own.filter fun x=>!L.any fun y=>x.1==off+y.1)),(L.map fun y=>((d,y.1),y.2)).reverse++bQ d s.own⟩ ((false,d,0)::L.map fun y=>(true,i,off+y.1))
 | st (T:TypeId) (x y:Operand) (i off:Nat) (vs cs:List PVal) (own:List (Nat×TypeId)) (hd:o.dst = none) (ho:o.op = .store T x y) (hx:opv GE s.tmps x = .bptr i off) (hvs:cN (opv GE s.tmps y) = some vs) (hB:s.boxes[i]? = some (.cells cs own))
   (hp:fl P T (.bptr i off) (opv GE s.tmps y) s.boxes=some (s.boxes.set i (.cells (cs.take off++vs++cs.drop (off+vs.length)) (own.filter fun y=>y.1<off||off+vs.length<=y.1)))):
   jG P GE bi rw o id s ⟨s.tmps,s.boxes.set i (.cells (cs.take off++vs++cs.drop (off+vs.length)) (own.filter fun y=>y.1<off||off+vs.length<=y.1)),s.own⟩ (vX i off vs.length)
 | sto (T:TypeId) (x:Operand) (t i off:Nat) (vs cs:List PVal) (own L:List (Nat×TypeId)) (hd:o.dst = none) (ho:o.op = .store T x (.tmp t)) (hx:opv GE s.tmps x = .bptr i off) (hvs:cN (s.tmps.getD t .undef) = some vs) (hB:s.boxes[i]? = some (.cells cs own))
   (hp:fl P T (.bptr i off) (s.tmps.getD t .undef) s.boxes=some (s.boxes.set i (.cells (cs.take off++vs++cs.drop (off+vs.length)) (own.filter fun y=>y.1<off||off+vs.length<=y.1))))
   (hk:(∃l,s.tmps.getD t .undef=.agg l)\/((s.tmps.getD t .undef).one=true/\∃e,L=[(0,e)])) (hm:∀y∈L,((t,y.1),y.2)∈s.own) (hn:(L.map (·.1)).Nodup) (hl:∀y∈L,y.1<vs.length):
   jG P GE bi rw o id s ⟨s.tmps,s.boxes.set i (.cells (cs.take off++vs++cs.drop (off+vs.length)) ((L.map fun y=>(off+y.1,y.2)).reverse++own.filter fun y=>y.1<off||off+vs.length<=y.1)),s.own.filter fun x=>!L.any fun y=>x.1==(t,y.1)⟩
    ((false,t,0)::vX i off vs.length)
 |mu (t:TypeId) (m k x:Operand) (H:List aB) (hd:o.dst=none) (ho:o.op=.mapUpdate t m k x) (hp:ja P t (opv GE s.tmps m) (opv GE s.tmps k) (opv GE s.tmps x) s.boxes=some H):jG P GE bi rw o id s ⟨s.tmps,H,s.own⟩ []
 | callR (d:Nat) (f:Operand) (args:Array Operand) (tys:Array TypeId) (r:PVal) (ro:List (Nat×TypeId)) (oa:List OA) (ho:o.op = .call { callee := .value f,args,argTypes:=tys }) (hd:o.dst = some d)
   (hg:∀st:aA,(∀x,x=f\/x∈args.toList->opv GE s.tmps x=opv GE st.tmps x)->(∀x∈oa,((x.t,x.k),x.e)∈s.own->((x.t,x.k),x.e)∈st.own)->Hk P GE f args.toList st r ro st.boxes oa):
   jG P GE bi rw o id s ⟨s.tmps.set d r,s.boxes,(ro.map fun x=>((d,x.1),x.2))++bQ d (s.own.filter fun z=>!oa.any fun x=>z.1==(x.t,x.k))⟩ ((false,d,0)::oa.map fun x=>(false,x.t,0))
 | cl (d i:Nat) (f x:Operand) (tys:Array TypeId) (g:FuncId) (e:TypeId) (es:List (List PVal)) (ho:o.op = .call { callee := .value f,args:=⟨[x]⟩,argTypes:=tys }) (hd:o.dst = some d) (hb:bi = some (i,.cells es.flatten []))
   (hf:opv GE s.tmps f=.func (.func g) [] []) (hx:opv GE s.tmps x=.slice es) (hC:sG P g e) (h0:0<P.cellsOf e) (h1:∀x∈es,x.length=P.cellsOf e/\∀q∈x,q.one=true) (h2:es.length<=fC):
   jG P GE bi rw o id s ⟨s.tmps.set d (.bsl i 0 es.length),s.boxes,bQ d s.own⟩ [(false,d,0)]
 | stR (T:TypeId) (x y:Operand) (i off:Nat) (cs cs':List PVal) (hd:o.dst = none) (ho:o.op = .store T x y) (hx:opv GE s.tmps x = .bptr i off) (hB:s.boxes[i]? = some (.cells cs []))
   (hp:fl P T (.bptr 0 off) (opv GE s.tmps y) [.cells cs []]=some [.cells cs' []]) (hi:2 * i∈rw):
   jG P GE bi rw o id s ⟨s.tmps,s.boxes.set i (.cells cs' []),s.own⟩ []
structure W5(P:Program)(rw:List Nat)(o:Oper)(s s':aA)(rs:List Rs):Prop where
 tm:match o.dst with
  |some d=>∃p,s'.tmps=s.tmps.set d p
  |none=>s'.tmps=s.tmps
 bx:bN P rw o≠3->s'.boxes.map a8=s.boxes.map a8
 back:∀τ,eh τ∉rs->jL s' τ->jL s τ
theorem KA{H:List aB}{i:Nat}{cs:List PVal}{own own':List (Nat×TypeId)}(hB:H[i]? =some (.cells cs own)):(H.set i (.cells cs own')).map a8=H.map a8:=by
 apply va6
 intro j
 simp only[vax]
 by_cases hj:i=j
 ·subst hj
  rw[vai (ak hB),hB];rfl
 ·rw[vap hj]
theorem cQ{st:aA}{t k:Nat}{e:TypeId}:jL st (false,(t,k),e)↔((t,k),e)∈st.own:=Iff.rfl
theorem eN{st:aA}{i j:Nat}{e:TypeId}:jL st (true,(i,j),e)↔∃cs own,st.boxes[i]? =some (.cells cs own)/\(j,e)∈own:=Iff.rfl
theorem sw{i off n i' j':Nat}:(true,i',j')∈vX i off n↔i'=i/\off<=j'/\j'<off+n:=by
 unfold vX
 simp only[vag,vbq,Prod.mk.injEq,vb7]
 constructor
 ·rintro⟨k,hk,rfl,rfl⟩;exact⟨rfl,by omega,by omega⟩
 ·rintro⟨rfl,h1,h2⟩;exact⟨j' - off,by omega,rfl,by omega⟩
theorem gw{d:Nat}{own:List ((Nat×Nat)×TypeId)}{x:(Nat×Nat)×TypeId}(h:x∈own)(hd:x.1.1≠d):x∈bQ d own:=by
 unfold bQ;exact va0.2 ⟨h,by simpa using hd⟩
theorem Ab{t:TypeId}{m k v:PVal}{H H':List aB}(h:ja P t m k v H=some H'):∃i es es',H[i]? =some (.map es)/\H'=H.set i (.map es'):=by
 unfold ja at h
 split at h
 ·rename_i kt e i _ _
  split at h
  ·rename_i es kd hB _
   split at h
   ·split at h
    ·cases h;exact⟨_,es,_,hB,rfl⟩
    ·cases h;exact⟨_,es,_,hB,rfl⟩
    ·cases h
   ·cases h
  ·cases h
 ·cases h
theorem iK{st:aA}{tm:List PVal}{ow:List ((Nat×Nat)×TypeId)}{i:Nat}{B:aB}{i' j':Nat}{e:TypeId}(hne:i≠i'):jL ⟨tm,st.boxes.set i B,ow⟩ (true,(i',j'),e)↔jL st (true,(i',j'),e):=by
 simp only[eN,vap hne]
theorem jG.eff{bi:Option (Nat×aB)}{rw:List Nat}{o:Oper}{id:Nat}{s s':aA}{rs:List Rs}(h:jG P GE bi rw o id s s' rs):W5 P rw o s s' rs:=by
 have slot:∀{d:Nat} {p:PVal} {L:List (Nat×TypeId)} {rs:List Rs} {τ:On},(false,d,0)∈rs->eh τ∉rs->jL ⟨s.tmps.set d p,s.boxes,(L.map fun x=>((d,x.1),x.2))++bQ d s.own⟩ τ->jL s τ:=by
  rintro d p L rs ⟨b,⟨t,k⟩,e⟩ hd hr hh
  cases b with
  |true=>exact hh
  | false =>
   rcases vaw.1 (cQ.1 hh)with hh|hh
   ·simp only[vag,Prod.mk.injEq]at hh
    obtain⟨x,_,⟨rfl,_⟩,_⟩:=hh
    exact absurd hd hr
   ·exact(dY hh).1
 have slot0:∀{d:Nat} {p:PVal} {rs:List Rs} {τ:On},(false,d,0)∈rs->eh τ∉rs->jL ⟨s.tmps.set d p,s.boxes,bQ d s.own⟩ τ->jL s τ:=fun{d p rs τ} hd hr hh=>slot (L:=[]) hd hr hh
 cases h with
 |call d f args tys g first cap r ro ho hd hf hcl hc=>exact⟨by rw[hd];exact⟨r,rfl⟩,fun _=>rfl,fun τ hr hh=>slot (by simp) hr hh⟩
 |alloc d t zs ho hd hz=>exact⟨by rw[hd];exact⟨_,rfl⟩,fun _=>rfl,fun τ hr hh=>slot0 (by simp) hr hh⟩
 |mkmap d t ho hd=>exact⟨by rw[hd];exact⟨_,rfl⟩,fun _=>rfl,fun τ hr hh=>slot0 (by simp) hr hh⟩
 |ev d p hd hn hm hc h=>exact⟨by rw[hd];exact⟨_,rfl⟩,fun _=>rfl,fun τ hr hh=>slot0 (by simp) hr hh⟩
 |res d p L hd h=>exact⟨by rw[hd];exact⟨_,rfl⟩,fun _=>rfl,fun τ hr hh=>slot (by simp) hr hh⟩
 | app d t T e y es ns p hd ho hT he hn hp hm =>
  refine⟨by rw[hd];exact⟨_,rfl⟩,fun _=>rfl,?_⟩
  rintro⟨b,⟨t',k⟩,e'⟩ hr hh
  cases b with
  |true=>exact hh
  | false =>
   rcases vaE.1 (cQ.1 hh)with hh|hh
   ·cases hh;exact absurd (by simp[eh]) hr
   ·exact(ck (dY hh).1).1
 | mv d t hd ho hdt =>
  refine⟨by rw[hd];exact⟨_,rfl⟩,fun _=>rfl,?_⟩
  rintro⟨b,⟨t',k⟩,e'⟩ hr hh
  cases b with
  |true=>exact hh
  | false =>
   have hh:=cQ.1 hh
   simp only[kw,vag]at hh
   obtain⟨⟨⟨t2,k2⟩,e2⟩,hx,he⟩:=hh
   simp only[Prod.mk.injEq]at he
   obtain⟨he,rfl⟩:=he
   split at he
   ·cases he;exact absurd (by simp[eh]) hr
   ·cases he;exact(dY hx).1
 | bmv d t k T parts p es hd ho hdt ht hin hp hm =>
  refine⟨by rw[hd];exact⟨_,rfl⟩,fun _=>rfl,?_⟩
  rintro⟨b,⟨t',k'⟩,e'⟩ hr hh
  cases b with
  |true=>exact hh
  | false =>
   have hh:=cQ.1 hh
   simp only[kw,vag]at hh
   obtain⟨⟨⟨t2,k2⟩,e2⟩,hx,he⟩:=hh
   simp only[Prod.mk.injEq]at he
   obtain⟨he,rfl⟩:=he
   split at he
   ·cases he;exact absurd (by simp[eh]) hr
   ·cases he;exact(dY hx).1
 | ld d T x i off cs own L p hd ho hx hB h hm =>
  refine⟨by rw[hd];exact⟨_,rfl⟩,fun _=>KA hB,?_⟩
  rintro⟨b,⟨t',k⟩,e'⟩ hr hh
  cases b with
  | true =>
   by_cases hi:i=t'
   ·subst hi
    obtain⟨cs',own',h1,h2⟩:=eN.1 hh
    simp only[vai (ak hB),vav,aB.cells.injEq]at h1
    obtain⟨rfl,rfl⟩:=h1
    exact⟨_,_,hB,(ck h2).1⟩
   ·exact(iK hi).1 hh
  | false =>
   rcases vaw.1 (cQ.1 hh)with hh|hh
   ·simp only[vby,vag,Prod.mk.injEq]at hh
    obtain⟨y,_,⟨rfl,_⟩,_⟩:=hh
    exact absurd (by simp[eh]) hr
   ·exact(dY hh).1
 | st T x y i off vs cs own hd ho hx hvs hB hp =>
  refine⟨by rw[hd],fun hc=>absurd (by simp[bN,ch,ho]) hc,?_⟩
  rintro⟨b,⟨t',k⟩,e'⟩ hr hh
  cases b with
  |false=>exact hh
  | true =>
   by_cases hi:i=t'
   ·subst hi
    obtain⟨cs',own',h1,h2⟩:=eN.1 hh
    simp only[vai (ak hB),vav,aB.cells.injEq]at h1
    obtain⟨rfl,rfl⟩:=h1
    exact⟨_,_,hB,(ck h2).1⟩
   ·exact(iK hi).1 hh
 | sto T x t i off vs cs own L hd ho hx hvs hB hp hk hm hn hl =>
  refine⟨by rw[hd],fun hc=>absurd (by simp[bN,ch,ho]) hc,?_⟩
  rintro⟨b,⟨t',k⟩,e'⟩ hr hh
  cases b with
  |false=>exact(ck (cQ.1 hh)).1
  | true =>
   by_cases hi:i=t'
   ·subst hi
    obtain⟨cs',own',h1,h2⟩:=eN.1 hh
    simp only[vai (ak hB),vav,aB.cells.injEq]at h1
    obtain⟨rfl,rfl⟩:=h1
    rcases vaw.1 h2 with h2|h2
    ·simp only[vby,vag,Prod.mk.injEq]at h2
     obtain⟨y,hy,rfl,_⟩:=h2
     refine absurd (vaQ _ (sw.2 ⟨rfl,?_,?_⟩)) hr
     ·simp
     ·have:=hl y hy;simp;omega
    ·exact⟨_,_,hB,(ck h2).1⟩
   ·exact(iK hi).1 hh
 | mu t m k x H hd ho hp =>
  refine⟨by rw[hd],fun hc=>absurd (by simp[bN,ch,ho]) hc,?_⟩
  obtain⟨i,es,es',hB,rfl⟩:=Ab hp
  rintro⟨b,⟨t',k⟩,e'⟩ hr hh
  cases b with
  |false=>exact hh
  | true =>
   by_cases hi:i=t'
   ·subst hi
    obtain⟨cs',own',h1,h2⟩:=eN.1 hh
    simp only[vai (ak hB),vav]at h1
    cases h1
   ·exact(iK hi).1 hh
 | callR d f args tys r ro oa ho hd hg =>
  refine⟨by rw[hd];exact⟨r,rfl⟩,fun _=>rfl,?_⟩
  rintro⟨b,⟨t',k⟩,e'⟩ hr hh
  cases b with
  |true=>exact hh
  | false =>
   rcases vaw.1 (cQ.1 hh)with hh|hh
   ·simp only[vag,Prod.mk.injEq]at hh
    obtain⟨x,_,⟨rfl,_⟩,_⟩:=hh
    exact absurd (by simp[eh]) hr
   ·exact(ck (dY hh).1).1
 |cl d i f x tys g e es ho hd hb hf hx hC h0 h1 h2=>exact⟨by rw[hd];exact⟨_,rfl⟩,fun _=>rfl,fun τ hr hh=>slot0 (by simp) hr hh⟩
 | stR T x y i off cs cs' hd ho hx hB hp hi =>
  refine⟨by rw[hd],fun hc=>absurd (by simp[bN,ch,ho]) hc,?_⟩
  rintro⟨b,⟨t',k⟩,e'⟩ hr hh
  cases b with
  |false=>exact hh
  | true =>
   by_cases hi':i=t'
   ·subst hi'
    obtain⟨cs1,qW,k1,k2⟩:=eN.1 hh
    simp only[vai (ak hB),vav,aB.cells.injEq]at k1
    obtain⟨rfl,rfl⟩:=k1
    cases k2
   ·exact(iK hi').1 hh
theorem Mr{H H2:List aB}(h:H2.map a8=H.map a8){i:Nat}{es:List (PVal×PVal)}(hi:H[i]? =some (.map es)):H2[i]? =some (.map es):=by
 have:=Mq h i
 rw[hi]at this
 cases hB:H2[i]? with
 |none=>rw[hB]at this;cases this
 |some B=>
  rw[hB]at this
  cases B<;>simp[a8]at this
  subst this
  rfl
theorem yn{H H2:List aB}(h:H2.map a8=H.map a8){i:Nat}{B B2:aB}(hB:a8 B2=a8 B):(H2.set i B2).map a8=(H.set i B).map a8:=by
 rw[List.map_set,List.map_set,h,hB]
theorem Jy{t:TypeId}{m k v:PVal}{H H' H2:List aB}(hs:H2.map a8=H.map a8)(h:ja P t m k v H=some H'):∃i es',m=.mapr i/\H'=H.set i (.map es')/\ja P t m k v H2=some (H2.set i (.map es')):=by
 unfold ja at h ⊢
 split at h
 ·split at h
  ·rename_i es kd hB hk
   split at h
   ·rename_i hkk
    split at h
    ·rename_i hf;cases h;refine⟨_,_,rfl,rfl,?_⟩;simp only[Mr hs hB,hk,vaq hkk,hf]
    ·rename_i hf;cases h;refine⟨_,_,rfl,rfl,?_⟩;simp only[Mr hs hB,hk,vaq hkk,hf]
    ·cases h
   ·cases h
  ·cases h
 ·cases h
structure QJ(P:Program)(bs:bw)(rw:List Nat)(o:Oper)(st st' s s':aA)(rs:List Rs):Prop where
 tm:match o.dst with
  |some d=>∃p,st'.tmps=st.tmps.set d p/\s'.tmps=s.tmps.set d p
  |none=>st'.tmps=st.tmps/\s'.tmps=s.tmps
 b1:bN P rw o≠3->st'.boxes.map a8=st.boxes.map a8
 b2:bN P rw o=3->st'.boxes.map a8=s'.boxes.map a8
 keep:∀τ,eh τ∉rs->(τ.1=true->2 * τ.2.1.1∉rw)->jL st τ->jL st' τ
 got:∀τ,eh τ∈rs->jL s' τ->jL st' τ
 un:∀i:Nat,bs[i]? =some none->st'.boxes[i]? =st.boxes[i]?
theorem FY{st:aA}{tm:List PVal}{d:Nat}{L:List (Nat×TypeId)}{rs:List Rs}{R:On->Prop}(hd:(false,d,0)∈rs)(τ:On)(hr:eh τ∉rs)(_:R τ)(h:jL st τ):jL ⟨tm,st.boxes,(L.map fun x=>((d,x.1),x.2))++bQ d st.own⟩ τ:=by
 obtain⟨b,⟨t,k⟩,e⟩:=τ
 cases b with
 |true=>exact h
 |false=>exact vaU _ (gw (cQ.1 h) fun hx=>by simp only at hx;subst hx;exact hr hd)
theorem Mt{st s:aA}{tm tm':List PVal}{d:Nat}{L:List (Nat×TypeId)}(τ:On)(hr:eh τ∈[(false,d,0)])(h:jL ⟨tm',s.boxes,(L.map fun x=>((d,x.1),x.2))++bQ d s.own⟩ τ):jL ⟨tm,st.boxes,(L.map fun x=>((d,x.1),x.2))++bQ d st.own⟩ τ:=by
 obtain⟨b,⟨t,k⟩,e⟩:=τ
 cases b with
 |true=>simp[eh]at hr
 | false =>
  rcases vaw.1 (cQ.1 h)with h|h
  ·exact va2 _ h
  ·have:=(dY h).2
   simp[eh]at hr
   exact absurd hr this
section
variable{E:qt}{Γ:aV}{bs:bw}{ow:Nat->Option l7}{w:World}{a:Act}{st:aA}
theorem D4{T:TypeId}{i off:Nat}{y:PVal}{vs cs:List PVal}{own:List (Nat×TypeId)}{H H':List aB}(hvs:cN y=some vs)(hB:H[i]? =some (.cells cs own))(hp:fl P T (.bptr i off) y H=some H'){H2:List aB}{own2:List (Nat×TypeId)}(hB2:H2[i]? =some (.cells cs own2)):fl P T (.bptr i off) y H2=some (H2.set i (.cells (cs.take off++vs++cs.drop (off+vs.length)) (own2.filter fun y=>y.1<off||off+vs.length<=y.1))):=by
 simp only[fl,hvs,hB]at hp
 simp only[fl,hvs,hB2]
 split at hp
 ·rename_i hc;rw[vaq hc]
 ·cases hp
theorem Oa{T:TypeId}{i off:Nat}{y:PVal}{cs cs':List PVal}{own2:List (Nat×TypeId)}{H:List aB}(hp:fl P T (.bptr 0 off) y [.cells cs []]=some [.cells cs' []])(hB:H[i]? =some (.cells cs own2)):∃own',fl P T (.bptr i off) y H=some (H.set i (.cells cs' own')):=by
 unfold fl at hp ⊢
 split at hp
 ·rename_i i' off' vs h1 h2
  cases h1
  simp only[List.getElem?_cons_zero]at hp
  simp only[h2,hB]
  split at hp
  ·rename_i hc
   rw[vaq hc]
   simp only[List.set_cons_zero,vav,vbA,aB.cells.injEq,vck]at hp
   obtain⟨rfl,_⟩:=hp
   exact⟨_,rfl⟩
  ·cases hp
 ·cases hp
theorem SR.fillBox{a:Array Value}(h:SR P E Γ bs ow w a st){i:Nat}(hid:bs[i]? =some none){cs:List PVal}(hB:st.boxes[i]? =some (.cells cs []))(xb:Option Nat)
  (hx:∀b,xb=some b->(∃cur t,w.heap[b]? =some (.cells cur t (0,0))/\cs.length<=cur.size/\∀(j:Nat) p v,cs[j]? =some p->cur[j]? =some v->VR Γ bs w p v)/\Γ b=none/\(E.T b\/E.w.heap.size<=b)/\∀i:Nat,bs[i]? ≠some (some b)):
  SR P E Γ (bs.set i xb) ow w a st:=by
 have hs:bs.Sub (bs.set i xb):=fun j b hb=>Ae hid hb
 have hlt:i<bs.length:=ak hid
 have hcase:∀{j b:Nat},(bs.set i xb)[j]? =some (some b)->(j=i/\xb=some b)\/(j≠i/\bs[j]? =some (some b)):=by
  intro j b hb
  by_cases hj:j=i
  ·subst hj
   rw[vai hlt]at hb
   exact .inl ⟨rfl,by simpa using hb⟩
  ·rw[vap (fun e=>hj e.symm)]at hb
   exact .inr ⟨hj,hb⟩
 exact{h with
  tm:=fun t p v hp hv=>(h.tm t p v hp hv).mono (.refl _ _) hs
  bl:=by simp[h.bl]
  bx:=fun j b B hb hB'=>by
   rcases hcase hb with⟨rfl,hb'⟩|⟨hj,hb'⟩
   ·obtain⟨⟨cur,t,k1,k2,k3⟩,k4,k5,k6⟩:=hx b hb'
    rw[hB]at hB'
    cases hB'
    exact⟨k4,(vad.1 k1).1,cur,t,k1,k2,fun j p v hp hv=>(k3 j p v hp hv).mono (.refl _ _) hs⟩
   ·obtain⟨h1,h2,h3⟩:=h.bx j b B hb' hB'
    exact⟨h1,h2,h3.mono (.refl _ _) hs rfl⟩
  inj:=fun j k b hj hk=>by
   rcases hcase hj with⟨rfl,hj'⟩|⟨_,hj'⟩<;>rcases hcase hk with⟨rfl,hk'⟩|⟨_,hk'⟩
   ·rfl
   ·exact absurd hk' ((hx b hj').2.2.2 k)
   ·exact absurd hj' ((hx b hk').2.2.2 j)
   ·exact h.inj j k b hj' hk'
  bn:=fun j b hb=>by
   rcases hcase hb with⟨rfl,hb'⟩|⟨_,hb'⟩
   ·exact(hx b hb').2.2.1
   ·exact h.bn j b hb'
  ob:=fun j k e cs' own b hB' hj hb=>by
   rcases hcase hb with⟨rfl,hb'⟩|⟨_,hb'⟩
   ·rw[hB]at hB'
    cases hB'
    simp at hj
   ·exact h.ob j k e cs' own b hB' hj hb'
  gl:=fun g cs hg=>(h.gl g cs hg).mono (.refl _ _) hs}
theorem NG{a:Array Value}(h:SR P E Γ bs ow w a st){i:Nat}(hid:bs[i]? =some none){ns:List (List PVal)}(hB:st.boxes[i]? =some (.cells ns.flatten [])){f:FuncId}{e:TypeId}{x:Value}(hC:sG P f e)(hx:VR Γ bs w (.slice ns) x)(hsz0:0<P.cellsOf e)(hns1:∀x∈ns,x.length=P.cellsOf e/\∀q∈x,q.one=true)(hlen:ns.length<=fC):Calls P f #[x] w fun r w'=>∃v' xb,r=.returned v'/\SR P E Γ (bs.set i xb) ow w' a st/\VR Γ (bs.set i xb) w' (.bsl i 0 ns.length) v':=by
 obtain⟨news,hnx,hnl,hn1,hnv⟩:=He hx hsz0 hns1
 refine(hC.2 w x ns.length news hnx hnl hn1 hlen).mono fun r w' hr=>?_
 obtain⟨v',rfl,hown,hb,hbd⟩:=hr
 obtain⟨hle,hS⟩:=zJ h hb hbd
 rcases hown.2 with⟨rfl,hn⟩|⟨g,cap,cur,rfl,hge,hheap,hnc,hcm,hcs,htake⟩
 ·have hns0:ns=[]:=vao hn
  subst hns0
  exact⟨_,none,rfl,hS.fillBox hid hB none (fun b hb=>by cases hb),.bsl _ _ _ _ _ (va5 _) (fun _=>rfl) (.inl rfl)⟩
 ·refine⟨_,some g,rfl,hS.fillBox hid hB (some g) (fun b hb'=>?_),?_⟩
  ·cases hb'
   refine⟨⟨cur,e,hheap,A9 hsz0 (fun x hx=>(hns1 x hx).1) fun i x k q hx hq=>?_⟩,?_,.inr (vaC h.step.size hge),fun i hi=>?_⟩
   ·obtain⟨u,k1,k2⟩:=hnv i x k q hx hq
    refine⟨u,?_,k2.mono hle (.refl _)⟩
    have hlt:=ak k1
    rw[<-htake,van (by omega)]at k1
    simpa using k1
   ·cases hg:Γ g with
    |none=>rfl
    |some m=>exact absurd (h.lt_of_ghost hg) (by omega)
   ·have:=(h.bx i g (st.boxes[i]'(by rw[<-h.bl];exact ak hi)) hi (by simp)).2.1
    omega
  ·exact .bsl _ _ _ _ _ hnc (fun h=>by cases h) (.inr ⟨g,rfl,vai (ak hid)⟩)
theorem Qk{es:List (List PVal)}{u:Value}(h:VR Γ bs w (.slice es) u):∃b n m,u=.slice b n m:=by
 cases h<;>exact⟨_,_,_,rfl⟩
theorem Ji(h:SR P E Γ bs ow w a.tmps st){o:Oper}{id d t k:Nat}{T:TypeId}{parts:Array (Nat×Operand)}{p:PVal}{es:List (List PVal)}{K:aA->Prop}(ho:o.op=.build T parts)(hdst:o.dst=some d)(hd:d<st.tmps.length)(hg:st.tmps.getD t .undef=.slice es)
  (hp:dX P T (parts.toList.map fun x=>(x.1,opv E.GE st.tmps x.2))=some p) (hm:XJ P T (M0 E.GE st.tmps parts.toList t) k)
  (hK:K ⟨st.tmps.set d p,st.boxes,kw d (fun x=>if x=(t,0)then(d,k)else x) st.own⟩) (Q:Exit->Act->World->Prop):
  o.wp P a w (g9 P E bs id (aG o.op) a.defers K) Q:=by
 have hρ:∀x,VR Γ bs w (opv E.GE st.tmps x) (a.eval x):=fun x=>h.opv a.defers x
 obtain⟨k1,k2⟩:=xg hρ parts.toList
 obtain⟨v,r1,r2⟩:=yb k1 k2 hp
 have hu:VR Γ bs w (.slice es) (a.eval (.tmp t)):=by
  have:=hρ (.tmp t)
  rwa[show opv E.GE st.tmps (.tmp t)=st.tmps.getD t .undef from rfl,hg]at this
 obtain⟨b,n,m,hu⟩:=Qk hu
 obtain⟨cs,hcs,hck⟩:=hm b n m
 have hρ2:∀x:Operand,VR Γ bs w (if Ct t x=true then .val (.slice b n m)else opv E.GE st.tmps x) (a.eval x):=fun x=>by
  split
  ·rename_i hx
   rw[J9 hx,hu]
   exact .val _
  ·exact hρ x
 obtain⟨l1,l2⟩:=xg (v:=fun x=>if Ct t x=true then .val (.slice b n m)else opv E.GE st.tmps x) hρ2 parts.toList
 obtain⟨v2,s1,s2⟩:=yb l1 l2 hcs
 rw[r1]at s1
 cases s1
 have hrun:(execOp a.eval o).run P w=.ok (.value v) w:=by
  have:(parts.map fun x=>(x.1,a.eval x.2))=(parts.toList.map fun x=>(x.1,a.eval x.2)).toArray:=by apply vbL;simp
  simp only[execOp,ho]
  rw[this]
  simp[r1]
 unfold Oper.wp
 rw[hrun,Oper.upon_value]
 have hpv:lz v k=some (.slice b n m):=by
  cases s2 with
  |agg _ vs hl hv=>
   have hlt:k<vs.size:=by rw[hl];exact ak hck
   have:=hv k _ vs[k] hck (by simp[hlt])
   show vs[k]? =_
   rw[vaI hlt]
   generalize vs[k]=q at this
   cases this
   rfl
 have:=h.setRen (d:=d) (p:=p) r2 (fun x=>if x=(t,0)then(d,k)else x) (by rw[h.sz];exact hd) fun t' k' e' _ ht'=>by
  by_cases hx:((t',k'):Nat×Nat)=(t,0)
  ·cases hx
   refine .inr ⟨k,by simp,fun u v' hu' hv' _=>?_⟩
   rw[fo hu']at hu
   subst hu
   have:v'=.slice b n m:=by
    simp only[lz,if_true,vav]at hv'
    exact hv'.symm
   rw[this];exact hpv
  ·exact .inl (vat hx)
 have hput:∀v,(a.put o.dst v).tmps=a.tmps.setIfInBounds d v:=fun v=>by rw[hdst];rfl
 rw[<-hput]at this
 exact⟨bR _ _ _,Γ,bs,_,_,this,hK,.inl rfl⟩
theorem jG.sound(h:SR P E Γ bs ow w a.tmps st){bi:Option (Nat×aB)}{rw:List Nat}{o:Oper}{id:Nat}{s s':aA}{rs:List Rs}(hs:jG P E.GE bi rw o id s s' rs)(hid:aG o.op=true->bs[id]? =some none/\st.boxes[id]? =nG P o)(hbi:∀i B,bi=some (i,B)->bs[i]? =some none/\st.boxes[i]? =some B)
    (hopv:∀x∈o.op.operands.toList,opv E.GE s.tmps x=opv E.GE st.tmps x) (hbx:2<=bN P rw o->st.boxes.map a8=s.boxes.map a8) (htok:∀τ,eh τ∈rs->jL s τ->jL st τ) (hdd:∀d,o.dst=some d->d<st.tmps.length)
    (Q:Exit->Act->World->Prop):
    o.wp P a w (fun a' w'=>a'.defers=a.defers/\∃Γ' bs' ow' st',SR P E Γ' bs' ow' w' a'.tmps st'/\QJ P bs rw o st st' s s' rs/\(bs'=bs\/(aG o.op=true/\∃b,bs'=bs.set id (some b))\/∃i B x,bi=some (i,B)/\bs'=bs.set i x)) Q:=by
  have fin:∀{st'},QJ P bs rw o st st' s s' rs->o.wp P a w (g9 P E bs id (aG o.op) a.defers (·=st')) Q->o.wp P a w (fun a' w'=>a'.defers=a.defers/\∃Γ' bs' ow' st',SR P E Γ' bs' ow' w' a'.tmps st'/\QJ P bs rw o st st' s s' rs/\(bs'=bs\/(aG o.op=true/\∃b,bs'=bs.set id (some b))\/∃i B x,bi=some (i,B)/\bs'=bs.set i x)) Q:=by
    intro st' hD hw
    refine Oper.wp_mono (fun a' w' hA=>?_) hw
    obtain⟨h1,Γ',bs',ow',st2,h2,rfl,h3⟩:=hA
    exact⟨h1,Γ',bs',ow',_,h2,hD,h3.imp_right .inl⟩
  have hid':aG o.op=true->bs[id]? =some none:=fun hm=>(hid hm).1
  have live:∀{x:Operand} {i off:Nat},opv E.GE st.tmps x=.bptr i off->∃b,bs[i]? =some (some b):=by
    intro x i off hx
    have hv:=h.opv a.defers x
    rw[hx]at hv
    generalize (Act.mk a.tmps a.defers).eval x=vx at hv
    cases hv with
    |bptr _ _ b hb=>exact⟨b,hb⟩
  cases hs with
  | call d f args tys g first cap r ro ho hd hf hcl hc =>
    have hop:∀x,x=f\/x∈args.toList->opv E.GE s.tmps x=opv E.GE st.tmps x:=fun x hx=>hopv x (by rw[ho];simp[Op.operands,Call.operands];simpa using hx)
    have hargs:args.toList.map (opv E.GE s.tmps)=args.toList.map (opv E.GE st.tmps):=vbc fun x hx=>hop x (.inr hx)
    rw[hargs]at hcl hc
    rw[hop f (.inl rfl)]at hf
    refine fin (st':=⟨st.tmps.set d r,st.boxes,(ro.map fun x=>((d,x.1),x.2))++bQ d st.own⟩) ⟨by rw[hd];exact⟨r,rfl,rfl⟩,fun _=>rfl,fun hc=>hbx (by rw[hc];decide),FY (by simp),Mt,fun _ _=>rfl⟩ ?_
    refine g9.of h hid' (by simp[nF,ho,hd,hdd d hd]) ?_ Q
    unfold Jw
    rw[ho]
    simp only[CE,hf]
    refine .inl ⟨hcl,r,ro,hc,?_⟩
    rw[hd];rfl
  | alloc d t zs ho hd hz =>
    have hpre:=(hid (by rw[ho];rfl)).2
    simp only[nG,ho,hz]at hpre
    refine fin (st':=⟨st.tmps.set d (.bptr id 0),st.boxes,bQ d st.own⟩) ⟨by rw[hd];exact⟨_,rfl,rfl⟩,fun _=>rfl,fun hc=>by simp[bN,ch,ho]at hc,FY (L:=[]) (by simp),Mt (L:=[]),fun _ _=>rfl⟩ ?_
    refine g9.of h hid' (by simp[nF,ho]) ?_ Q
    unfold Jw
    rw[ho]
    simp only[rJ,hz,vah,D9 hpre]
    rw[hd];rfl
  | mkmap d t ho hd =>
    have hpre:=(hid (by rw[ho];rfl)).2
    simp only[nG,ho]at hpre
    refine fin (st':=⟨st.tmps.set d (.mapr id),st.boxes,bQ d st.own⟩) ⟨by rw[hd];exact⟨_,rfl,rfl⟩,fun _=>rfl,fun hc=>by simp[bN,ch,ho]at hc,FY (L:=[]) (by simp),Mt (L:=[]),fun _ _=>rfl⟩ ?_
    refine g9.of h hid' (by simp[nF,ho]) ?_ Q
    unfold Jw
    rw[ho]
    simp only[rJ,D9 hpre]
    rw[hd];rfl
  | ev d p hd hn hm hc hp =>
    have hnc:∀f args tys,o.op≠.call {callee:=.value f,args,argTypes:=tys}:=fun f args tys e=>by rw[e]at hn;cases hn
    rw[Dl hnc]at hbx
    have hp2:=UZ (H2:=st.boxes) hc hm hp fun h2=>hbx h2
    rw[Sm hopv]at hp2
    refine fin (st':=⟨st.tmps.set d p,st.boxes,bQ d st.own⟩) ⟨by rw[hd];exact⟨_,rfl,rfl⟩,fun _=>rfl,fun hc'=>by rw[Dl hnc]at hc';exact absurd hc' hc,FY (L:=[]) (by simp),Mt (L:=[]),fun _ _=>rfl⟩ ?_
    refine g9.of h hid' ?_ ?_ Q
    · unfold nF
      split
      ·rename_i f args tys ho;exact absurd ho (hnc _ _ _)
      ·rfl
    · unfold Jw
      split
      ·rename_i f args tys ho;exact absurd ho (hnc _ _ _)
      · rw [hp2]
        show wF st o.dst p [] st.boxes=_
        rw[hd];rfl
  | res d p L hd hh =>
    have hcl:bN P rw o≠3:=by
      rcases hh with⟨T,len,parts,e,ho,_⟩|⟨T,parts,ho,_⟩|⟨v,e,ho|ho,_⟩<;>simp[bN,ch,ho]
    refine fin (st':=⟨st.tmps.set d p,st.boxes,(L.map fun x=>((d,x.1),x.2))++bQ d st.own⟩) ⟨by rw[hd];exact⟨_,rfl,rfl⟩,fun _=>rfl,fun hc=>absurd hc hcl,FY (by simp),Mt,fun _ _=>rfl⟩ ?_
    rcases hh with⟨T,len,parts,e,ho,h1,h2,rfl⟩|⟨T,parts,ho,h1,h2⟩|⟨v,e,ho,h1,rfl,rfl⟩
    · have hpt:(parts.toList.map fun x => (x.1,opv E.GE s.tmps x.2)) = parts.toList.map fun x => (x.1,opv E.GE st.tmps x.2):=vbc fun x hx => by rw [hopv x.2 (by rw [ho]; simp only [Op.operands]; exact vag.2 ⟨x,hx,rfl⟩)]
      rw[hpt]at h1
      exact wM (K:=(·=_)) h ho hd (hdd d hd) h2 h1 rfl Q
    · have hpt:(parts.toList.map fun x => (x.1,opv E.GE s.tmps x.2)) = parts.toList.map fun x => (x.1,opv E.GE st.tmps x.2):=vbc fun x hx => by rw [hopv x.2 (by rw [ho]; simp only [Op.operands]; exact vag.2 ⟨x,hx,rfl⟩)]
      rw[hpt]at h1 h2
      exact zH (K:=(·=_)) h ho hd (hdd d hd) h1 h2 rfl Q
    ·exact E7 (K:=(·=_)) h ho hd (hdd d hd) h1 rfl Q
  | app d t T e y es ns p hd ho hT he hn hp hm =>
    have hop:∀x,x=.tmp t\/x=y->opv E.GE s.tmps x=opv E.GE st.tmps x:=fun x hx=>hopv x (by rw[ho];simp[Op.operands,Call.operands];rcases hx with rfl|rfl<;>simp)
    have he':st.tmps.getD t .undef=.slice es:=(hop (.tmp t) (.inl rfl)).symm.trans he
    rw[hop y (.inr rfl)]at hn
    have hm':((t,0),e)∈st.own:=htok (false,(t,0),e) (by simp[eh]) hm
    refine fin (st':=⟨st.tmps.set d p,st.boxes,((d,0),e)::bQ d (st.own.filter fun x=>x.1 !=(t,0))⟩) ⟨by rw[hd];exact⟨_,rfl,rfl⟩,fun _=>rfl,fun hc=>by simp[bN,ch,ho]at hc,?_,?_,fun _ _=>rfl⟩ (Dj (K:=(·=_)) h ho hd (hdd d hd) hT he' hn hp hm' rfl Q)
    · rintro ⟨b,⟨t',k⟩,e'⟩ hr _ hh
      cases b with
      |true=>exact hh
      | false =>
        simp[eh]at hr
        refine vaQ _ (gw (va0.2 ⟨cQ.1 hh,?_⟩) hr.1)
        simp only[bne_iff_ne,ne_eq,Prod.mk.injEq,not_and]
        exact fun e=>absurd e hr.2
    · rintro ⟨b,⟨t',k⟩,e'⟩ hr hh
      cases b with
      |true=>simp[eh]at hr
      | false =>
        rcases vaE.1 (cQ.1 hh)with hh|hh
        ·rw[hh];exact vb9
        · obtain ⟨h1,h2⟩:=dY hh
          obtain⟨h3,h4⟩:=ck h1
          have h5:((t',k),e')∈st.own:=htok (false,(t',k),e') hr h3
          exact vaQ _ (gw (va0.2 ⟨h5,h4⟩) h2)
  | mv d t hd ho hdt =>
    have hg:s.tmps.getD t .undef=st.tmps.getD t .undef:=hopv (.tmp t) (by rcases ho with ho|ho<;>rw[ho]<;>simp[Op.operands])
    have hcl:bN P rw o≠3:=by rcases ho with ho|ho<;>simp[bN,ch,ho]
    refine fin (st':=⟨st.tmps.set d (st.tmps.getD t .undef),st.boxes,kw d (fun x=>if x.1=t then(d,x.2)else x) st.own⟩) ⟨by rw[hd];exact⟨_,rfl,by rw[hg]⟩,fun _=>rfl,fun hc=>absurd hc hcl,?_,?_,fun _ _=>rfl⟩ (Cw (K:=(·=_)) h ho hd (hdd d hd) rfl Q)
    · rintro ⟨b,⟨t',k⟩,e'⟩ hr _ hh
      cases b with
      |true=>exact hh
      | false =>
        simp[eh]at hr
        refine vag.2 ⟨((t',k),e'),gw (cQ.1 hh) hr.1,?_⟩
        simp only
        rw[vat hr.2]
    · rintro ⟨b,⟨t',k⟩,e'⟩ hr hh
      cases b with
      |true=>simp[eh]at hr
      | false =>
        obtain⟨⟨⟨t2,k2⟩,e2⟩,hx,he⟩:=vag.1 (cQ.1 hh)
        simp only[Prod.mk.injEq]at he
        obtain⟨he,rfl⟩:=he
        obtain⟨h1,h2⟩:=dY hx
        by_cases ht:t2=t
        · subst ht
          rw[vaq rfl]at he
          cases he
          have h5:((t2,k),e2)∈st.own:=htok (false,(t2,k),e2) (by simp[eh]) h1
          exact vag.2 ⟨((t2,k),e2),gw h5 h2,by simp⟩
        · rw [vat ht] at he
          cases he
          simp[eh]at hr
          rcases hr with hr|hr
          ·exact absurd hr h2
          ·exact absurd hr ht
  | bmv d t k T parts p es hd ho hdt ht hin hp hm =>
    have hin2:Operand.tmp t∈o.op.operands.toList:=by
      obtain⟨x,hx,hx2⟩:=vbt.1 hin
      rw[ho];simp only[Op.operands]
      exact vag.2 ⟨x,hx,J9 hx2⟩
    have hpar:∀x∈parts.toList,opv E.GE s.tmps x.2=opv E.GE st.tmps x.2:=fun x hx=>hopv x.2 (by rw[ho];simp only[Op.operands];exact vag.2 ⟨x,hx,rfl⟩)
    have hpt:(parts.toList.map fun x=>(x.1,opv E.GE s.tmps x.2))=parts.toList.map fun x=>(x.1,opv E.GE st.tmps x.2):=vbc fun x hx=>by rw[hpar x hx]
    have hpw:M0 E.GE s.tmps parts.toList t=M0 E.GE st.tmps parts.toList t:=by
      funext q
      exact vbc fun x hx=>by rw[hpar x hx]
    rw[hpt]at hp
    rw[hpw]at hm
    have hg:st.tmps.getD t .undef=.slice es:=(hopv (.tmp t) hin2).symm.trans ht
    have hcl:bN P rw o≠3:=by simp[bN,ch,ho]
    refine fin (st':=⟨st.tmps.set d p,st.boxes,kw d (fun x=>if x=(t,0)then(d,k)else x) st.own⟩) ⟨by rw[hd];exact⟨_,rfl,rfl⟩,fun _=>rfl,fun hc=>absurd hc hcl,?_,?_,fun _ _=>rfl⟩ (Ji (K:=(·=_)) h ho hd (hdd d hd) hg hp hm rfl Q)
    · rintro ⟨b,⟨t',k'⟩,e'⟩ hr _ hh
      cases b with
      |true=>exact hh
      | false =>
        simp[eh]at hr
        refine vag.2 ⟨((t',k'),e'),gw (cQ.1 hh) hr.1,?_⟩
        simp only
        rw[vat (fun e=>hr.2 (va9 Prod.fst e))]
    · rintro ⟨b,⟨t',k'⟩,e'⟩ hr hh
      cases b with
      |true=>simp[eh]at hr
      | false =>
        obtain⟨⟨⟨t2,k2⟩,e2⟩,hx,he⟩:=vag.1 (cQ.1 hh)
        have h6:e2=e':=va9 Prod.snd he
        subst h6
        have he1:(if((t2,k2):Nat×Nat)=(t,0)then(d,k)else(t2,k2))=(t',k'):=va9 Prod.fst he
        obtain⟨h1,h2⟩:=dY hx
        by_cases ht2:((t2,k2):Nat×Nat)=(t,0)
        · have h5:((t2,k2),e2) ∈ st.own:=htok (false,(t2,k2),e2) (by cases ht2; simp [eh]) h1
          exact vag.2 ⟨((t2,k2),e2),gw h5 h2,he⟩
        · rw [vat ht2] at he1
          cases he1
          simp[eh]at hr
          rcases hr with hr|hr
          ·exact absurd hr h2
          · subst hr
            have h5:((t',k'),e2)∈st.own:=htok (false,(t',k'),e2) (by simp[eh]) h1
            exact vag.2 ⟨((t',k'),e2),gw h5 h2,he⟩
  | ld d T x i off cs own L p hd ho hx hB hh hm =>
    have hx':opv E.GE st.tmps x=.bptr i off:=(hopv x (by rw[ho];simp[Op.operands])).symm.trans hx
    obtain⟨bb,hbb⟩:=live hx'
    obtain⟨own2,hB2⟩:=xW (hbx (by simp[bN,ch,ho])) hB
    have hm2:∀y∈L,(off+y.1,y.2)∈own2:=fun y hy=>by
      obtain⟨cs',own',e1,e2⟩:=eN.1 (htok (true,(i,off+y.1),y.2) (vaQ _ (vag.2 ⟨y,hy,rfl⟩)) ⟨cs,own,hB,hm y hy⟩)
      rw[hB2]at e1;cases e1;exact e2
    refine fin (st':=⟨st.tmps.set d p,st.boxes.set i (.cells cs (own2.filter fun x=>!L.any fun y=>x.1==off+y.1)),(L.map fun y=>((d,y.1),y.2)).reverse++bQ d st.own⟩)
      ⟨by rw[hd];exact⟨_,rfl,rfl⟩,fun _=>KA hB2,fun hc=>by simp[bN,ch,ho]at hc,?_,?_,fun k hk=>by rw[vap (fun e=>by subst e;rw[hbb]at hk;cases hk)]⟩ ?_
    · rintro ⟨b,⟨t',k⟩,e'⟩ hr _ hh
      cases b with
      |false=>exact vaU _ (gw (cQ.1 hh) fun hx=>hr (by simp only at hx;subst hx;simp[eh]))
      | true =>
        by_cases hi:i=t'
        · subst hi
          obtain⟨cs',own',e1,e2⟩:=eN.1 hh
          rw[hB2]at e1;cases e1
          refine⟨_,_,vai (ak hB2),va0.2 ⟨e2,?_⟩⟩
          simp only[vaT,vbd,vaW]
          intro y hy e
          exact hr (vaQ _ (vag.2 ⟨y,hy,by simp[eh,e]⟩))
        ·exact(iK hi).2 hh
    · rintro ⟨b,⟨t',k⟩,e'⟩ hr hh
      cases b with
      | false =>
        rcases vaw.1 (cQ.1 hh)with hh|hh
        ·exact va2 _ hh
        · have h2:=(dY hh).2
          simp[eh]at hr
          exact absurd hr h2
      | true =>
        exfalso
        have hr2:(true,t',k)∈L.map fun y=>(true,i,off+y.1):=by simpa[eh]using hr
        obtain⟨y,hy,e⟩:=vag.1 hr2
        simp only[Prod.mk.injEq,vb7]at e
        obtain⟨rfl,rfl⟩:=e
        obtain⟨cs',own',e1,e2⟩:=eN.1 hh
        simp only[vai (ak hB),vav,aB.cells.injEq]at e1
        obtain⟨rfl,rfl⟩:=e1
        have:=(ck e2).2
        simp only[vaT,vbd,vaW]at this
        exact this y hy rfl
    · rcases hh with ⟨e,hT,hp,rfl⟩ | ⟨fs,l,hT,hp,rfl,hn,hl⟩
      · refine BO (K:=(· = _)) h ho hd (hdd d hd) hT hx' hB2 hp (hm2 _ (vcl _)) ?_ Q
        simp only[var,vbP,vcF,List.reverse_nil,vbj,List.singleton_append,aA.mk.injEq,vb7,vck]
        congr 3
        funext z
        simp[bne]
      · refine CH h (K:=(· = _)) ?_ Q
        unfold IB
        simp only[ho,hd]
        exact⟨i,off,cs,own2,L,l,⟨fs,hT⟩,hx',hB2,hp,hm2,hn,hl,hdd d hd,rfl⟩
  | st T x y i off vs cs own hd ho hx hvs hB hp =>
    have hx':opv E.GE st.tmps x=.bptr i off:=(hopv x (by rw[ho];simp[Op.operands])).symm.trans hx
    have hy':opv E.GE s.tmps y=opv E.GE st.tmps y:=hopv y (by rw[ho];simp[Op.operands])
    rw[hy']at hvs hp
    obtain⟨bb,hbb⟩:=live hx'
    have hst:=hbx (by simp[bN,ch,ho])
    obtain⟨own2,hB2⟩:=xW hst hB
    have hp2:=D4 hvs hB hp hB2
    refine fin (st':=⟨st.tmps,st.boxes.set i (.cells (cs.take off++vs++cs.drop (off+vs.length)) (own2.filter fun y=>y.1<off||off+vs.length<=y.1)),st.own⟩)
      ⟨by rw[hd];exact⟨rfl,rfl⟩,fun hc=>absurd (by simp[bN,ch,ho]) hc,fun _=>yn hst rfl,?_,?_,fun k hk=>by rw[vap (fun e=>by subst e;rw[hbb]at hk;cases hk)]⟩ ?_
    · rintro ⟨b,⟨t',k⟩,e'⟩ hr _ hh
      cases b with
      |false=>exact hh
      | true =>
        by_cases hi:i=t'
        · subst hi
          obtain⟨cs',own',e1,e2⟩:=eN.1 hh
          rw[hB2]at e1;cases e1
          refine⟨_,_,vai (ak hB2),va0.2 ⟨e2,?_⟩⟩
          simp only[vaY,vak]
          by_cases h1:k<off
          ·exact .inl h1
          ·exact .inr (vbZ fun h2=>hr (sw.2 ⟨rfl,by simp only;omega,by simp only;omega⟩))
        ·exact(iK hi).2 hh
    · rintro ⟨b,⟨t',k⟩,e'⟩ hr hh
      cases b with
      |false=>simp[eh,vX]at hr
      | true =>
        exfalso
        obtain⟨rfl,h1,h2⟩:=sw.1 hr
        obtain⟨cs',own',e1,e2⟩:=eN.1 hh
        simp only[vai (ak hB),vav,aB.cells.injEq]at e1
        obtain⟨rfl,rfl⟩:=e1
        have:=(ck e2).2
        simp only[vaY,vak]at this
        simp only at h1 h2
        omega
    · refine g9.of h hid' (by simp [nF,ho]) ?_ Q
      unfold Jw
      rw[ho]
      simp only[rJ,hx',hp2,vah]
      rw[hd];rfl
  | sto T x t i off vs cs own L hd ho hx hvs hB hp hk hm hn hl =>
    have hx':opv E.GE st.tmps x=.bptr i off:=(hopv x (by rw[ho];simp[Op.operands])).symm.trans hx
    have hy':s.tmps.getD t .undef=st.tmps.getD t .undef:=hopv (.tmp t) (by rw[ho];simp[Op.operands])
    rw[hy']at hvs hp hk
    obtain⟨bb,hbb⟩:=live hx'
    have hst:=hbx (by simp[bN,ch,ho])
    obtain⟨own2,hB2⟩:=xW hst hB
    have hp2:=D4 hvs hB hp hB2
    have hm2:∀y∈L,((t,y.1),y.2)∈st.own:=fun y hy=>htok (false,(t,y.1),y.2) (by simp[eh]) (hm y hy)
    have hset:=vai (a:=aB.cells (cs.take off++vs++cs.drop (off+vs.length)) (own2.filter fun y=>y.1<off||off+vs.length<=y.1)) (ak hB2)
    refine fin (st':=⟨st.tmps,st.boxes.set i (.cells (cs.take off++vs++cs.drop (off+vs.length)) ((L.map fun y=>(off+y.1,y.2)).reverse++own2.filter fun y=>y.1<off||off+vs.length<=y.1)),st.own.filter fun x=>!L.any fun y=>x.1==(t,y.1)⟩)
      ⟨by rw[hd];exact⟨rfl,rfl⟩,fun hc=>absurd (by simp[bN,ch,ho]) hc,fun _=>yn hst rfl,?_,?_,fun k hk=>by rw[vap (fun e=>by subst e;rw[hbb]at hk;cases hk)]⟩ ?_
    · rintro ⟨b,⟨t',k⟩,e'⟩ hr _ hh
      cases b with
      | false =>
        refine va0.2 ⟨cQ.1 hh,?_⟩
        simp only[vaT,vbd,vaW,Prod.mk.injEq,not_and]
        intro y hy e
        exact absurd (by simp[eh,e]) hr
      | true =>
        by_cases hi:i=t'
        · subst hi
          obtain⟨cs',own',e1,e2⟩:=eN.1 hh
          rw[hB2]at e1;cases e1
          refine⟨_,_,vai (ak hB2),vaU _ (va0.2 ⟨e2,?_⟩)⟩
          simp only[vaY,vak]
          by_cases h1:k<off
          ·exact .inl h1
          ·exact .inr (vbZ fun h2=>hr (vaQ _ (sw.2 ⟨rfl,by simp only;omega,by simp only;omega⟩)))
        ·exact(iK hi).2 hh
    · rintro ⟨b,⟨t',k⟩,e'⟩ hr hh
      cases b with
      | false =>
        obtain⟨h1,h2⟩:=ck (cQ.1 hh)
        exact va0.2 ⟨htok (false,(t',k),e') hr h1,h2⟩
      | true =>
        have hr2:(true,t',k)∈vX i off vs.length:=by simpa[eh]using hr
        obtain⟨rfl,h1,h2⟩:=sw.1 hr2
        obtain⟨cs',own',e1,e2⟩:=eN.1 hh
        simp only[vai (ak hB),vav,aB.cells.injEq]at e1
        obtain⟨rfl,rfl⟩:=e1
        rcases vaw.1 e2 with e2|e2
        ·exact⟨_,_,vai (ak hB2),va2 _ e2⟩
        · exfalso
          have:=(ck e2).2
          simp only[vaY,vak]at this
          omega
    · rcases hk with ⟨l,hl⟩ | ⟨hone,e,rfl⟩
      · refine CH h (K:=(· = _)) ?_ Q
        unfold IB
        simp only[ho,hd]
        refine⟨i,off,_,_,_,L,l,hx',hl,by rw[<-hl];exact hp2,hset,hm2,hn,?_⟩
        rw[vbY]
      · refine Ag (K:=(· = _)) h ho hx' (by rw [hx']; exact hp2) hset hone (hm2 _ (vcl _)) ?_ Q
        rw[hd,vbY]
        simp only[wF,var,vbP,vcF,List.reverse_nil,vbj,List.singleton_append,aA.mk.injEq,vb7,Nat.add_zero]
        congr 1
        funext z
        simp[bne]
  | mu t m k x H hd ho hp =>
    have hst:=hbx (by simp[bN,ch,ho])
    have o1:opv E.GE s.tmps m=opv E.GE st.tmps m:=hopv m (by rw[ho];simp[Op.operands])
    have o2:opv E.GE s.tmps k=opv E.GE st.tmps k:=hopv k (by rw[ho];simp[Op.operands])
    have o3:opv E.GE s.tmps x=opv E.GE st.tmps x:=hopv x (by rw[ho];simp[Op.operands])
    rw[o1,o2,o3]at hp
    obtain⟨i,es',hmi,rfl,hp2⟩:=Jy hst hp
    have hlive:∃b,bs[i]? =some (some b):=by
      have hv:=h.opv a.defers m
      rw[hmi]at hv
      generalize (Act.mk a.tmps a.defers).eval m=vx at hv
      cases hv with
      |mapr _ b hb=>exact⟨b,hb⟩
    obtain⟨bb,hbb⟩:=hlive
    obtain⟨i2,es,es2,hB,he2⟩:=Ab hp2
    refine fin (st':=⟨st.tmps,st.boxes.set i (.map es'),st.own⟩) ⟨by rw[hd];exact⟨rfl,rfl⟩,fun hc=>absurd (by simp[bN,ch,ho]) hc,fun _=>yn hst rfl,?_,?_,fun k hk=>by rw[vap (fun e=>by subst e;rw[hbb]at hk;cases hk)]⟩ ?_
    · rintro ⟨b,⟨t',k'⟩,e'⟩ hr _ hh
      cases b with
      |false=>exact hh
      | true =>
        obtain⟨cs',own',e1,e2⟩:=eN.1 hh
        have hne:i2≠t':=fun e=>by subst e;rw[hB]at e1;cases e1
        rw[he2]
        exact(iK hne).2 hh
    · intro τ hr
      simp at hr
    · refine g9.of h hid' (by simp [nF,ho]) ?_ Q
      unfold Jw
      rw[ho]
      simp only[rJ,hp2,vah]
      rw[hd];rfl
  | callR d f args tys r ro oa ho hd hg =>
    have hop:∀x,x=f\/x∈args.toList->opv E.GE s.tmps x=opv E.GE st.tmps x:=fun x hx=>hopv x (by rw[ho];simp[Op.operands,Call.operands];simpa using hx)
    have hown:∀x∈oa,((x.t,x.k),x.e)∈s.own->((x.t,x.k),x.e)∈st.own:=fun x hx hm=>htok (false,(x.t,x.k),x.e) (vaQ _ (vag.2 ⟨x,hx,rfl⟩)) hm
    refine fin (st':=⟨st.tmps.set d r,st.boxes,(ro.map fun x=>((d,x.1),x.2))++bQ d (st.own.filter fun z=>!oa.any fun x=>z.1==(x.t,x.k))⟩) ⟨by rw[hd];exact⟨_,rfl,rfl⟩,fun _=>rfl,fun hc=>hbx (by rw[hc];decide),?_,?_,fun _ _=>rfl⟩ (zP (K:=(·=_)) h ho hd (hdd d hd) (hg st hop hown) rfl Q)
    · rintro ⟨b,⟨t',k⟩,e'⟩ hr _ hh
      cases b with
      |true=>exact hh
      | false =>
        simp only[eh,vaE,Prod.mk.injEq,vb7,vck,vag,not_or,not_exists,not_and]at hr
        refine vaU _ (gw (va0.2 ⟨cQ.1 hh,?_⟩) hr.1)
        simp only[vaT,vbd,vaW,Prod.mk.injEq,not_and]
        exact fun x hx e=>absurd e.symm (hr.2 x hx)
    · rintro ⟨b,⟨t',k⟩,e'⟩ hr hh
      cases b with
      |true=>simp[eh]at hr
      | false =>
        rcases vaw.1 (cQ.1 hh)with hh|hh
        ·exact va2 _ hh
        · obtain ⟨h1,h2⟩:=dY hh
          obtain⟨h3,h4⟩:=ck h1
          have h5:((t',k),e')∈st.own:=htok (false,(t',k),e') hr h3
          exact vaU _ (gw (va0.2 ⟨h5,h4⟩) h2)
  | cl d i f x tys g e es ho hd hb hf hx hC h0 h1 h2 =>
    have hop:∀y,y=f\/y=x->opv E.GE s.tmps y=opv E.GE st.tmps y:=fun y hy=>hopv y (by rw[ho];simp[Op.operands,Call.operands];exact hy)
    rw[hop f (.inl rfl)]at hf
    rw[hop x (.inr rfl)]at hx
    obtain⟨hbs,hBx⟩:=hbi i _ hb
    have hvf:=h.opv a.defers f
    have hvx:=h.opv a.defers x
    rw[hf]at hvf
    rw[hx]at hvx
    change VR Γ bs w _ (a.eval f)at hvf
    change VR Γ bs w _ (a.eval x)at hvx
    generalize hev:a.eval f=vf at hvf
    cases hvf with
    |func _ _ _ fs cs hl hl' k1 k2=>
    have hfs:fs=#[]:=vaZ (by simpa using hl)
    have hcs:cs=#[]:=vaZ (by simpa using hl')
    subst hfs;subst hcs
    have hrun:(execOp a.eval o).run P w=.ok (.enter g #[a.eval x]) w:=by
      simp[execOp,ho,resolve,hev,Deferred.ofValue,invoke,hC.1]
    unfold Oper.wp
    rw[hrun,Oper.upon_enter]
    refine(NG h hbs hBx hC hvx h0 h1 h2).mono fun r w' hr=>?_
    obtain⟨v',xb,rfl,hS,hv'⟩:=hr
    have g1:=hS.set (d:=d) hv'
    have hput:(a.put o.dst v').tmps=a.tmps.setIfInBounds d v':=by rw[hd];rfl
    rw[<-hput]at g1
    refine⟨bR _ _ _,Γ,_,ow,⟨st.tmps.set d (.bsl i 0 es.length),st.boxes,bQ d st.own⟩,g1,⟨by rw[hd];exact⟨_,rfl,rfl⟩,fun _=>rfl,fun hc=>hbx (by rw[hc];decide),FY (L:=[]) (by simp),Mt (L:=[]),fun _ _=>rfl⟩,.inr (.inr ⟨i,_,xb,hb,rfl⟩)⟩
  | stR T x y i off cs cs' hd ho hx hB hp hi =>
    have hx':opv E.GE st.tmps x=.bptr i off:=(hopv x (by rw[ho];simp[Op.operands])).symm.trans hx
    have hy':opv E.GE s.tmps y=opv E.GE st.tmps y:=hopv y (by rw[ho];simp[Op.operands])
    rw[hy']at hp
    obtain⟨bb,hbb⟩:=live hx'
    have hst:=hbx (by simp[bN,ch,ho])
    obtain⟨own2,hB2⟩:=xW hst hB
    obtain⟨own',hp2⟩:=Oa hp hB2
    refine fin (st':=⟨st.tmps,st.boxes.set i (.cells cs' own'),st.own⟩)
      ⟨by rw[hd];exact⟨rfl,rfl⟩,fun hc=>absurd (by simp[bN,ch,ho]) hc,fun _=>yn hst rfl,?_,fun τ hr=>by simp at hr,fun k hk=>by rw[vap (fun e=>by subst e;rw[hbb]at hk;cases hk)]⟩ ?_
    · rintro ⟨b,⟨t',k⟩,e'⟩ hr hn hh
      cases b with
      |false=>exact hh
      |true=>exact(iK (fun e=>hn rfl (by subst e;exact hi))).2 hh
    · refine g9.of h hid' (by simp [nF,ho]) ?_ Q
      unfold Jw
      rw[ho]
      simp only[rJ,hx',hp2,vah]
      rw[hd];rfl
end
end
end Go.Proofs.YtkdahfeiedaahaaGreatDoor
