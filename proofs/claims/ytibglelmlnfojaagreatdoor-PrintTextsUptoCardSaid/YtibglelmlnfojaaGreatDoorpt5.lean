/- PROVED: a part of the proof. Conditions: none. -/
import Derived.Test.YtibglelmlnfojaaGreatDoorpt4
import Derived.Test.YtibglelmlnfojaaGreatDoorpt3
set_option linter.unusedSimpArgs false
set_option linter.unusedVariables false
noncomputable section
namespace Go.Proofs.YtibglelmlnfojaaGreatDoor
open Go
def UN(st:aK)(dst:Option Tmp)(p:PVal)(ro:List (Nat×TypeId))(H:List aJ)(K:aK->Prop):Prop:=
 match dst with
 |some d=>gA st.tmps d p λtm=>bO ((ro.map λx=>((d,x.1),x.2))++co d st.own) λow=>K ⟨tm,H,ow⟩
 |none=>K ⟨st.tmps,H,st.own⟩
theorem yH(st:aK)(dst:Option Tmp)(p:PVal)(ro:List (Nat×TypeId))(H:List aJ)(K:aK->Prop):UN st dst p ro H K=K (CP st dst p ro H):=by
 cases dst with
 |none=>rfl
 |some d=>simp only[UN,bY,ba,CP]
def Z1(P:Program)(GE:List (Nat×List PVal))(f:Operand)(args:List Operand)(tmps:List PVal)(sc:List It)(K:PVal->List (Nat×TypeId)->List It->Prop):Prop:=
 tJ GE tmps f λvf=>match vf with
  |.func (.func g) first cap=>UD GE tmps args λas=>match sc with
   |.c r ro::sc'=>CC P GE g (first++as++cap) r ro/\K r ro sc'
   |_=>False
  |_=>False
def BF(P:Program)(GE:List (Nat×List PVal))(o:Oper)(id:Nat)(sc:List It)(st:aK)(K:List It->aK->Prop):Prop:=
 match oY o st.tmps.length with
 |false=>False
 | true => match o.op with
  |.call {callee:=.value f,args,..}=>Z1 P GE f args.toList st.tmps sc λr ro sc'=>UN st o.dst r ro st.boxes λst'=>K sc' st'
  |.alloc t=>match sc with
   |.x zs::sc'=>fE P t=some zs/\bO (PG P t) λow=>gA st.boxes id (.cells zs ow) λH=>UN st o.dst (.bptr id 0) [] H λst'=>K sc' st'
   |_=>False
  |.box _ x=>tJ GE st.tmps x λvx=>match sc with
   |.x cs::sc'=>ca vx=some cs/\Qz cs=true/\gA st.boxes id (.cells cs []) λH=>UN st o.dst (.bptr id 0) [] H λst'=>K sc' st'
   |_=>False
  |.makeMap _ none=>gA st.boxes id (.map []) λH=>UN st o.dst (.mapr id) [] H λst'=>K sc st'
  |op=>qa7 P GE op st.tmps st.boxes sc λp H sc'=>UN st o.dst p [] H λst'=>K sc' st'
def YH(n d:Nat)(K:Prop):Prop:=match decide (d<n)with
 |true=>K
 |false=>False
theorem qo{n d:Nat}{K:Prop}(h:YH n d K):d<n/\K:=by
 unfold YH at h
 split at h
 ·rename_i hd;exact⟨by simpa using hd,h⟩
 ·exact h.elim
def Sw(P:Program)(st:aK)(T e:TypeId)(t:Nat)(dst:Option Tmp)(vx vt:PVal)(sc:List It)(K:List It->aK->Prop):Prop:=
 match vx with
 | .bptr i off => match fk P T (.bptr i off) vt st.boxes with
  | some H => np H i fun B => match B with
   |.cells cs own=>match vt.one with
    |true=>bO cs λcs'=>gA H i (.cells cs' ((off,e)::own)) λH'=>UN {st with own:=st.own.filter λx=>x.1 !=(t,0)} dst (.val undef) [] H' λst'=>K sc st'
    |false=>False
   |_=>False
  |none=>False
 |_=>False
def Sx(P:Program)(GE:List (Nat×List PVal))(A:List Nat)(o:Oper)(id:Nat)(sc:List It)(st:aK)(K:List It->aK->Prop):Prop:=
 match o.op,o.dst with
 |.assign (.tmp t),some d=>YH st.tmps.length d (Cv st.tmps t λp=>gA st.tmps d p λtm=>bO (qw d (λx=>if x.1=t then(d,x.2)else x) st.own) λow=>K sc ⟨tm,st.boxes,ow⟩)
 |.move (.tmp t),some d=>match decide (d∈A)with
  |true=>YH st.tmps.length d (Cv st.tmps t λp=>gA st.tmps d p λtm=>bO (qw d (λx=>if x.1=t then(d,x.2)else x) st.own) λow=>K sc ⟨tm,st.boxes,ow⟩)
  |false=>BF P GE o id sc st K
 |.assign (.const v),some d=>match yq P o.type v with
  |some e=>YH st.tmps.length d (gA st.tmps d (.slice []) λtm=>bO (((d,0),e)::co d st.own) λow=>K sc ⟨tm,st.boxes,ow⟩)
  |none=>BF P GE o id sc st K
 |.move (.const v),some d=>match yq P o.type v with
  |some e=>YH st.tmps.length d (gA st.tmps d (.slice []) λtm=>bO (((d,0),e)::co d st.own) λow=>K sc ⟨tm,st.boxes,ow⟩)
  |none=>BF P GE o id sc st K
 |.extract (.tmp t) i,some d=>YH st.tmps.length d (Cv st.tmps t λvt=>Uv (zZ vt i) λp=>gA st.tmps d p λtm=>bO (qw d (λx=>if x=(t,i)then(d,0)else x) st.own) λow=>K sc ⟨tm,st.boxes,ow⟩)
 |.buildSlice T len parts,some d=>YH st.tmps.length d (ED GE st.tmps parts.toList λps=>match sc,P.underlying T with
  |.v p::sc',some (.slice e)=>fD P T len ps=some p/\gA st.tmps d p λtm=>bO (((d,0),e)::co d st.own) λow=>K sc' ⟨tm,st.boxes,ow⟩
  |_,_=>False)
 | .call { callee := .builtin .append,args:=⟨[.tmp t,y]⟩,argTypes:=⟨[T,T']⟩ },some d => YH st.tmps.length d (Cv st.tmps t fun ve => tJ GE st.tmps y fun vn => match ve,vn,sc,P.underlying T with
  |.slice es,.slice ns,.v p::sc',some (.slice e)=>match decide (T=T')&&decide (((t,0),e)∈st.own)with
   |true=>yt P T es ns=some p/\gA st.tmps d p λtm=>bO (((d,0),e)::co d (st.own.filter λx=>x.1 !=(t,0))) λow=>K sc' ⟨tm,st.boxes,ow⟩
   |false=>False
  |_,_,_,_=>False)
 | .load T x,some d => match decide (d ∈ A) with
  | true => YH st.tmps.length d (tJ GE st.tmps x fun vx => match vx,P.underlying T with
   | .bptr i off,some (.slice e) => np st.boxes i fun B => match B with
    |.cells cs own=>match decide ((off,e)∈own)&&decide (off<cs.length)with
     |true=>Cv cs off λp=>gA st.tmps d p λtm=>bO (own.filter λx=>x.1 !=off) λown'=>gA st.boxes i (.cells cs own') λH=>bO (((d,0),e)::co d st.own) λow=>K sc ⟨tm,H,ow⟩
     |false=>False
    |_=>False
   |_,_=>False)
  |false=>BF P GE o id sc st K
 |.store T x (.tmp t),_=>match st.own.find? (λy=>y.1==(t,0))with
  |some (_,e)=>tJ GE st.tmps x λvx=>Cv st.tmps t λvt=>Sw P st T e t o.dst vx vt sc K
  |none=>BF P GE o id sc st K
 |_,_=>BF P GE o id sc st K
def qrr:Value->Bool
 |.bool _=>true
 |_=>false
def Q2(ops:Array Oper)(j:Nat)(want:Bool)(pos:Nat)(sc:List It)(st:aK)(go:Bool->List It->aK->Prop):Prop:=
 match(ops[j]?).bind (·.dst)with
 |none=>False
 | some t => Cv st.tmps t fun p => match p with
  | .bool x => match sc with
   |.g pos' b::sc'=>match pos'==pos with
    |true=>x=b/\gA st.tmps t (.bool b) λtm=>go (b==want) sc' ⟨tm,st.boxes,st.own⟩
    |false=>go (x==want) sc st
   |_=>go (x==want) sc st
  |.val v=>match qrr v with
   |true=>False
   |false=>go false sc st
  |_=>False
def sa:List Nat->Bool
 |[]=>true
 |x::r=>!(r.contains x)&&sa r
theorem lV:∀{l:List Nat},sa l=true->l.Nodup
 |[],_=>.nil
 |x::r,h=>by
  simp only[sa,vaf,vaX,vcQ,vbs]at h
  exact vb1.2 ⟨h.1,lV h.2⟩
def Px(t:Nat)(own:List ((Nat×Nat)×TypeId)):List (Nat×TypeId):=own.filterMap λx=>if x.1.1==t then some (x.1.2,x.2)else none
theorem IP{t:Nat}{own:List ((Nat×Nat)×TypeId)}{y:Nat×TypeId}(h:y∈Px t own):((t,y.1),y.2)∈own:=by
 unfold Px at h
 obtain⟨⟨⟨t',k⟩,e⟩,hx,he⟩:=vb0.1 h
 split at he
 ·rename_i ht
  simp only[va7]at ht
  cases he;subst ht;exact hx
 ·cases he
def qbw(off n:Nat)(own:List (Nat×TypeId)):List (Nat×TypeId):=own.filterMap λx=>if decide (off<=x.1)&&decide (x.1<off+n)then some (x.1 - off,x.2)else none
theorem IN{off n:Nat}{own:List (Nat×TypeId)}{y:Nat×TypeId}(h:y∈qbw off n own):(off+y.1,y.2)∈own/\y.1<n:=by
 unfold qbw at h
 obtain⟨⟨k,e⟩,hx,he⟩:=vb0.1 h
 split at he
 ·rename_i ht
  simp only[vaf,vat]at ht
  cases he
  have:off+(k - off)=k:=by omega
  exact⟨by rw[this];exact hx,by simp only;omega⟩
 ·cases he
def Jd(ρ:List Nat):List PVal->List PVal->Prop
 |[],[]=>True
 |p::ps,q::qs=>DW ρ p q/\Jd ρ ps qs
 |_,_=>False
theorem Jd.len{ρ:List Nat}:∀{l r:List PVal},Jd ρ l r->l.length=r.length
 |[],[],_=>rfl
 |[],_::_,h=>h.elim
 |_::_,[],h=>h.elim
 |_::_,_::_,h=>by simp[Jd.len h.2]
theorem Jd.get{ρ:List Nat}:∀{l r:List PVal},Jd ρ l r->∀(i:Nat) p q,l[i]? =some p->r[i]? =some q->DW ρ p q
 |[],[],_,i,p,q,hp,_=>by simp at hp
 |[],_::_,h,_,_,_,_,_=>h.elim
 |_::_,[],h,_,_,_,_,_=>h.elim
 |_::_,_::_,h,0,p,q,hp,hq=>by simp at hp hq;subst hp;subst hq;exact h.1
 |_::_,_::_,h,i+1,p,q,hp,hq=>Jd.get h.2 i p q (by simpa using hp) (by simpa using hq)
def ZO(ρ:List Nat):aJ->aJ->Prop
 |.cells cs own,.cells cs' own'=>own=own'/\Jd ρ cs cs'
 |.map es,.map es'=>es=es'/\∀x∈es,x.1.cl 0/\x.2.cl 0
 |_,_=>False
theorem ZO.to{ρ:List Nat}{B B':aJ}(h:ZO ρ B B'):ma ρ B B':=by
 cases B<;>cases B'<;>simp only[ZO]at h
 ·exact⟨h.1,h.2.len,h.2.get⟩
 ·obtain⟨rfl,h⟩:=h
  refine⟨rfl,λi k u k' u' h1 h2=>?_⟩
  rw[h1]at h2;cases h2
  obtain⟨q1,q2⟩:=h _ (vaK h1)
  exact⟨.refl _ q1,.refl _ q2⟩
def rU(ρ:List Nat)(H:List aJ):List Nat->List aJ->List aJ->Prop
 |[],[],[]=>True
 |j::js,B::Bs,Bc::Hc=>(np H j λB0=>AE B0 B=B/\ZO ρ B Bc)/\rU ρ H js Bs Hc
 |_,_,_=>False
def zP(ρ:List Nat):List aJ->List aJ->Prop
 |[],[]=>True
 |B::Bs,Bc::Hc=>ZO ρ B Bc/\zP ρ Bs Hc
 |_,_=>False
def kU(H:List aJ):List Nat->List aJ->List aJ
 |j::js,B::Bs=>kU (H.set j B) js Bs
 |_,_=>H
def XD(H:List aJ):List Nat->List aJ->(List aJ->Prop)->Prop
 |j::js,B::Bs,K=>gA H j B λH'=>XD H' js Bs K
 |_,_,K=>K H
theorem qS:∀(H:List aJ) (js:List Nat) (Bs:List aJ) (K:List aJ->Prop),XD H js Bs K=K (kU H js Bs)
 |H,[],_,K=>by cases ‹List aJ›<;>rfl
 |H,_::_,[],K=>rfl
 |H,j::js,B::Bs,K=>by simp only[XD,bY,qS,kU]
theorem IY:∀(H:List aJ) (js:List Nat) (Bs:List aJ),(kU H js Bs).length=H.length
 |H,[],_=>by cases ‹List aJ›<;>rfl
 |H,_::_,[]=>rfl
 |H,j::js,B::Bs=>by simp only[kU,IY,vcL]
theorem kI:∀(H:List aJ) (js:List Nat) (Bs:List aJ) {j:Nat},j∉js->(kU H js Bs)[j]? =H[j]?
 |H,[],Bs,_,_=>by cases Bs<;>rfl
 |H,_::_,[],_,_=>rfl
 |H,k::js,B::Bs,j,h=>by
  simp only[vaF,vc7]at h
  simp only[kU]
  rw[kI _ js Bs h.2,vau (Ne.symm h.1)]
theorem M7:∀(H:List aJ) (js:List Nat) (Bs:List aJ),js.Nodup->js.length=Bs.length->(∀j∈js,j<H.length)->∀(i j:Nat) B,js[i]? =some j->Bs[i]? =some B->(kU H js Bs)[j]? =some B
 |H,[],Bs,_,_,_,i,j,B,hj,_=>by simp at hj
 |H,_::_,[],_,hl,_,_,_,_,_,_=>by simp at hl
 | H,k :: js,B0 :: Bs,hn,hl,hlt,i,j,B,hj,hB => by
  obtain⟨hn1,hn2⟩:=vb1.1 hn
  simp only[kU]
  cases i with
  |zero=>
   simp at hj hB;subst hj;subst hB
   rw[kI _ js Bs hn1,vah (hlt _ (by simp))]
  |succ i=>exact M7 _ js Bs hn2 (by simpa using hl) (λx hx=>by rw[vcL];exact hlt x (by simp[hx])) i j B (by simpa using hj) (by simpa using hB)
theorem SD{ρ:List Nat}{H:List aJ}:∀{js:List Nat} {Bs Hc:List aJ},rU ρ H js Bs Hc->js.length=Bs.length/\Hc.length=js.length/\(∀j∈js,j<H.length)/\
  ∀(i j:Nat) B Bc,js[i]? =some j->Bs[i]? =some B->Hc[i]? =some Bc->(∃B0,H[j]? =some B0/\AE B0 B=B)/\ma ρ B Bc
 |[],[],[],_=>⟨rfl,rfl,by simp,by simp⟩
 |[],_::_,_,h=>by simp[rU]at h
 |[],[],_::_,h=>by simp[rU]at h
 |_::_,[],_,h=>by simp[rU]at h
 |_::_,_::_,[],h=>by simp[rU]at h
 | k :: js,B :: Bs,Bc :: Hc,h => by
  obtain⟨h1,h2⟩:=h
  obtain⟨B0,hB0,h3,h4⟩:=eE h1
  obtain⟨k1,k2,k3,k4⟩:=SD h2
  refine⟨by simp[k1],by simp[k2],λj hj=>?_,λi j b bc hj hb hbc=>?_⟩
  ·rcases vaF.1 hj with rfl|hj
   ·exact av hB0
   ·exact k3 j hj
  ·cases i with
   |zero=>simp at hj hb hbc;subst hj;subst hb;subst hbc;exact⟨⟨B0,hB0,h3⟩,h4.to⟩
   |succ i=>exact k4 i j b bc (by simpa using hj) (by simpa using hb) (by simpa using hbc)
theorem Pt{ρ:List Nat}:∀{Bs Hc:List aJ},zP ρ Bs Hc->Bs.length=Hc.length/\∀(i:Nat) B Bc,Bs[i]? =some B->Hc[i]? =some Bc->ma ρ B Bc
 |[],[],_=>⟨rfl,by simp⟩
 |[],_::_,h=>h.elim
 |_::_,[],h=>h.elim
 |B::Bs,Bc::Hc,h=>by
  obtain⟨k1,k2⟩:=Pt h.2
  refine⟨by simp[k1],λi b bc hb hbc=>?_⟩
  cases i with
  |zero=>simp at hb hbc;subst hb;subst hbc;exact h.1.to
  |succ i=>exact k2 i b bc (by simpa using hb) (by simpa using hbc)
def qh8(t:Nat):Option Operand->Bool
 |some (.tmp u)=>u==t
 |_=>false
def qeJ:Option Operand->Bool
 |some (.const v)=>uj v
 |_=>false
def Y1(n:Nat)(args:List Operand)(own:List ((Nat×Nat)×TypeId))(oa:List OA):Bool:=
 oa.all (λx=>decide (n<=x.i)&&((qeJ args[x.i - n]? &&x.k==0)||(decide (((x.t,x.k),x.e)∈own)&&qh8 x.t args[x.i - n]?)))&&oa.all λx=>oa.all λy=>!(x.t==y.t&&x.k==y.k)||x.i==y.i
def Rb:aJ->Bool
 |.dead=>false
 |_=>true
def iT(P:Program)(GE:List (Nat×List PVal))(f:Operand)(args:List Operand)(c:GC)(st:aK)(K:List aJ->Prop):Prop:=
 tJ GE st.tmps f λvf=>match vf with
 | .func (.func g) first cap => UD GE st.tmps args fun as => match sa c.ρ && Y1 first.length args st.own c.oa && c.Bs.all Rb && decide (c.Bs'.length = c.ρ.length) with
  | true => C P GE g c.argsC (c.oa.map fun x => ((x.i,x.k),x.e)) c.Hc c.rc c.ro c.Hc'∧Jd c.ρ (first ++ as ++ cap) c.argsC∧rU c.ρ st.boxes c.ρ c.Bs c.Hc∧zP c.ρ c.Bs' c.Hc'∧DW c.ρ c.r c.rc ∧
    XD st.boxes c.ρ c.Bs' K
  |false=>False
 |_=>False
theorem uW{P:Program}{GE:List (Nat×List PVal)}{f:Operand}{args:List Operand}{c:GC}{st:aK}{K:List aJ->Prop}(h:iT P GE f args c st K):∃H',Lx P GE f args st c.r c.ro H' c.oa/\K H':=by
 unfold iT at h
 rw[cB]at h
 split at h
 ·rename_i g first cap hf
  rw[om]at h
  split at h
  ·rename_i hb
   simp only[vaf,vat]at hb
   obtain⟨⟨⟨b1,b2⟩,b3⟩,b4⟩:=hb
   obtain⟨h1,h2,h3,h4,h5,h6⟩:=h
   rw[qS]at h6
   have hn:=lV b1
   obtain⟨i1,i2,i3,i4⟩:=SD h3
   obtain⟨o1,o2⟩:=Pt h4
   unfold Y1 at b2
   rw[vaf]at b2
   obtain⟨c1,c2⟩:=b2
   have hgetB:∀{i j:Nat},c.ρ[i]? =some j->∃B,c.Bs[i]? =some B:=λ{i j} hj=>⟨_,vac (by rw[<-i1];exact av hj)⟩
   have hgetH:∀{i j:Nat},c.ρ[i]? =some j->∃B,c.Hc[i]? =some B:=λ{i j} hj=>⟨_,vac (by rw[i2];exact av hj)⟩
   refine⟨_,⟨g,first,cap,c.argsC,c.ρ,kU st.boxes c.ρ c.Bs,c.Hc,c.Hc',c.rc,hf,hn,h1,⟨IY _ _ _,λi B hB=>?_⟩,⟨i2,λi j hj=>?_⟩,⟨by rw[<-o1];exact b4,λi j hj=>?_⟩,IY _ _ _,λj hj=>by rw[kI _ _ _ hj,kI _ _ _ hj],h5,h2.len,h2.get,λx hx=>?_,λx hx y hy e1 e2=>?_⟩,h6⟩
   ·by_cases hi:i∈c.ρ
    ·obtain⟨k,hk⟩:=vbc.1 hi
     obtain⟨B1,hB1⟩:=hgetB hk
     obtain⟨Bc,hBc⟩:=hgetH hk
     obtain⟨⟨B0,hB0,hfg⟩,_⟩:=i4 k i B1 Bc hk hB1 hBc
     rw[M7 _ _ _ hn i1 i3 k i B1 hk hB1]at hB
     cases hB
     refine⟨B0,hB0,?_⟩
     rcases qa8 B0 B with hx|hx|hx
     ·rw[hfg]at hx
      have:=vas.1 b3 B (vaK hB1)
      rw[hx]at this;cases this
     ·rw[hfg]at hx;exact .inl hx
     ·rw[hfg]at hx;exact .inr hx
    ·rw[kI _ _ _ hi]at hB
     exact⟨B,hB,.inl rfl⟩
   ·obtain⟨B1,hB1⟩:=hgetB hj
    obtain⟨Bc,hBc⟩:=hgetH hj
    exact⟨B1,Bc,M7 _ _ _ hn i1 i3 i j B1 hj hB1,hBc,(i4 i j B1 Bc hj hB1 hBc).2⟩
   ·have hi:=av hj
    have e1:=vac (l:=c.Bs') (i:=i) (by omega)
    have e2:=vac (l:=c.Hc') (i:=i) (by omega)
    exact⟨_,_,M7 _ _ _ hn b4.symm i3 i j _ hj e1,e2,o2 i _ _ e1 e2⟩
   ·have:=vas.1 c1 x hx
    simp only[vaf,va8,vat,va7]at this
    refine⟨x.i - first.length,by omega,?_⟩
    rcases this.2 with⟨h2,h3⟩|⟨h2,h3⟩
    ·left
     unfold qeJ at h2
     split at h2
     ·rename_i v hv
      unfold uj at h2
      split at h2
      ·exact⟨hv,h3⟩
      ·cases h2
     ·cases h2
    ·right
     unfold qh8 at h3
     split at h3
     ·rename_i u hu
      simp only[va7]at h3
      subst h3;exact⟨h2,hu⟩
     ·cases h3
   ·have:=vas.1 (vas.1 c2 x hx) y hy
    simp only[va8,vaX,Bool.and_eq_false_iff,beq_eq_false_iff_ne,ne_eq,va7]at this
    rcases this with(hx|hx)|hx
    ·exact absurd e1 hx
    ·exact absurd e2 hx
    ·exact hx
  ·exact h.elim
 ·exact h.elim
def Q4 (P:Program) (GE:List (Nat×List PVal)) (A:List Nat) (o:Oper) (id:Nat) (sc:List It) (st:aK) (K:List It→aK→Prop):Prop :=
 match o.op,sc with
 |.build T parts,.b p L::sc'=>match o.dst with
  |some d=>YH st.tmps.length d (ED GE st.tmps parts.toList λps=>cx P T ps=some p/\wT P T ps L/\gA st.tmps d p λtm=>bO ((L.map λx=>((d,x.1),x.2))++co d st.own) λow=>K sc' ⟨tm,st.boxes,ow⟩)
  |none=>False
 | .store T x (.tmp t),.y vs :: sc' => Cv st.tmps t fun vt => match vt with
  | .agg l => match o.dst with
   | none => tJ GE st.tmps x fun vx => match vx with
    | .bptr i off => bO (Px t st.own) fun L => l = vs∧np st.boxes i fun B => match B with
     | .cells cs own => match sa (L.map (·.1)) && decide (vs.length = P.cellsOf T) && (P.info? T).isSome && decide (off + vs.length ≤ cs.length) && vs.all PVal.one with
      | true => bO (cs.take off ++ vs ++ cs.drop (off + vs.length)) fun cs' => bO ((L.map fun y => (off + y.1,y.2)).reverse ++ own.filter fun y => y.1 < off || off + vs.length ≤ y.1) fun own' =>
        gA st.boxes i (.cells cs' own') λH=>bO (st.own.filter λx=>!L.any λy=>x.1==(t,y.1)) λow=>K sc' ⟨st.tmps,H,ow⟩
      |false=>False
     |_=>False
    |_=>False
   |some _=>False
  |_=>Sx P GE A o id sc st K
 | .load T x,.z l :: sc' => match P.underlying T with
  | some (.struct _) => match o.dst with
   | some d => YH st.tmps.length d (tJ GE st.tmps x fun vx => match vx with
    | .bptr i off => np st.boxes i fun B => match B with
     | .cells cs own => bz P T (cs.drop off) = some (.agg l)∧bO (qbw off (P.cellsOf T) own) fun L => match sa (L.map (·.1)) with
      | true => gA st.tmps d (.agg l) fun tm => bO (own.filter fun x => !L.any fun y => x.1 == off + y.1) fun own' => gA st.boxes i (.cells cs own') fun H =>
        bO ((L.map λy=>((d,y.1),y.2)).reverse++co d st.own) λow=>K sc' ⟨tm,H,ow⟩
      |false=>False
     |_=>False
    |_=>False)
   |none=>False
  |_=>Sx P GE A o id sc st K
 |.box _ x,.e vs::sc'=>match o.dst with
  |some d=>YH st.tmps.length d (tJ GE st.tmps x λvx=>ca vx=some vs/\gA st.tmps d (.eptr vs) λtm=>bO (co d st.own) λow=>K sc' ⟨tm,st.boxes,ow⟩)
  |none=>False
 |.call {callee:=.value f,args,..},.cg c::sc'=>match o.dst with
  |some d=>YH st.tmps.length d (iT P GE f args.toList c st λH=>gA st.tmps d c.r λtm=>bO ((c.ro.map λx=>((d,x.1),x.2))++co d (st.own.filter λz=>!c.oa.any λx=>z.1==(x.t,x.k))) λow=>K sc' ⟨tm,H,ow⟩)
  |none=>False
 | .box T (.tmp t),.y vs :: sc' => match o.dst with
  | some d => YH st.tmps.length d (Cv st.tmps t fun vt => match vt with
   |.agg l=>bO (Px t st.own) λL=>l=vs/\(match sa (L.map (·.1))&&Qz vs with
    |true=>bO (vs.map (nilTo id T)) λcs=>gA st.tmps d (.bptr id 0) λtm=>bO ((L.map λy=>(0+y.1,y.2)).reverse++[]) λown=>gA st.boxes id (.cells cs own) λH=>bO (co d (st.own.filter λx=>!L.any λy=>x.1==(t,y.1))) λow=>K sc' ⟨tm,H,ow⟩
    |false=>False)
   |_=>False)
  |none=>False
 |.alloc T,.y vs::sc'=>match o.dst with
  |some d=>YH st.tmps.length d (fE P T=some vs/\bO (PG P T) λown=>bO (vs.map (nilTo id T)) λcs=>gA st.tmps d (.bptr id 0) λtm=>gA st.boxes id (.cells cs own) λH=>bO (co d st.own) λow=>K sc' ⟨tm,H,ow⟩)
  |none=>False
 | .call { callee := .builtin .append,args:=⟨[.tmp t,y]⟩,argTypes:=⟨[T,T']⟩ },.z ps :: sc' => match o.dst,ps with
  | some d,[p] => YH st.tmps.length d (Cv st.tmps t fun ve => tJ GE st.tmps y fun vn => match ve,vn,P.underlying T with
   |.slice es,.str s,some (.slice e)=>match decide (((t,0),e)∈st.own)with
    |true=>Dp P T T' es s=some p/\gA st.tmps d p λtm=>bO (((d,0),e)::co d (st.own.filter λx=>x.1 !=(t,0))) λow=>K sc' ⟨tm,st.boxes,ow⟩
    |false=>False
   |_,_,_=>False)
  |_,_=>False
 |_,_=>Sx P GE A o id sc st K
def Pp(P:Program)(GE:List (Nat×List PVal))(A:List Nat)(ops:Array Oper)(K:List It->aK->Prop):List Oper->Nat->Nat->List It->aK->Prop
 |[],_,_,sc,st=>K sc st
 | o :: rest,pos,id,sc,st =>
  let step (sc:List It) (st:aK):Prop:=Q4 P GE A o id sc st λsc' st'=>Pp P GE A ops K rest (pos+1) (id+if aO o.op then 1 else 0) sc' st'
  match o.guard with
  |none=>step sc st
  |some (j,want)=>Q2 ops j want pos sc st λb sc' st'=>match b with
   |true=>step sc' st'
   |false=>UN st' o.dst (.val undef) [] st'.boxes λst''=>Pp P GE A ops K rest (pos+1) (id+if aO o.op then 1 else 0) sc' st''
section
variable{P:Program}{GE:List (Nat×List PVal)}{A:List Nat}{ops:Array Oper}
theorem WL{f:Operand}{args:List Operand}{tmps:List PVal}{H:List aJ}{sc:List It}{K:PVal->List (Nat×TypeId)->List It->Prop}(h:Z1 P GE f args tmps sc K):KU P GE (opv GE tmps f) (args.map (opv GE tmps)) H λr ro H'=>H'=H/\∃sc',K r ro sc':=by
 unfold Z1 at h
 rw[cB]at h
 split at h
 ·rename_i g first cap hf
  rw[om]at h
  split at h
  ·rename_i r ro sc'
   rw[hf]
   exact .inl ⟨h.1.1,r,ro,h.1.2,rfl,sc',h.2⟩
  ·exact h.elim
 ·exact h.elim
theorem IR{op:Op}{id:Nat}{v:Operand->PVal}{H H':List aJ}{p:PVal}{K:PVal->List (Nat×TypeId)->List aJ->Prop}(hn:∀f args tys,op≠.call {callee:=.value f,args,argTypes:=tys})
  (h:vp P op id v H=some (p,H')) (hk:K p [] H'):UG P GE op id v H K:=by
 unfold UG
 split
 ·rename_i f args tys;exact absurd rfl (hn _ _ _)
 ·rw[h];exact hk
theorem lU{o:Oper}{id:Nat}{sc:List It}{st:aK}{K:List It->aK->Prop}(h:BF P GE o id sc st K):oY o st.tmps.length=true/\UG P GE o.op id (opv GE st.tmps) st.boxes λp ro H=>(λst'=>∃sc',K sc' st') (CP st o.dst p ro H):=by
 unfold BF at h
 split at h
 ·exact h.elim
 ·rename_i hc
  refine⟨hc,?_⟩
  split at h
  ·rename_i f args tys ho
   have:=WL (H:=st.boxes) h
   unfold UG
   simp only[ho]
   unfold KU at this ⊢
   split at this
   ·rcases this with⟨k1,r,ro,k2,_,sc',k3⟩|⟨ρ,argsC,Hc,rc,ro,Hc',H',r,k1,k2,k3,k4,k5,k6,k7,k8,k9,rfl,sc',k10⟩
    ·rw[yH]at k3;exact .inl ⟨k1,r,ro,k2,sc',k3⟩
    ·rw[yH]at k10;exact .inr ⟨ρ,argsC,Hc,rc,ro,Hc',_,r,k1,k2,k3,k4,k5,k6,k7,k8,k9,sc',k10⟩
   ·exact this.elim
  ·rename_i t ho
   split at h
   ·rename_i zs sc'
    obtain⟨h1,h2⟩:=h
    simp only[ba,bY,yH]at h2
    rw[ho]
    exact IR (by simp) (by simp only[vp,h1,vaj]) ⟨sc',h2⟩
   ·exact h.elim
  ·rename_i t x ho
   rw[cB]at h
   split at h
   ·rename_i cs sc'
    obtain⟨h1,h1n,h2⟩:=h
    simp only[bY,yH]at h2
    rw[ho]
    exact IR (by simp) (by simp only[vp,Ti h1 h1n,vaj]) ⟨sc',h2⟩
   ·exact h.elim
  ·rename_i t ho
   simp only[bY,yH]at h
   rw[ho]
   exact IR (by simp) (by simp only[vp]) ⟨_,h⟩
  ·rename_i n1 n2 n3 n4
   obtain⟨p,H',sc',k1,k2,_⟩:=Pr (id:=id) h
   rw[yH]at k2
   exact IR (λf args tys e=>n1 f args tys e) k1 ⟨sc',k2⟩
theorem Ev{o:Oper}{id:Nat}{sc:List It}{st:aK}{K:List It->aK->Prop}(h:Sx P GE A o id sc st K):PD P GE A o id (λst'=>∃sc',K sc' st') st:=by
 unfold Sx at h
 unfold PD
 split at h
 case h_1 t d ho hd=>
  obtain⟨h1,h2⟩:=qo h
  simp only[jA,bY,ba]at h2
  simp only[ho,hd]
  exact⟨h1,_,h2⟩
 case h_2 t d ho hd=>
  simp only[ho,hd]
  split at h
  ·rename_i hA
   obtain⟨h1,h2⟩:=qo h
   simp only[jA,bY,ba]at h2
   rw[vad (by simpa using hA)]
   exact⟨h1,_,h2⟩
  ·rename_i hA
   rw[vab (by simpa using hA)]
   have:=lU h
   rw[ho,hd]at this
   exact this
 case h_3 v d ho hd=>
  simp only[ho,hd]
  split at h
  ·rename_i e he
   obtain⟨h1,h2⟩:=qo h
   simp only[bY,ba]at h2
   simp only[he]
   exact⟨h1,_,h2⟩
  ·rename_i he
   simp only[he]
   have:=lU h
   rw[ho,hd]at this
   exact this
 case h_4 v d ho hd=>
  simp only[ho,hd]
  split at h
  ·rename_i e he
   obtain⟨h1,h2⟩:=qo h
   simp only[bY,ba]at h2
   simp only[he]
   exact⟨h1,_,h2⟩
  ·rename_i he
   simp only[he]
   have:=lU h
   rw[ho,hd]at this
   exact this
 case h_5 t i d ho hd=>
  obtain⟨h1,h2⟩:=qo h
  rw[jA]at h2
  obtain⟨p,h3,h4⟩:=BL h2
  simp only[bY,ba]at h4
  simp only[ho,hd,h3]
  exact⟨h1,_,h4⟩
 case h_6 T len parts d ho hd=>
  obtain⟨h1,h2⟩:=qo h
  rw[uo]at h2
  split at h2
  ·rename_i p sc' e hu
   obtain⟨h3,h4⟩:=h2
   simp only[bY,ba]at h4
   simp only[ho,hd,h3,hu]
   exact⟨h1,_,h4⟩
  ·exact h2.elim
 case h_7 t y T T' d ho hd=>
  obtain⟨h1,h2⟩:=qo h
  rw[jA,cB]at h2
  split at h2
  ·rename_i es ns p sc' e he hn hu
   split at h2
   ·rename_i hc
    simp only[vaf,vat]at hc
    obtain⟨h3,h4⟩:=h2
    simp only[bY,ba]at h4
    simp only[ho,hd,hu,he,hn,h3]
    exact⟨hc.1,h1,hc.2,_,h4⟩
   ·exact h2.elim
  ·exact h2.elim
 case h_8 T x d ho hd=>
  simp only[ho,hd]
  split at h
  ·rename_i hA
   obtain⟨h1,h2⟩:=qo h
   rw[cB]at h2
   rw[vad (by simpa using hA)]
   split at h2
   ·rename_i i off e hx hu
    obtain⟨B,hB,h2⟩:=eE h2
    split at h2
    ·rename_i cs own
     split at h2
     ·rename_i hc
      simp only[vaf,vat]at hc
      simp only[jA,bY,ba]at h2
      have hget:cs[off]? =some (cs.getD off .undef):=by
       rw[vap,vac hc.2];rfl
      simp only[hx,hu,hB,hget]
      exact⟨h1,hc.1,_,h2⟩
     ·exact h2.elim
    ·exact h2.elim
   ·exact h2.elim
  ·rename_i hA
   rw[vab (by simpa using hA)]
   have:=lU h
   rw[ho,hd]at this
   exact this
 case h_9 T x t ho=>
  simp only[ho]
  split at h
  ·rename_i y e hf
   rw[cB,jA]at h
   simp only[hf]
   unfold Sw at h
   split at h
   ·rename_i i off hx
    split at h
    ·rename_i H hst
     obtain⟨B,hB,h⟩:=eE h
     split at h
     ·rename_i cs own
      split at h
      ·rename_i hone
       simp only[bY,ba,yH]at h
       simp only[hx,hst,hB,hone]
       exact⟨_,h⟩
      ·exact h.elim
     ·exact h.elim
    ·exact h.elim
   ·exact h.elim
  ·rename_i hf
   simp only[hf]
   have:=lU h
   rw[ho]at this
   exact this
 case h_10=>
  have:=lU h
  split
  all_goals first
   |exact this
   |(exfalso;simp_all;done)
   |(exfalso;simp_all;rename_i hx h1 h2;exact hx _ _ _ _ rfl rfl rfl rfl)
   |(exfalso;simp_all;rename_i hx h1 h2;exact hx _ _ _ _ _ rfl rfl rfl rfl rfl)
   |(exfalso;simp_all;rename_i hx h1 h2;exact hx _ _ _ rfl rfl rfl)
theorem JU{j:Nat}{want:Bool}{pos:Nat}{sc:List It}{st:aK}{go:Bool->List It->aK->Prop}(h:Q2 ops j want pos sc st go):∃x,z6 ops st.tmps j=some x/\((x=some want/\∃sc',go true sc' st)\/(x≠some want/\∃sc',go false sc' st)):=by
 unfold Q2 at h
 split at h
 ·exact h.elim
 ·rename_i t ht
  rw[jA]at h
  have hget:∀{p},st.tmps.getD t .undef=p->p≠.undef->st.tmps[t]? =some p:=by
   intro p hp hne
   rw[vap]at hp
   cases hx:st.tmps[t]? with
   |none=>rw[hx]at hp;exact absurd hp.symm hne
   |some q=>rw[hx]at hp;exact vaW some hp
  have hfin:∀(x:Bool) sc',go (x==want) sc' st->(some x=some want/\∃sc',go true sc' st)\/(some x≠some want/\∃sc',go false sc' st):=by
   intro x sc' hg
   cases x<;>cases want<;>simp at hg ⊢<;>exact⟨sc',hg⟩
  split at h
  ·rename_i x hp
   have hx:=hget hp (by simp)
   have hg:z6 ops st.tmps j=some (some x):=by unfold z6;simp only[ht,hx]
   refine⟨_,hg,?_⟩
   split at h
   ·rename_i pos' b sc'
    split at h
    ·obtain⟨rfl,h⟩:=h
     rw[bY,M9 hx]at h
     exact hfin x sc' h
    ·exact hfin x _ h
   ·exact hfin x _ h
  ·rename_i v hp
   have hx:=hget hp (by simp)
   split at h
   ·exact h.elim
   ·rename_i hb
    refine⟨none,?_,.inr ⟨by simp,_,h⟩⟩
    unfold z6
    simp only[ht,hx]
    cases v<;>simp[qrr]at hb<;>rfl
  ·exact h.elim
theorem Uq{o:Oper}{id:Nat}{sc:List It}{st:aK}{K:List It->aK->Prop}(h:Q4 P GE A o id sc st K):Id P GE A o id (λst'=>∃sc',K sc' st') st:=by
 unfold Q4 at h
 split at h
 ·rename_i T parts p L sc' ho
  split at h
  ·rename_i d hd
   obtain⟨h1,h2⟩:=qo h
   rw[uo]at h2
   obtain⟨h3,h4,h5⟩:=h2
   simp only[bY,ba]at h5
   refine .inr (.inl ?_)
   unfold Tt
   simp only[ho,hd]
   exact⟨p,L,h3,h4,h1,sc',h5⟩
  ·exact h.elim
 ·rename_i T x t vs sc' ho
  rw[jA]at h
  split at h
  ·rename_i l hl
   split at h
   ·rename_i hd
    rw[cB]at h
    split at h
    ·rename_i i off hx
     rw[ba]at h
     obtain⟨rfl,h⟩:=h
     obtain⟨B,hB,h⟩:=eE h
     split at h
     ·rename_i cs own
      split at h
      ·rename_i hc
       simp only[bY,ba]at h
       simp only[vaf,vat]at hc
       obtain⟨⟨⟨⟨c1,c2⟩,c3⟩,c4⟩,c5⟩:=hc
       refine .inr (.inl ?_)
       unfold Tt
       simp only[ho,hd]
       have hi:=av hB
       refine⟨i,off,st.boxes.set i (.cells (cs.take off++l++cs.drop (off+l.length)) (own.filter λy=>y.1<off||off+l.length<=y.1)),_,_,Px t st.own,l,hx,hl,?_,vah hi,λy hy=>IP hy,lV c1,sc',?_⟩
       ·simp only[fk,ca,hB]
        rw[vad ⟨c2,c3,c4,c5⟩]
       ·rw[vbT];exact h
      ·exact h.elim
     ·exact h.elim
    ·exact h.elim
   ·exact h.elim
  ·exact .inl (Ev h)
 ·rename_i T x l sc' ho
  split at h
  ·rename_i fs hT
   split at h
   ·rename_i d hd
    obtain⟨h1,h⟩:=qo h
    rw[cB]at h
    split at h
    ·rename_i i off hx
     obtain⟨B,hB,h⟩:=eE h
     split at h
     ·rename_i cs own
      obtain⟨h2,h⟩:=h
      rw[ba]at h
      split at h
      ·rename_i hn
       simp only[bY,ba]at h
       refine .inr (.inl ?_)
       unfold Tt
       simp only[ho,hd]
       have hlen:l.length=P.cellsOf T:=by
        have hp:=h2
        unfold bz at hp
        rw[hT]at hp
        simp only at hp
        split at hp
        ·rename_i hh;cases hp;rw[va4];omega
        ·cases hp
       exact⟨i,off,cs,own,_,l,⟨fs,hT⟩,hx,hB,h2,λy hy=>(IN hy).1,lV hn,λy hy=>by rw[hlen];exact(IN hy).2,h1,sc',h⟩
      ·exact h.elim
     ·exact h.elim
    ·exact h.elim
   ·exact h.elim
  ·exact .inl (Ev h)
 ·rename_i T x vs sc' ho
  split at h
  ·rename_i d hd
   obtain⟨h1,h⟩:=qo h
   rw[cB]at h
   obtain⟨h2,h⟩:=h
   simp only[bY,ba]at h
   refine .inr (.inl ?_)
   unfold Tt
   simp only[ho,hd]
   exact⟨vs,h2,h1,sc',h⟩
  ·exact h.elim
 ·rename_i f args tys c sc' ho
  split at h
  ·rename_i d hd
   obtain⟨h1,h⟩:=qo h
   obtain⟨H',h2,h3⟩:=uW h
   simp only[bY,ba]at h3
   refine .inr (.inl ?_)
   unfold Tt
   simp only[ho,hd]
   exact⟨c.r,c.ro,H',c.oa,h2,h1,sc',h3⟩
  ·exact h.elim
 ·rename_i T t vs sc' ho
  split at h
  ·rename_i d hd
   obtain⟨h1,h⟩:=qo h
   rw[jA]at h
   split at h
   ·rename_i l hl
    rw[ba]at h
    obtain⟨rfl,h⟩:=h
    split at h
    ·rename_i hn
     simp only[bY,ba]at h
     refine .inr (.inr ?_)
     unfold qhi
     simp only[ho,hd]
     rw[vaf]at hn
     exact⟨l,Px t st.own,hl,hn.2,λy hy=>IP hy,lV hn.1,h1,sc',h⟩
    ·exact h.elim
   ·exact h.elim
  ·exact h.elim
 ·rename_i T vs sc' ho
  split at h
  ·rename_i d hd
   obtain⟨h1,h2,h⟩:=qo h
   simp only[bY,ba]at h
   refine .inr (.inr ?_)
   unfold qhi
   simp only[ho,hd]
   exact⟨vs,h2,h1,sc',h⟩
  ·exact h.elim
 ·rename_i t y T T' ps sc' ho
  split at h
  ·rename_i d p hd
   have hh:=qo h
   clear h
   obtain⟨h1,h⟩:=hh
   rw[jA,cB]at h
   split at h
   ·rename_i es s e he hn hT
    split at h
    ·rename_i hc
     simp only[vat]at hc
     obtain⟨h2,h3⟩:=h
     simp only[bY,ba]at h3
     refine .inr (.inr ?_)
     unfold qhi
     simp only[ho,hd]
     exact⟨es,s,e,p,he,hn,hT,hc,h2,h1,sc',h3⟩
    ·exact h.elim
   ·exact h.elim
  ·exact h.elim
 ·exact .inl (Ev h)
theorem ww{o:Oper}{id:Nat}{K K':aK->Prop}{st:aK}(hk:∀st,K st->K' st)(h:Id P GE A o id K st):Id P GE A o id K' st:=by
 rcases h with h|h|h
 ·exact .inl (qaA hk h)
 rotate_left
 ·exact .inr (.inr (qff hk h))
 ·refine .inr (.inl ?_)
  unfold Tt at *
  split at h
  ·obtain⟨p,L,h1,h2,h3,h4⟩:=h;exact⟨p,L,h1,h2,h3,hk _ h4⟩
  ·obtain⟨i,off,H,cs,own,L,l,h1,h2,h3,h4,h5,h6,h7⟩:=h;exact⟨i,off,H,cs,own,L,l,h1,h2,h3,h4,h5,h6,hk _ h7⟩
  ·obtain⟨i,off,cs,own,L,l,h0,h1,h2,h3,h4,h5,h6,h7,h8⟩:=h;exact⟨i,off,cs,own,L,l,h0,h1,h2,h3,h4,h5,h6,h7,hk _ h8⟩
  ·obtain⟨vs,h1,h2,h3⟩:=h;exact⟨vs,h1,h2,hk _ h3⟩
  ·obtain⟨r,ro,H',oa,h1,h2,h3⟩:=h;exact⟨r,ro,H',oa,h1,h2,hk _ h3⟩
  ·exact h
theorem zM{K:List It->aK->Prop}:∀(rest:List Oper) (pos id:Nat) (sc:List It) (st:aK),Pp P GE A ops K rest pos id sc st->da P GE A ops (λst=>∃sc,K sc st) rest id st
 |[],_,_,sc,st,h=>⟨sc,h⟩
 | o :: rest,pos,id,sc,st,h => by
  simp only[Pp]at h
  have step:∀sc st,Q4 P GE A o id sc st (λsc' st'=>Pp P GE A ops K rest (pos+1) (id+if aO o.op then 1 else 0) sc' st')->Id P GE A o id (da P GE A ops (λst=>∃sc,K sc st) rest (id+if aO o.op then 1 else 0)) st:=
   λsc st hs=>ww (λst' hx=>by obtain⟨sc',hx⟩:=hx;exact zM rest _ _ sc' st' hx) (Uq hs)
  unfold da
  split at h
  ·rename_i hg;simp only[hg];exact step _ _ h
  ·rename_i j want hg
   obtain⟨x,hx,hc⟩:=JU h
   simp only[hg,hx]
   rcases hc with⟨rfl,sc',hc⟩|⟨hne,sc',hc⟩
   ·exact⟨λ_=>step _ _ hc,λhn=>absurd rfl hn⟩
   ·refine⟨λhe=>absurd he hne,λ_=>?_⟩
    simp only[yH]at hc
    exact zM rest _ _ sc' _ hc
end
set_option linter.unusedVariables false
abbrev Rs:=Bool×Nat×Nat
abbrev qaP:=Bool×(Nat×Nat)×TypeId
def ew(τ:qaP):Rs:=match τ.1 with
 |false=>(false,τ.2.1.1,0)
 |true=>(true,τ.2.1.1,τ.2.1.2)
def jB(st:aK)(τ:qaP):Prop:=match τ.1 with
 |false=>(τ.2.1,τ.2.2)∈st.own
 |true=>∃cs own,st.boxes[τ.2.1.1]? =some (.cells cs own)/\(τ.2.1.2,τ.2.2)∈own
def bj:aJ->aJ
 |.cells cs _=>.cells cs []
 |B=>B
theorem WZ{H H2:List aJ}(h:H2.map bj=H.map bj)(i:Nat):(H2[i]?).map bj=(H[i]?).map bj:=by
 have:=vaW (λl=>l[i]?) h
 simpa[vaB]using this
theorem Ex{H H2:List aJ}(h:H2.map bj=H.map bj){i:Nat}{cs:List PVal}{own:List (Nat×TypeId)}(hi:H[i]? =some (.cells cs own)):∃own2,H2[i]? =some (.cells cs own2):=by
 have:=WZ h i
 rw[hi]at this
 cases hB:H2[i]? with
 |none=>rw[hB]at this;cases this
 |some B=>
  rw[hB]at this
  cases B<;>simp[bj]at this
  subst this
  exact⟨_,rfl⟩
section
variable{P:Program}{GE:List (Nat×List PVal)}
theorem Zb{t:TypeId}{x:PVal}{H H2:List aJ}(h:H2.map bj=H.map bj):nz P t x H2=nz P t x H:=by
 unfold nz
 split
 ·rfl
 ·rename_i i off
  have hi:=WZ h i
  generalize H2[i]? =o at hi
  generalize H[i]? =o' at hi
  rcases o with _|(_|_|_)<;>rcases o' with _|(_|_|_)<;>simp[bj]at hi ⊢
  subst hi;rfl
 ·rfl
theorem qay{t:TypeId}{x:PVal}{H H2:List aJ}(h:H2.map bj=H.map bj):KY P t x H2=KY P t x H:=by
 unfold KY
 split<;>first|rfl|skip
 rename_i i _
 have hi:=WZ h i
 generalize H2[i]? =o at hi
 generalize H[i]? =o' at hi
 rcases o with _|(_|_|_)<;>rcases o' with _|(_|_|_)<;>simp[bj]at hi ⊢
 subst hi;rfl
theorem UH{t:TypeId}{m k:PVal}{ok:Bool}{H H2:List aJ}(h:H2.map bj=H.map bj):BS P t m k ok H2=BS P t m k ok H:=by
 unfold BS
 split
 ·rename_i kt e i _
  have hi:=WZ h i
  generalize H2[i]? =o at hi
  generalize H[i]? =o' at hi
  rcases o with _|(_|_|_)<;>rcases o' with _|(_|_|_)<;>simp[bj]at hi ⊢
  subst hi;rfl
 ·rfl
theorem qjx{op:Op}{id:Nat}{v:Operand->PVal}{H H2:List aJ}{p:PVal}(hc:cy P op≠3)(hm:aO op=false)(h:vp P op id v H=some (p,H))(h2:2<=cy P op->H2.map bj=H.map bj):vp P op id v H2=some (p,H2):=by
 by_cases hlt:cy P op<2
 ·exact qhk hlt hm h H2
 ·have hs:=h2 (by omega)
  have key:∀{q q':Option PVal},q'=q->(q.map λp=>(p,H))=some (p,H)->(q'.map λp=>(p,H2))=some (p,H2):=by
   intro q q' e hq
   obtain⟨z,hz,he⟩:=eP hq
   cases he
   rw[e,hz];rfl
  unfold vp at h ⊢
  split at h
  all_goals first
   |(cases h;done)
   |(simp[cy]at hlt;done)
   |(simp[cy]at hc;done)
   |(simp[aO]at hm;done)
   |exact key (Zb hs) h
   |exact key (UH hs) h
   |exact key (qay hs) h
def ck(P:Program)(rw:List Nat)(o:Oper):Nat:=match o.op with
 |.call {callee:=.value _,..}=>if(o.dst.any λd=>rw.contains (8 * d+1))=true then 3 else 0
 |op=>cy P op
theorem L7{rw:List Nat}{o:Oper}(h:∀f args tys,o.op≠.call {callee:=.value f,args,argTypes:=tys}):ck P rw o=cy P o.op:=by
 unfold ck
 split
 ·rename_i hx;exact absurd hx (h _ _ _)
 ·rfl
def Vc:Op->Bool
 |.call {callee:=.value _,..}=>true
 |_=>false
def B5(i off n:Nat):List Rs:=(List.range n).map λk=>(true,i,off+k)
inductive kq(P:Program)(GE:List (Nat×List PVal))(bi:Option (Nat×aJ))(rw:List Nat)(o:Oper)(id:Nat)(s:aK):aK->List Rs->Prop where
 | call (d:Nat) (f:Operand) (args:Array Operand) (tys:Array TypeId) (g:FuncId) (first cap:List PVal) (r:PVal) (ro:List (Nat×TypeId)) (ho:o.op = .call { callee := .value f,args,argTypes:=tys }) (hd:o.dst = some d)
   (hf:opv GE s.tmps f=.func (.func g) first cap) (hcl:jl 0 (first++args.toList.map (opv GE s.tmps)++cap)) (hc:C P GE g (first++args.toList.map (opv GE s.tmps)++cap) [] [] r ro []):
   kq P GE bi rw o id s ⟨s.tmps.set d r,s.boxes,(ro.map λx=>((d,x.1),x.2))++co d s.own⟩ [(false,d,0)]
 |alloc (d:Nat) (t:TypeId) (zs:List PVal) (ho:o.op=.alloc t) (hd:o.dst=some d) (hz:fE P t=some zs):kq P GE bi rw o id s ⟨s.tmps.set d (.bptr id 0),s.boxes,co d s.own⟩ [(false,d,0)]
 |mkmap (d:Nat) (t:TypeId) (ho:o.op=.makeMap t none) (hd:o.dst=some d):kq P GE bi rw o id s ⟨s.tmps.set d (.mapr id),s.boxes,co d s.own⟩ [(false,d,0)]
 | ev (d:Nat) (p:PVal) (hd:o.dst = some d) (hn:Vc o.op = false) (hm:aO o.op = false) (hc:cy P o.op ≠ 3) (h:vp P o.op id (opv GE s.tmps) s.boxes = some (p,s.boxes)) :
   kq P GE bi rw o id s ⟨s.tmps.set d p,s.boxes,co d s.own⟩ [(false,d,0)]
 | res (d:Nat) (p:PVal) (L:List (Nat×TypeId)) (hd:o.dst = some d)
   (h:(∃T len parts e,o.op=.buildSlice T len parts/\fD P T len (parts.toList.map λx=>(x.1,opv GE s.tmps x.2))=some p/\P.underlying T=some (.slice e)/\L=[(0,e)])\/
    (∃T parts,o.op=.build T parts/\cx P T (parts.toList.map λx=>(x.1,opv GE s.tmps x.2))=some p/\wT P T (parts.toList.map λx=>(x.1,opv GE s.tmps x.2)) L)\/
    (∃v e,(o.op=.assign (.const v)\/o.op=.move (.const v))/\yq P o.type v=some e/\p=.slice []/\L=[(0,e)])):
   kq P GE bi rw o id s ⟨s.tmps.set d p,s.boxes,(L.map λx=>((d,x.1),x.2))++co d s.own⟩ [(false,d,0)]
 | app (d t:Nat) (T e:TypeId) (y:Operand) (es ns:List (List PVal)) (p:PVal) (hd:o.dst = some d) (ho:o.op = .call { callee := .builtin .append,args:=⟨[.tmp t,y]⟩,argTypes:=⟨[T,T]⟩ })
   (hT:P.underlying T=some (.slice e)) (he:s.tmps.getD t .undef=.slice es) (hn:opv GE s.tmps y=.slice ns) (hp:yt P T es ns=some p) (hm:((t,0),e)∈s.own):
   kq P GE bi rw o id s ⟨s.tmps.set d p,s.boxes,((d,0),e)::co d (s.own.filter λx=>x.1 !=(t,0))⟩ [(false,d,0),(false,t,0)]
 | mv (d t:Nat) (hd:o.dst = some d) (ho:o.op = .assign (.tmp t)∨o.op = .move (.tmp t)) (hdt:d ≠ t) :
   kq P GE bi rw o id s ⟨s.tmps.set d (s.tmps.getD t .undef),s.boxes,qw d (λx=>if x.1=t then(d,x.2)else x) s.own⟩ [(false,d,0),(false,t,0)]
 | ld (d:Nat) (T:TypeId) (x:Operand) (i off:Nat) (cs:List PVal) (own L:List (Nat×TypeId)) (p:PVal) (hd:o.dst = some d) (ho:o.op = .load T x) (hx:opv GE s.tmps x = .bptr i off) (hB:s.boxes[i]? = some (.cells cs own))
   (h:(∃e,P.underlying T=some (.slice e)/\cs[off]? =some p/\L=[(0,e)])\/(∃fs l,P.underlying T=some (.struct fs)/\bz P T (cs.drop off)=some (.agg l)/\p=.agg l/\(L.map (·.1)).Nodup/\∀y∈L,y.1<l.length))
   (hm:∀y∈L,(off+y.1,y.2)∈own):
   kq P GE bi rw o id s ⟨s.tmps.set d p,s.boxes.set i (.cells cs (own.filter λx=>!L.any λy=>x.1==off+y.1)),(L.map λy=>((d,y.1),y.2)).reverse++co d s.own⟩ ((false,d,0)::L.map λy=>(true,i,off+y.1))
 | st (T:TypeId) (x y:Operand) (i off:Nat) (vs cs:List PVal) (own:List (Nat×TypeId)) (hd:o.dst = none) (ho:o.op = .store T x y) (hx:opv GE s.tmps x = .bptr i off) (hvs:ca (opv GE s.tmps y) = some vs) (hB:s.boxes[i]? = some (.cells cs own))
   (hp:fk P T (.bptr i off) (opv GE s.tmps y) s.boxes=some (s.boxes.set i (.cells (cs.take off++vs++cs.drop (off+vs.length)) (own.filter λy=>y.1<off||off+vs.length<=y.1)))):
   kq P GE bi rw o id s ⟨s.tmps,s.boxes.set i (.cells (cs.take off++vs++cs.drop (off+vs.length)) (own.filter λy=>y.1<off||off+vs.length<=y.1)),s.own⟩ (B5 i off vs.length)
 | sto (T:TypeId) (x:Operand) (t i off:Nat) (vs cs:List PVal) (own L:List (Nat×TypeId)) (hd:o.dst = none) (ho:o.op = .store T x (.tmp t)) (hx:opv GE s.tmps x = .bptr i off) (hvs:ca (s.tmps.getD t .undef) = some vs) (hB:s.boxes[i]? = some (.cells cs own))
   (hp:fk P T (.bptr i off) (s.tmps.getD t .undef) s.boxes=some (s.boxes.set i (.cells (cs.take off++vs++cs.drop (off+vs.length)) (own.filter λy=>y.1<off||off+vs.length<=y.1))))
   (hk:(∃l,s.tmps.getD t .undef=.agg l)\/((s.tmps.getD t .undef).one=true/\∃e,L=[(0,e)])) (hm:∀y∈L,((t,y.1),y.2)∈s.own) (hn:(L.map (·.1)).Nodup) (hl:∀y∈L,y.1<vs.length):
   kq P GE bi rw o id s ⟨s.tmps,s.boxes.set i (.cells (cs.take off++vs++cs.drop (off+vs.length)) ((L.map λy=>(off+y.1,y.2)).reverse++own.filter λy=>y.1<off||off+vs.length<=y.1)),s.own.filter λx=>!L.any λy=>x.1==(t,y.1)⟩
    ((false,t,0)::B5 i off vs.length)
 |mu (t:TypeId) (m k x:Operand) (H:List aJ) (hd:o.dst=none) (ho:o.op=.mapUpdate t m k x) (hp:iF P t (opv GE s.tmps m) (opv GE s.tmps k) (opv GE s.tmps x) s.boxes=some H):kq P GE bi rw o id s ⟨s.tmps,H,s.own⟩ []
 | callR (d:Nat) (f:Operand) (args:Array Operand) (tys:Array TypeId) (r:PVal) (ro:List (Nat×TypeId)) (oa:List OA) (ho:o.op = .call { callee := .value f,args,argTypes:=tys }) (hd:o.dst = some d)
   (hg:∀st:aK,(∀x,x=f\/x∈args.toList->opv GE s.tmps x=opv GE st.tmps x)->(∀x∈oa,((x.t,x.k),x.e)∈s.own->((x.t,x.k),x.e)∈st.own)->Lx P GE f args.toList st r ro st.boxes oa):
   kq P GE bi rw o id s ⟨s.tmps.set d r,s.boxes,(ro.map λx=>((d,x.1),x.2))++co d (s.own.filter λz=>!oa.any λx=>z.1==(x.t,x.k))⟩ ((false,d,0)::oa.map λx=>(false,x.t,0))
 | stR (T:TypeId) (x y:Operand) (i off:Nat) (cs cs':List PVal) (hd:o.dst = none) (ho:o.op = .store T x y) (hx:opv GE s.tmps x = .bptr i off) (hB:s.boxes[i]? = some (.cells cs []))
   (hp:fk P T (.bptr 0 off) (opv GE s.tmps y) [.cells cs []]=some [.cells cs' []]) (hi:2 * i∈rw):
   kq P GE bi rw o id s ⟨s.tmps,s.boxes.set i (.cells cs' []),s.own⟩ []
structure qn9(P:Program)(rw:List Nat)(o:Oper)(s s':aK)(rs:List Rs):Prop where
 tm:match o.dst with
  |some d=>∃p,s'.tmps=s.tmps.set d p
  |none=>s'.tmps=s.tmps
 bx:ck P rw o≠3->s'.boxes.map bj=s.boxes.map bj
 back:∀τ,ew τ∉rs->jB s' τ->jB s τ
theorem VD{H:List aJ}{i:Nat}{cs:List PVal}{own own':List (Nat×TypeId)}(hB:H[i]? =some (.cells cs own)):(H.set i (.cells cs own')).map bj=H.map bj:=by
 apply vbg
 intro j
 simp only[vaB]
 by_cases hj:i=j
 ·subst hj
  rw[vah (av hB),hB];rfl
 ·rw[vau hj]
theorem dm{st:aK}{t k:Nat}{e:TypeId}:jB st (false,(t,k),e)↔((t,k),e)∈st.own:=Iff.rfl
theorem eh{st:aK}{i j:Nat}{e:TypeId}:jB st (true,(i,j),e)↔∃cs own,st.boxes[i]? =some (.cells cs own)/\(j,e)∈own:=Iff.rfl
theorem wx{i off n i' j':Nat}:(true,i',j')∈B5 i off n↔i'=i/\off<=j'/\j'<off+n:=by
 unfold B5
 simp only[var,vbD,Prod.mk.injEq,vcf]
 constructor
 ·rintro⟨k,hk,rfl,rfl⟩;exact⟨rfl,by omega,by omega⟩
 ·rintro⟨rfl,h1,h2⟩;exact⟨j' - off,by omega,rfl,by omega⟩
theorem gQ{d:Nat}{own:List ((Nat×Nat)×TypeId)}{x:(Nat×Nat)×TypeId}(h:x∈own)(hd:x.1.1≠d):x∈co d own:=by
 unfold co;exact va2.2 ⟨h,by simpa using hd⟩
theorem HZ{t:TypeId}{m k v:PVal}{H H':List aJ}(h:iF P t m k v H=some H'):∃i es es',H[i]? =some (.map es)/\H'=H.set i (.map es'):=by
 unfold iF at h
 split at h
 ·rename_i kt e i _ _
  split at h
  ·rename_i es kd hB _
   split at h
   ·split at h
    ·cases h;exact⟨_,es,_,hB,rfl⟩
    ·cases h;exact⟨_,es,_,hB,rfl⟩
    ·cases h
   ·cases h
  ·cases h
 ·cases h
theorem ic{st:aK}{tm:List PVal}{ow:List ((Nat×Nat)×TypeId)}{i:Nat}{B:aJ}{i' j':Nat}{e:TypeId}(hne:i≠i'):jB ⟨tm,st.boxes.set i B,ow⟩ (true,(i',j'),e)↔jB st (true,(i',j'),e):=by
 simp only[eh,vau hne]
theorem kq.eff{bi:Option (Nat×aJ)}{rw:List Nat}{o:Oper}{id:Nat}{s s':aK}{rs:List Rs}(h:kq P GE bi rw o id s s' rs):qn9 P rw o s s' rs:=by
 have slot:∀{d:Nat} {p:PVal} {L:List (Nat×TypeId)} {rs:List Rs} {τ:qaP},(false,d,0)∈rs->ew τ∉rs->jB ⟨s.tmps.set d p,s.boxes,(L.map λx=>((d,x.1),x.2))++co d s.own⟩ τ->jB s τ:=by
  rintro d p L rs ⟨b,⟨t,k⟩,e⟩ hd hr hh
  cases b with
  |true=>exact hh
  | false =>
   rcases vaR.1 (dm.1 hh)with hh|hh
   ·simp only[var,Prod.mk.injEq]at hh
    obtain⟨x,_,⟨rfl,_⟩,_⟩:=hh
    exact absurd hd hr
   ·exact(ee hh).1
 have slot0:∀{d:Nat} {p:PVal} {rs:List Rs} {τ:qaP},(false,d,0)∈rs->ew τ∉rs->jB ⟨s.tmps.set d p,s.boxes,co d s.own⟩ τ->jB s τ:=λ{d p rs τ} hd hr hh=>slot (L:=[]) hd hr hh
 cases h with
 |call d f args tys g first cap r ro ho hd hf hcl hc=>exact⟨by rw[hd];exact⟨r,rfl⟩,λ_=>rfl,λτ hr hh=>slot (by simp) hr hh⟩
 |alloc d t zs ho hd hz=>exact⟨by rw[hd];exact⟨_,rfl⟩,λ_=>rfl,λτ hr hh=>slot0 (by simp) hr hh⟩
 |mkmap d t ho hd=>exact⟨by rw[hd];exact⟨_,rfl⟩,λ_=>rfl,λτ hr hh=>slot0 (by simp) hr hh⟩
 |ev d p hd hn hm hc h=>exact⟨by rw[hd];exact⟨_,rfl⟩,λ_=>rfl,λτ hr hh=>slot0 (by simp) hr hh⟩
 |res d p L hd h=>exact⟨by rw[hd];exact⟨_,rfl⟩,λ_=>rfl,λτ hr hh=>slot (by simp) hr hh⟩
 | app d t T e y es ns p hd ho hT he hn hp hm =>
  refine⟨by rw[hd];exact⟨_,rfl⟩,λ_=>rfl,?_⟩
  rintro⟨b,⟨t',k⟩,e'⟩ hr hh
  cases b with
  |true=>exact hh
  | false =>
   rcases vaF.1 (dm.1 hh)with hh|hh
   ·cases hh;exact absurd (by simp[ew]) hr
   ·exact(cd (ee hh).1).1
 | mv d t hd ho hdt =>
  refine⟨by rw[hd];exact⟨_,rfl⟩,λ_=>rfl,?_⟩
  rintro⟨b,⟨t',k⟩,e'⟩ hr hh
  cases b with
  |true=>exact hh
  | false =>
   have hh:=dm.1 hh
   simp only[qw,var]at hh
   obtain⟨⟨⟨t2,k2⟩,e2⟩,hx,he⟩:=hh
   simp only[Prod.mk.injEq]at he
   obtain⟨he,rfl⟩:=he
   split at he
   ·cases he;exact absurd (by simp[ew]) hr
   ·cases he;exact(ee hx).1
 | ld d T x i off cs own L p hd ho hx hB h hm =>
  refine⟨by rw[hd];exact⟨_,rfl⟩,λ_=>VD hB,?_⟩
  rintro⟨b,⟨t',k⟩,e'⟩ hr hh
  cases b with
  | true =>
   by_cases hi:i=t'
   ·subst hi
    obtain⟨cs',own',h1,h2⟩:=eh.1 hh
    simp only[vah (av hB),vaz,aJ.cells.injEq]at h1
    obtain⟨rfl,rfl⟩:=h1
    exact⟨_,_,hB,(cd h2).1⟩
   ·exact(ic hi).1 hh
  | false =>
   rcases vaR.1 (dm.1 hh)with hh|hh
   ·simp only[vcb,var,Prod.mk.injEq]at hh
    obtain⟨y,_,⟨rfl,_⟩,_⟩:=hh
    exact absurd (by simp[ew]) hr
   ·exact(ee hh).1
 | st T x y i off vs cs own hd ho hx hvs hB hp =>
  refine⟨by rw[hd],λhc=>absurd (by simp[ck,cy,ho]) hc,?_⟩
  rintro⟨b,⟨t',k⟩,e'⟩ hr hh
  cases b with
  |false=>exact hh
  | true =>
   by_cases hi:i=t'
   ·subst hi
    obtain⟨cs',own',h1,h2⟩:=eh.1 hh
    simp only[vah (av hB),vaz,aJ.cells.injEq]at h1
    obtain⟨rfl,rfl⟩:=h1
    exact⟨_,_,hB,(cd h2).1⟩
   ·exact(ic hi).1 hh
 | sto T x t i off vs cs own L hd ho hx hvs hB hp hk hm hn hl =>
  refine⟨by rw[hd],λhc=>absurd (by simp[ck,cy,ho]) hc,?_⟩
  rintro⟨b,⟨t',k⟩,e'⟩ hr hh
  cases b with
  |false=>exact(cd (dm.1 hh)).1
  | true =>
   by_cases hi:i=t'
   ·subst hi
    obtain⟨cs',own',h1,h2⟩:=eh.1 hh
    simp only[vah (av hB),vaz,aJ.cells.injEq]at h1
    obtain⟨rfl,rfl⟩:=h1
    rcases vaR.1 h2 with h2|h2
    ·simp only[vcb,var,Prod.mk.injEq]at h2
     obtain⟨y,hy,rfl,_⟩:=h2
     refine absurd (vaL _ (wx.2 ⟨rfl,?_,?_⟩)) hr
     ·simp
     ·have:=hl y hy;simp;omega
    ·exact⟨_,_,hB,(cd h2).1⟩
   ·exact(ic hi).1 hh
 | mu t m k x H hd ho hp =>
  refine⟨by rw[hd],λhc=>absurd (by simp[ck,cy,ho]) hc,?_⟩
  obtain⟨i,es,es',hB,rfl⟩:=HZ hp
  rintro⟨b,⟨t',k⟩,e'⟩ hr hh
  cases b with
  |false=>exact hh
  | true =>
   by_cases hi:i=t'
   ·subst hi
    obtain⟨cs',own',h1,h2⟩:=eh.1 hh
    simp only[vah (av hB),vaz]at h1
    cases h1
   ·exact(ic hi).1 hh
 | callR d f args tys r ro oa ho hd hg =>
  refine⟨by rw[hd];exact⟨r,rfl⟩,λ_=>rfl,?_⟩
  rintro⟨b,⟨t',k⟩,e'⟩ hr hh
  cases b with
  |true=>exact hh
  | false =>
   rcases vaR.1 (dm.1 hh)with hh|hh
   ·simp only[var,Prod.mk.injEq]at hh
    obtain⟨x,_,⟨rfl,_⟩,_⟩:=hh
    exact absurd (by simp[ew]) hr
   ·exact(cd (ee hh).1).1
 | stR T x y i off cs cs' hd ho hx hB hp hi =>
  refine⟨by rw[hd],λhc=>absurd (by simp[ck,cy,ho]) hc,?_⟩
  rintro⟨b,⟨t',k⟩,e'⟩ hr hh
  cases b with
  |false=>exact hh
  | true =>
   by_cases hi':i=t'
   ·subst hi'
    obtain⟨cs1,own1,k1,k2⟩:=eh.1 hh
    simp only[vah (av hB),vaz,aJ.cells.injEq]at k1
    obtain⟨rfl,rfl⟩:=k1
    cases k2
   ·exact(ic hi').1 hh
theorem YD{H H2:List aJ}(h:H2.map bj=H.map bj){i:Nat}{es:List (PVal×PVal)}(hi:H[i]? =some (.map es)):H2[i]? =some (.map es):=by
 have:=WZ h i
 rw[hi]at this
 cases hB:H2[i]? with
 |none=>rw[hB]at this;cases this
 |some B=>
  rw[hB]at this
  cases B<;>simp[bj]at this
  subst this
  rfl
theorem Fc{H H2:List aJ}(h:H2.map bj=H.map bj){i:Nat}{B B2:aJ}(hB:bj B2=bj B):(H2.set i B2).map bj=(H.set i B).map bj:=by
 rw[List.map_set,List.map_set,h,hB]
theorem UI{t:TypeId}{m k v:PVal}{H H' H2:List aJ}(hs:H2.map bj=H.map bj)(h:iF P t m k v H=some H'):∃i es',m=.mapr i/\H'=H.set i (.map es')/\iF P t m k v H2=some (H2.set i (.map es')):=by
 unfold iF at h ⊢
 split at h
 ·split at h
  ·rename_i es kd hB hk
   split at h
   ·rename_i hkk
    split at h
    ·rename_i hf;cases h;refine⟨_,_,rfl,rfl,?_⟩;simp only[YD hs hB,hk,vad hkk,hf]
    ·rename_i hf;cases h;refine⟨_,_,rfl,rfl,?_⟩;simp only[YD hs hB,hk,vad hkk,hf]
    ·cases h
   ·cases h
  ·cases h
 ·cases h
structure qdJ(P:Program)(bs:bZ)(rw:List Nat)(o:Oper)(st st' s s':aK)(rs:List Rs):Prop where
 tm:match o.dst with
  |some d=>∃p,st'.tmps=st.tmps.set d p/\s'.tmps=s.tmps.set d p
  |none=>st'.tmps=st.tmps/\s'.tmps=s.tmps
 b1:ck P rw o≠3->st'.boxes.map bj=st.boxes.map bj
 b2:ck P rw o=3->st'.boxes.map bj=s'.boxes.map bj
 keep:∀τ,ew τ∉rs->(τ.1=true->2 * τ.2.1.1∉rw)->jB st τ->jB st' τ
 got:∀τ,ew τ∈rs->jB s' τ->jB st' τ
 un:∀i:Nat,bs[i]? =some none->st'.boxes[i]? =st.boxes[i]?
theorem SJ{st:aK}{tm:List PVal}{d:Nat}{L:List (Nat×TypeId)}{rs:List Rs}{R:qaP->Prop}(hd:(false,d,0)∈rs)(τ:qaP)(hr:ew τ∉rs)(_:R τ)(h:jB st τ):jB ⟨tm,st.boxes,(L.map λx=>((d,x.1),x.2))++co d st.own⟩ τ:=by
 obtain⟨b,⟨t,k⟩,e⟩:=τ
 cases b with
 |true=>exact h
 |false=>exact vaM _ (gQ (dm.1 h) λhx=>by simp only at hx;subst hx;exact hr hd)
theorem qac{st s:aK}{tm tm':List PVal}{d:Nat}{L:List (Nat×TypeId)}(τ:qaP)(hr:ew τ∈[(false,d,0)])(h:jB ⟨tm',s.boxes,(L.map λx=>((d,x.1),x.2))++co d s.own⟩ τ):jB ⟨tm,st.boxes,(L.map λx=>((d,x.1),x.2))++co d st.own⟩ τ:=by
 obtain⟨b,⟨t,k⟩,e⟩:=τ
 cases b with
 |true=>simp[ew]at hr
 | false =>
  rcases vaR.1 (dm.1 h)with h|h
  ·exact vaU _ h
  ·have:=(ee h).2
   simp[ew]at hr
   exact absurd hr this
section
variable{E:wF}{Γ:bN}{bs:bZ}{ow:Nat->Option nS}{w:World}{a:Act}{st:aK}
theorem MZ{T:TypeId}{i off:Nat}{y:PVal}{vs cs:List PVal}{own:List (Nat×TypeId)}{H H':List aJ}(hvs:ca y=some vs)(hB:H[i]? =some (.cells cs own))(hp:fk P T (.bptr i off) y H=some H'){H2:List aJ}{own2:List (Nat×TypeId)}(hB2:H2[i]? =some (.cells cs own2)):fk P T (.bptr i off) y H2=some (H2.set i (.cells (cs.take off++vs++cs.drop (off+vs.length)) (own2.filter λy=>y.1<off||off+vs.length<=y.1))):=by
 simp only[fk,hvs,hB]at hp
 simp only[fk,hvs,hB2]
 split at hp
 ·rename_i hc;rw[vad hc]
 ·cases hp
theorem qaB{T:TypeId}{i off:Nat}{y:PVal}{cs cs':List PVal}{own2:List (Nat×TypeId)}{H:List aJ}(hp:fk P T (.bptr 0 off) y [.cells cs []]=some [.cells cs' []])(hB:H[i]? =some (.cells cs own2)):∃own',fk P T (.bptr i off) y H=some (H.set i (.cells cs' own')):=by
 unfold fk at hp ⊢
 split at hp
 ·rename_i i' off' vs h1 h2
  cases h1
  simp only[List.getElem?_cons_zero]at hp
  simp only[h2,hB]
  split at hp
  ·rename_i hc
   rw[vad hc]
   simp only[List.set_cons_zero,vaz,vbF,aJ.cells.injEq,vce]at hp
   obtain⟨rfl,_⟩:=hp
   exact⟨_,rfl⟩
  ·cases hp
 ·cases hp
theorem kq.sound(h:SR P E Γ bs ow w a.tmps st){bi:Option (Nat×aJ)}{rw:List Nat}{o:Oper}{id:Nat}{s s':aK}{rs:List Rs}(hs:kq P E.GE bi rw o id s s' rs)(hid:aO o.op=true->bs[id]? =some none/\st.boxes[id]? =pd P o)(hbi:∀i B,bi=some (i,B)->bs[i]? =some none/\st.boxes[i]? =some B)
    (hopv:∀x∈o.op.operands.toList,opv E.GE s.tmps x=opv E.GE st.tmps x) (hbx:2<=ck P rw o->st.boxes.map bj=s.boxes.map bj) (htok:∀τ,ew τ∈rs->jB s τ->jB st τ) (hdd:∀d,o.dst=some d->d<st.tmps.length)
    (Q:Exit->Act->World->Prop):
    o.wp P a w (λa' w'=>a'.defers=a.defers/\∃Γ' bs' ow' st',SR P E Γ' bs' ow' w' a'.tmps st'/\qdJ P bs rw o st st' s s' rs/\(bs'=bs\/(aO o.op=true/\∃b,bs'=bs.set id (some b))\/∃i B x,bi=some (i,B)/\bs'=bs.set i x)) Q:=by
  have fin:∀{st'},qdJ P bs rw o st st' s s' rs->o.wp P a w (gT P E bs id (aO o.op) a.defers (·=st')) Q->o.wp P a w (λa' w'=>a'.defers=a.defers/\∃Γ' bs' ow' st',SR P E Γ' bs' ow' w' a'.tmps st'/\qdJ P bs rw o st st' s s' rs/\(bs'=bs\/(aO o.op=true/\∃b,bs'=bs.set id (some b))\/∃i B x,bi=some (i,B)/\bs'=bs.set i x)) Q:=by
    intro st' hD hw
    refine Oper.wp_mono (λa' w' hA=>?_) hw
    obtain⟨h1,Γ',bs',ow',st2,h2,rfl,h3⟩:=hA
    exact⟨h1,Γ',bs',ow',_,h2,hD,h3.imp_right .inl⟩
  have hid':aO o.op=true->bs[id]? =some none:=λhm=>(hid hm).1
  have live:∀{x:Operand} {i off:Nat},opv E.GE st.tmps x=.bptr i off->∃b,bs[i]? =some (some b):=by
    intro x i off hx
    have hv:=h.opv a.defers x
    rw[hx]at hv
    generalize (Act.mk a.tmps a.defers).eval x=vx at hv
    cases hv with
    |bptr _ _ b hb=>exact⟨b,hb⟩
  cases hs with
  | call d f args tys g first cap r ro ho hd hf hcl hc =>
    have hop:∀x,x=f\/x∈args.toList->opv E.GE s.tmps x=opv E.GE st.tmps x:=λx hx=>hopv x (by rw[ho];simp[Op.operands,Call.operands];simpa using hx)
    have hargs:args.toList.map (opv E.GE s.tmps)=args.toList.map (opv E.GE st.tmps):=vbm λx hx=>hop x (.inr hx)
    rw[hargs]at hcl hc
    rw[hop f (.inl rfl)]at hf
    refine fin (st':=⟨st.tmps.set d r,st.boxes,(ro.map λx=>((d,x.1),x.2))++co d st.own⟩) ⟨by rw[hd];exact⟨r,rfl,rfl⟩,λ_=>rfl,λhc=>hbx (by rw[hc];decide),SJ (by simp),qac,λ_ _=>rfl⟩ ?_
    refine gT.of h hid' (by simp[oY,ho,hd,hdd d hd]) ?_ Q
    unfold UG
    rw[ho]
    simp only[KU,hf]
    refine .inl ⟨hcl,r,ro,hc,?_⟩
    rw[hd];rfl
  | alloc d t zs ho hd hz =>
    have hpre:=(hid (by rw[ho];rfl)).2
    simp only[pd,ho,hz]at hpre
    refine fin (st':=⟨st.tmps.set d (.bptr id 0),st.boxes,co d st.own⟩) ⟨by rw[hd];exact⟨_,rfl,rfl⟩,λ_=>rfl,λhc=>by simp[ck,cy,ho]at hc,SJ (L:=[]) (by simp),qac (L:=[]),λ_ _=>rfl⟩ ?_
    refine gT.of h hid' (by simp[oY,ho]) ?_ Q
    unfold UG
    rw[ho]
    simp only[vp,hz,vaj,M9 hpre]
    rw[hd];rfl
  | mkmap d t ho hd =>
    have hpre:=(hid (by rw[ho];rfl)).2
    simp only[pd,ho]at hpre
    refine fin (st':=⟨st.tmps.set d (.mapr id),st.boxes,co d st.own⟩) ⟨by rw[hd];exact⟨_,rfl,rfl⟩,λ_=>rfl,λhc=>by simp[ck,cy,ho]at hc,SJ (L:=[]) (by simp),qac (L:=[]),λ_ _=>rfl⟩ ?_
    refine gT.of h hid' (by simp[oY,ho]) ?_ Q
    unfold UG
    rw[ho]
    simp only[vp,M9 hpre]
    rw[hd];rfl
  | ev d p hd hn hm hc hp =>
    have hnc:∀f args tys,o.op≠.call {callee:=.value f,args,argTypes:=tys}:=λf args tys e=>by rw[e]at hn;cases hn
    rw[L7 hnc]at hbx
    have hp2:=qjx (H2:=st.boxes) hc hm hp λh2=>hbx h2
    rw[qfk hopv]at hp2
    refine fin (st':=⟨st.tmps.set d p,st.boxes,co d st.own⟩) ⟨by rw[hd];exact⟨_,rfl,rfl⟩,λ_=>rfl,λhc'=>by rw[L7 hnc]at hc';exact absurd hc' hc,SJ (L:=[]) (by simp),qac (L:=[]),λ_ _=>rfl⟩ ?_
    refine gT.of h hid' ?_ ?_ Q
    · unfold oY
      split
      ·rename_i f args tys ho;exact absurd ho (hnc _ _ _)
      ·rfl
    · unfold UG
      split
      ·rename_i f args tys ho;exact absurd ho (hnc _ _ _)
      · rw [hp2]
        show CP st o.dst p [] st.boxes=_
        rw[hd];rfl
  | res d p L hd hh =>
    have hcl:ck P rw o≠3:=by
      rcases hh with⟨T,len,parts,e,ho,_⟩|⟨T,parts,ho,_⟩|⟨v,e,ho|ho,_⟩<;>simp[ck,cy,ho]
    refine fin (st':=⟨st.tmps.set d p,st.boxes,(L.map λx=>((d,x.1),x.2))++co d st.own⟩) ⟨by rw[hd];exact⟨_,rfl,rfl⟩,λ_=>rfl,λhc=>absurd hc hcl,SJ (by simp),qac,λ_ _=>rfl⟩ ?_
    rcases hh with⟨T,len,parts,e,ho,h1,h2,rfl⟩|⟨T,parts,ho,h1,h2⟩|⟨v,e,ho,h1,rfl,rfl⟩
    · have hpt:(parts.toList.map fun x => (x.1,opv E.GE s.tmps x.2)) = parts.toList.map fun x => (x.1,opv E.GE st.tmps x.2):=vbm fun x hx => by rw [hopv x.2 (by rw [ho]; simp only [Op.operands]; exact var.2 ⟨x,hx,rfl⟩)]
      rw[hpt]at h1
      exact C5 (K:=(·=_)) h ho hd (hdd d hd) h2 h1 rfl Q
    · have hpt:(parts.toList.map fun x => (x.1,opv E.GE s.tmps x.2)) = parts.toList.map fun x => (x.1,opv E.GE st.tmps x.2):=vbm fun x hx => by rw [hopv x.2 (by rw [ho]; simp only [Op.operands]; exact var.2 ⟨x,hx,rfl⟩)]
      rw[hpt]at h1 h2
      exact HA (K:=(·=_)) h ho hd (hdd d hd) h1 h2 rfl Q
    ·exact Oz (K:=(·=_)) h ho hd (hdd d hd) h1 rfl Q
  | app d t T e y es ns p hd ho hT he hn hp hm =>
    have hop:∀x,x=.tmp t\/x=y->opv E.GE s.tmps x=opv E.GE st.tmps x:=λx hx=>hopv x (by rw[ho];simp[Op.operands,Call.operands];rcases hx with rfl|rfl<;>simp)
    have he':st.tmps.getD t .undef=.slice es:=(hop (.tmp t) (.inl rfl)).symm.trans he
    rw[hop y (.inr rfl)]at hn
    have hm':((t,0),e)∈st.own:=htok (false,(t,0),e) (by simp[ew]) hm
    refine fin (st':=⟨st.tmps.set d p,st.boxes,((d,0),e)::co d (st.own.filter λx=>x.1 !=(t,0))⟩) ⟨by rw[hd];exact⟨_,rfl,rfl⟩,λ_=>rfl,λhc=>by simp[ck,cy,ho]at hc,?_,?_,λ_ _=>rfl⟩ (L4 (K:=(·=_)) h ho hd (hdd d hd) hT he' hn hp hm' rfl Q)
    · rintro ⟨b,⟨t',k⟩,e'⟩ hr _ hh
      cases b with
      |true=>exact hh
      | false =>
        simp[ew]at hr
        refine vaL _ (gQ (va2.2 ⟨dm.1 hh,?_⟩) hr.1)
        simp only[bne_iff_ne,ne_eq,Prod.mk.injEq,not_and]
        exact λe=>absurd e hr.2
    · rintro ⟨b,⟨t',k⟩,e'⟩ hr hh
      cases b with
      |true=>simp[ew]at hr
      | false =>
        rcases vaF.1 (dm.1 hh)with hh|hh
        ·rw[hh];exact List.mem_cons_self
        · obtain ⟨h1,h2⟩:=ee hh
          obtain⟨h3,h4⟩:=cd h1
          have h5:((t',k),e')∈st.own:=htok (false,(t',k),e') hr h3
          exact vaL _ (gQ (va2.2 ⟨h5,h4⟩) h2)
  | mv d t hd ho hdt =>
    have hg:s.tmps.getD t .undef=st.tmps.getD t .undef:=hopv (.tmp t) (by rcases ho with ho|ho<;>rw[ho]<;>simp[Op.operands])
    have hcl:ck P rw o≠3:=by rcases ho with ho|ho<;>simp[ck,cy,ho]
    refine fin (st':=⟨st.tmps.set d (st.tmps.getD t .undef),st.boxes,qw d (λx=>if x.1=t then(d,x.2)else x) st.own⟩) ⟨by rw[hd];exact⟨_,rfl,by rw[hg]⟩,λ_=>rfl,λhc=>absurd hc hcl,?_,?_,λ_ _=>rfl⟩ (KP (K:=(·=_)) h ho hd (hdd d hd) rfl Q)
    · rintro ⟨b,⟨t',k⟩,e'⟩ hr _ hh
      cases b with
      |true=>exact hh
      | false =>
        simp[ew]at hr
        refine var.2 ⟨((t',k),e'),gQ (dm.1 hh) hr.1,?_⟩
        simp only
        rw[vab hr.2]
    · rintro ⟨b,⟨t',k⟩,e'⟩ hr hh
      cases b with
      |true=>simp[ew]at hr
      | false =>
        obtain⟨⟨⟨t2,k2⟩,e2⟩,hx,he⟩:=var.1 (dm.1 hh)
        simp only[Prod.mk.injEq]at he
        obtain⟨he,rfl⟩:=he
        obtain⟨h1,h2⟩:=ee hx
        by_cases ht:t2=t
        · subst ht
          rw[vad rfl]at he
          cases he
          have h5:((t2,k),e2)∈st.own:=htok (false,(t2,k),e2) (by simp[ew]) h1
          exact var.2 ⟨((t2,k),e2),gQ h5 h2,by simp⟩
        · rw [vab ht] at he
          cases he
          simp[ew]at hr
          rcases hr with hr|hr
          ·exact absurd hr h2
          ·exact absurd hr ht
  | ld d T x i off cs own L p hd ho hx hB hh hm =>
    have hx':opv E.GE st.tmps x=.bptr i off:=(hopv x (by rw[ho];simp[Op.operands])).symm.trans hx
    obtain⟨bb,hbb⟩:=live hx'
    obtain⟨own2,hB2⟩:=Ex (hbx (by simp[ck,cy,ho])) hB
    have hm2:∀y∈L,(off+y.1,y.2)∈own2:=λy hy=>by
      obtain⟨cs',own',e1,e2⟩:=eh.1 (htok (true,(i,off+y.1),y.2) (vaL _ (var.2 ⟨y,hy,rfl⟩)) ⟨cs,own,hB,hm y hy⟩)
      rw[hB2]at e1;cases e1;exact e2
    refine fin (st':=⟨st.tmps.set d p,st.boxes.set i (.cells cs (own2.filter λx=>!L.any λy=>x.1==off+y.1)),(L.map λy=>((d,y.1),y.2)).reverse++co d st.own⟩)
      ⟨by rw[hd];exact⟨_,rfl,rfl⟩,λ_=>VD hB2,λhc=>by simp[ck,cy,ho]at hc,?_,?_,λk hk=>by rw[vau (λe=>by subst e;rw[hbb]at hk;cases hk)]⟩ ?_
    · rintro ⟨b,⟨t',k⟩,e'⟩ hr _ hh
      cases b with
      |false=>exact vaM _ (gQ (dm.1 hh) λhx=>hr (by simp only at hx;subst hx;simp[ew]))
      | true =>
        by_cases hi:i=t'
        · subst hi
          obtain⟨cs',own',e1,e2⟩:=eh.1 hh
          rw[hB2]at e1;cases e1
          refine⟨_,_,vah (av hB2),va2.2 ⟨e2,?_⟩⟩
          simp only[vaX,vbh,va7]
          intro y hy e
          exact hr (vaL _ (var.2 ⟨y,hy,by simp[ew,e]⟩))
        ·exact(ic hi).2 hh
    · rintro ⟨b,⟨t',k⟩,e'⟩ hr hh
      cases b with
      | false =>
        rcases vaR.1 (dm.1 hh)with hh|hh
        ·exact vaU _ hh
        · have h2:=(ee hh).2
          simp[ew]at hr
          exact absurd hr h2
      | true =>
        exfalso
        have hr2:(true,t',k)∈L.map λy=>(true,i,off+y.1):=by simpa[ew]using hr
        obtain⟨y,hy,e⟩:=var.1 hr2
        simp only[Prod.mk.injEq,vcf]at e
        obtain⟨rfl,rfl⟩:=e
        obtain⟨cs',own',e1,e2⟩:=eh.1 hh
        simp only[vah (av hB),vaz,aJ.cells.injEq]at e1
        obtain⟨rfl,rfl⟩:=e1
        have:=(cd e2).2
        simp only[vaX,vbh,va7]at this
        exact this y hy rfl
    · rcases hh with ⟨e,hT,hp,rfl⟩ | ⟨fs,l,hT,hp,rfl,hn,hl⟩
      · refine J0 (K:=(· = _)) h ho hd (hdd d hd) hT hx' hB2 hp (hm2 _ (vcB _)) ?_ Q
        simp only[vae,vaP,vc3,List.reverse_nil,vaS,List.singleton_append,aK.mk.injEq,vcf,vce]
        congr 3
        funext z
        simp[bne]
      · refine KZ h (K:=(· = _)) ?_ Q
        unfold Tt
        simp only[ho,hd]
        exact⟨i,off,cs,own2,L,l,⟨fs,hT⟩,hx',hB2,hp,hm2,hn,hl,hdd d hd,rfl⟩
  | st T x y i off vs cs own hd ho hx hvs hB hp =>
    have hx':opv E.GE st.tmps x=.bptr i off:=(hopv x (by rw[ho];simp[Op.operands])).symm.trans hx
    have hy':opv E.GE s.tmps y=opv E.GE st.tmps y:=hopv y (by rw[ho];simp[Op.operands])
    rw[hy']at hvs hp
    obtain⟨bb,hbb⟩:=live hx'
    have hst:=hbx (by simp[ck,cy,ho])
    obtain⟨own2,hB2⟩:=Ex hst hB
    have hp2:=MZ hvs hB hp hB2
    refine fin (st':=⟨st.tmps,st.boxes.set i (.cells (cs.take off++vs++cs.drop (off+vs.length)) (own2.filter λy=>y.1<off||off+vs.length<=y.1)),st.own⟩)
      ⟨by rw[hd];exact⟨rfl,rfl⟩,λhc=>absurd (by simp[ck,cy,ho]) hc,λ_=>Fc hst rfl,?_,?_,λk hk=>by rw[vau (λe=>by subst e;rw[hbb]at hk;cases hk)]⟩ ?_
    · rintro ⟨b,⟨t',k⟩,e'⟩ hr _ hh
      cases b with
      |false=>exact hh
      | true =>
        by_cases hi:i=t'
        · subst hi
          obtain⟨cs',own',e1,e2⟩:=eh.1 hh
          rw[hB2]at e1;cases e1
          refine⟨_,_,vah (av hB2),va2.2 ⟨e2,?_⟩⟩
          simp only[va8,vat]
          by_cases h1:k<off
          ·exact .inl h1
          ·exact .inr (vbK λh2=>hr (wx.2 ⟨rfl,by simp only;omega,by simp only;omega⟩))
        ·exact(ic hi).2 hh
    · rintro ⟨b,⟨t',k⟩,e'⟩ hr hh
      cases b with
      |false=>simp[ew,B5]at hr
      | true =>
        exfalso
        obtain⟨rfl,h1,h2⟩:=wx.1 hr
        obtain⟨cs',own',e1,e2⟩:=eh.1 hh
        simp only[vah (av hB),vaz,aJ.cells.injEq]at e1
        obtain⟨rfl,rfl⟩:=e1
        have:=(cd e2).2
        simp only[va8,vat]at this
        simp only at h1 h2
        omega
    · refine gT.of h hid' (by simp [oY,ho]) ?_ Q
      unfold UG
      rw[ho]
      simp only[vp,hx',hp2,vaj]
      rw[hd];rfl
  | sto T x t i off vs cs own L hd ho hx hvs hB hp hk hm hn hl =>
    have hx':opv E.GE st.tmps x=.bptr i off:=(hopv x (by rw[ho];simp[Op.operands])).symm.trans hx
    have hy':s.tmps.getD t .undef=st.tmps.getD t .undef:=hopv (.tmp t) (by rw[ho];simp[Op.operands])
    rw[hy']at hvs hp hk
    obtain⟨bb,hbb⟩:=live hx'
    have hst:=hbx (by simp[ck,cy,ho])
    obtain⟨own2,hB2⟩:=Ex hst hB
    have hp2:=MZ hvs hB hp hB2
    have hm2:∀y∈L,((t,y.1),y.2)∈st.own:=λy hy=>htok (false,(t,y.1),y.2) (by simp[ew]) (hm y hy)
    have hset:=vah (a:=aJ.cells (cs.take off++vs++cs.drop (off+vs.length)) (own2.filter λy=>y.1<off||off+vs.length<=y.1)) (av hB2)
    refine fin (st':=⟨st.tmps,st.boxes.set i (.cells (cs.take off++vs++cs.drop (off+vs.length)) ((L.map λy=>(off+y.1,y.2)).reverse++own2.filter λy=>y.1<off||off+vs.length<=y.1)),st.own.filter λx=>!L.any λy=>x.1==(t,y.1)⟩)
      ⟨by rw[hd];exact⟨rfl,rfl⟩,λhc=>absurd (by simp[ck,cy,ho]) hc,λ_=>Fc hst rfl,?_,?_,λk hk=>by rw[vau (λe=>by subst e;rw[hbb]at hk;cases hk)]⟩ ?_
    · rintro ⟨b,⟨t',k⟩,e'⟩ hr _ hh
      cases b with
      | false =>
        refine va2.2 ⟨dm.1 hh,?_⟩
        simp only[vaX,vbh,va7,Prod.mk.injEq,not_and]
        intro y hy e
        exact absurd (by simp[ew,e]) hr
      | true =>
        by_cases hi:i=t'
        · subst hi
          obtain⟨cs',own',e1,e2⟩:=eh.1 hh
          rw[hB2]at e1;cases e1
          refine⟨_,_,vah (av hB2),vaM _ (va2.2 ⟨e2,?_⟩)⟩
          simp only[va8,vat]
          by_cases h1:k<off
          ·exact .inl h1
          ·exact .inr (vbK λh2=>hr (vaL _ (wx.2 ⟨rfl,by simp only;omega,by simp only;omega⟩)))
        ·exact(ic hi).2 hh
    · rintro ⟨b,⟨t',k⟩,e'⟩ hr hh
      cases b with
      | false =>
        obtain⟨h1,h2⟩:=cd (dm.1 hh)
        exact va2.2 ⟨htok (false,(t',k),e') hr h1,h2⟩
      | true =>
        have hr2:(true,t',k)∈B5 i off vs.length:=by simpa[ew]using hr
        obtain⟨rfl,h1,h2⟩:=wx.1 hr2
        obtain⟨cs',own',e1,e2⟩:=eh.1 hh
        simp only[vah (av hB),vaz,aJ.cells.injEq]at e1
        obtain⟨rfl,rfl⟩:=e1
        rcases vaR.1 e2 with e2|e2
        ·exact⟨_,_,vah (av hB2),vaU _ e2⟩
        · exfalso
          have:=(cd e2).2
          simp only[va8,vat]at this
          omega
    · rcases hk with ⟨l,hl⟩ | ⟨hone,e,rfl⟩
      · refine KZ h (K:=(· = _)) ?_ Q
        unfold Tt
        simp only[ho,hd]
        refine⟨i,off,_,_,_,L,l,hx',hl,by rw[<-hl];exact hp2,hset,hm2,hn,?_⟩
        rw[vbT]
      · refine Ii (K:=(· = _)) h ho hx' (by rw [hx']; exact hp2) hset hone (hm2 _ (vcB _)) ?_ Q
        rw[hd,vbT]
        simp only[CP,vae,vaP,vc3,List.reverse_nil,vaS,List.singleton_append,aK.mk.injEq,vcf,Nat.add_zero]
        congr 1
        funext z
        simp[bne]
  | mu t m k x H hd ho hp =>
    have hst:=hbx (by simp[ck,cy,ho])
    have o1:opv E.GE s.tmps m=opv E.GE st.tmps m:=hopv m (by rw[ho];simp[Op.operands])
    have o2:opv E.GE s.tmps k=opv E.GE st.tmps k:=hopv k (by rw[ho];simp[Op.operands])
    have o3:opv E.GE s.tmps x=opv E.GE st.tmps x:=hopv x (by rw[ho];simp[Op.operands])
    rw[o1,o2,o3]at hp
    obtain⟨i,es',hmi,rfl,hp2⟩:=UI hst hp
    have hlive:∃b,bs[i]? =some (some b):=by
      have hv:=h.opv a.defers m
      rw[hmi]at hv
      generalize (Act.mk a.tmps a.defers).eval m=vx at hv
      cases hv with
      |mapr _ b hb=>exact⟨b,hb⟩
    obtain⟨bb,hbb⟩:=hlive
    obtain⟨i2,es,es2,hB,he2⟩:=HZ hp2
    refine fin (st':=⟨st.tmps,st.boxes.set i (.map es'),st.own⟩) ⟨by rw[hd];exact⟨rfl,rfl⟩,λhc=>absurd (by simp[ck,cy,ho]) hc,λ_=>Fc hst rfl,?_,?_,λk hk=>by rw[vau (λe=>by subst e;rw[hbb]at hk;cases hk)]⟩ ?_
    · rintro ⟨b,⟨t',k'⟩,e'⟩ hr _ hh
      cases b with
      |false=>exact hh
      | true =>
        obtain⟨cs',own',e1,e2⟩:=eh.1 hh
        have hne:i2≠t':=λe=>by subst e;rw[hB]at e1;cases e1
        rw[he2]
        exact(ic hne).2 hh
    · intro τ hr
      simp at hr
    · refine gT.of h hid' (by simp [oY,ho]) ?_ Q
      unfold UG
      rw[ho]
      simp only[vp,hp2,vaj]
      rw[hd];rfl
  | callR d f args tys r ro oa ho hd hg =>
    have hop:∀x,x=f\/x∈args.toList->opv E.GE s.tmps x=opv E.GE st.tmps x:=λx hx=>hopv x (by rw[ho];simp[Op.operands,Call.operands];simpa using hx)
    have hown:∀x∈oa,((x.t,x.k),x.e)∈s.own->((x.t,x.k),x.e)∈st.own:=λx hx hm=>htok (false,(x.t,x.k),x.e) (vaL _ (var.2 ⟨x,hx,rfl⟩)) hm
    refine fin (st':=⟨st.tmps.set d r,st.boxes,(ro.map λx=>((d,x.1),x.2))++co d (st.own.filter λz=>!oa.any λx=>z.1==(x.t,x.k))⟩) ⟨by rw[hd];exact⟨_,rfl,rfl⟩,λ_=>rfl,λhc=>hbx (by rw[hc];decide),?_,?_,λ_ _=>rfl⟩ (BK (K:=(·=_)) h ho hd (hdd d hd) (hg st hop hown) rfl Q)
    · rintro ⟨b,⟨t',k⟩,e'⟩ hr _ hh
      cases b with
      |true=>exact hh
      | false =>
        simp only[ew,vaF,Prod.mk.injEq,vcf,vce,var,vc7,not_exists,not_and]at hr
        refine vaM _ (gQ (va2.2 ⟨dm.1 hh,?_⟩) hr.1)
        simp only[vaX,vbh,va7,Prod.mk.injEq,not_and]
        exact λx hx e=>absurd e.symm (hr.2 x hx)
    · rintro ⟨b,⟨t',k⟩,e'⟩ hr hh
      cases b with
      |true=>simp[ew]at hr
      | false =>
        rcases vaR.1 (dm.1 hh)with hh|hh
        ·exact vaU _ hh
        · obtain ⟨h1,h2⟩:=ee hh
          obtain⟨h3,h4⟩:=cd h1
          have h5:((t',k),e')∈st.own:=htok (false,(t',k),e') hr h3
          exact vaM _ (gQ (va2.2 ⟨h5,h4⟩) h2)
  | stR T x y i off cs cs' hd ho hx hB hp hi =>
    have hx':opv E.GE st.tmps x=.bptr i off:=(hopv x (by rw[ho];simp[Op.operands])).symm.trans hx
    have hy':opv E.GE s.tmps y=opv E.GE st.tmps y:=hopv y (by rw[ho];simp[Op.operands])
    rw[hy']at hp
    obtain⟨bb,hbb⟩:=live hx'
    have hst:=hbx (by simp[ck,cy,ho])
    obtain⟨own2,hB2⟩:=Ex hst hB
    obtain⟨own',hp2⟩:=qaB hp hB2
    refine fin (st':=⟨st.tmps,st.boxes.set i (.cells cs' own'),st.own⟩)
      ⟨by rw[hd];exact⟨rfl,rfl⟩,λhc=>absurd (by simp[ck,cy,ho]) hc,λ_=>Fc hst rfl,?_,λτ hr=>by simp at hr,λk hk=>by rw[vau (λe=>by subst e;rw[hbb]at hk;cases hk)]⟩ ?_
    · rintro ⟨b,⟨t',k⟩,e'⟩ hr hn hh
      cases b with
      |false=>exact hh
      |true=>exact(ic (λe=>hn rfl (by subst e;exact hi))).2 hh
    · refine gT.of h hid' (by simp [oY,ho]) ?_ Q
      unfold UG
      rw[ho]
      simp only[vp,hx',hp2,vaj]
      rw[hd];rfl
end
end
def qds(τ:qaP)(rs:List Rs):Prop:=ew τ∈rs\/(τ.1=true/\(false,τ.2.1.1,1)∈rs)
def SG(rw:List Nat)(o:Oper):Bool:=match o.op,o.dst with
 |.load _ _,some d=>rw.contains (8 * d+5)
 |_,_=>false
def Ut(rw:List Nat)(o:Oper):Bool:=match o.op,o.dst with
 |.call {callee:=.value _,..},some d=>rw.contains (8 * d+7)
 |_,_=>false
def pz(P:Program)(rw:List Nat)(o:Oper):Nat:=if SG rw o=true then 0 else if Ut rw o=true then 2 else ck P rw o
inductive pu(P:Program)(GE:List (Nat×List PVal))(bi:Option (Nat×aJ))(rw:List Nat)(o:Oper)(id:Nat)(s:aK):aK->List Rs->Prop where
 |old {s':aK} {rs:List Rs} (h:kq P GE bi rw o id s s' rs) (hu:SG rw o=false) (hh:Ut rw o=false):pu P GE bi rw o id s s' rs
 |ldE (d:Nat) (T:TypeId) (x:Operand) (cs:List PVal) (p:PVal) (ho:o.op=.load T x) (hd:o.dst=some d) (hi:rw.contains (8 * d+5)=true) (hx:opv GE s.tmps x=.eptr cs) (hp:bz P T cs=some p):pu P GE bi rw o id s ⟨s.tmps.set d p,s.boxes,co d s.own⟩ [(false,d,0)]
 | callG (d:Nat) (f:Operand) (args:Array Operand) (tys:Array TypeId) (r:PVal) (ro:List (Nat×TypeId)) (oa:List OA) (ρ:List Nat) (F:List aJ→List aJ) (ho:o.op = .call { callee := .value f,args,argTypes:=tys }) (hd:o.dst = some d) (hi:rw.contains (8 * d + 1) = true) (hh:rw.contains (8 * d + 7) = false)
   (F1:∀(H:List aJ) (i:Nat),i∉ρ->(F H)[i]? =H[i]?) (F3:∀(H H2:List aJ) (i:Nat),H2.map bj=H.map bj->i∈ρ->(F H2)[i]? =(F H)[i]?)
   (hg:∀st:aK,(∀x,x=f\/x∈args.toList->opv GE s.tmps x=opv GE st.tmps x)->(∀x∈oa,((x.t,x.k),x.e)∈s.own->((x.t,x.k),x.e)∈st.own)->st.boxes.map bj=s.boxes.map bj->(∀i∈ρ,∀k e,jB s (true,(i,k),e)->jB st (true,(i,k),e))->Lx P GE f args.toList st r ro (F st.boxes) oa):
   pu P GE bi rw o id s ⟨s.tmps.set d r,F s.boxes,(ro.map λx=>((d,x.1),x.2))++co d (s.own.filter λz=>!oa.any λx=>z.1==(x.t,x.k))⟩ (((false,d,0)::oa.map λx=>(false,x.t,0))++ρ.map λi=>(false,i,1))
 | callH (d:Nat) (f:Operand) (args:Array Operand) (tys:Array TypeId) (r:PVal) (ro:List (Nat×TypeId)) (oa:List OA) (ρ:List Nat) (F:List aJ→List aJ) (ho:o.op = .call { callee := .value f,args,argTypes:=tys }) (hd:o.dst = some d) (hi:rw.contains (8 * d + 7) = true)
   (F1:∀(H:List aJ) (i:Nat),i∉ρ->(F H)[i]? =H[i]?) (F4:∀H:List aJ,H.map bj=s.boxes.map bj->(F H).map bj=H.map bj) (F5:∀(H:List aJ) (i:Nat) cs own,i∈ρ->(F H)[i]? =some (.cells cs own)->own=[]) (F6:∀i∈ρ,2 * i∈rw/\8 * i+3∈rw)
   (hg:∀st:aK,(∀x,x=f\/x∈args.toList->opv GE s.tmps x=opv GE st.tmps x)->(∀x∈oa,((x.t,x.k),x.e)∈s.own->((x.t,x.k),x.e)∈st.own)->st.boxes.map bj=s.boxes.map bj->Lx P GE f args.toList st r ro (F st.boxes) oa):
   pu P GE bi rw o id s ⟨s.tmps.set d r,F s.boxes,(ro.map λx=>((d,x.1),x.2))++co d (s.own.filter λz=>!oa.any λx=>z.1==(x.t,x.k))⟩ ((false,d,0)::oa.map λx=>(false,x.t,0))
section
variable{P:Program}{GE:List (Nat×List PVal)}
theorem kq.nw{bi:Option (Nat×aJ)}{rw:List Nat}{o:Oper}{id:Nat}{s s':aK}{rs:List Rs}(h:kq P GE bi rw o id s s' rs)(i:Nat):(false,i,1)∉rs:=by
 cases h<;>simp[B5]
theorem kq.rs_of{bi:Option (Nat×aJ)}{rw:List Nat}{o:Oper}{id:Nat}{s s':aK}{rs:List Rs}(h:kq P GE bi rw o id s s' rs){τ:qaP}(ht:qds τ rs):ew τ∈rs:=ht.elim (λx=>x) λhx=>absurd hx.2 (h.nw _)
structure qdI(P:Program)(rw:List Nat)(o:Oper)(s s':aK)(rs:List Rs):Prop where
 tm:match o.dst with
  |some d=>∃p,s'.tmps=s.tmps.set d p
  |none=>s'.tmps=s.tmps
 bx:pz P rw o≠3->s'.boxes.map bj=s.boxes.map bj
 back:∀τ,¬qds τ rs->jB s' τ->jB s τ
theorem NY{rw:List Nat}{o:Oper}(hu:SG rw o=false)(hh:Ut rw o=false):pz P rw o=ck P rw o:=by unfold pz;rw[hu,hh];rfl
theorem qek{rw:List Nat}{o:Oper}{f:Operand}{args:Array Operand}{tys:Array TypeId}{d:Nat}(ho:o.op=.call {callee:=.value f,args,argTypes:=tys})(hd:o.dst=some d)(hi:rw.contains (8 * d+7)=true):pz P rw o=2:=by
 unfold pz SG Ut
 rw[ho,hd]
 simp only[hi]
 rfl
theorem wa{rw:List Nat}{o:Oper}{f:Operand}{args:Array Operand}{tys:Array TypeId}{d:Nat}(ho:o.op=.call {callee:=.value f,args,argTypes:=tys})(hd:o.dst=some d)(hi:rw.contains (8 * d+1)=true)(hh:rw.contains (8 * d+7)=false):pz P rw o=3:=by
 rw[NY (by unfold SG;rw[ho]) (by unfold Ut;rw[ho,hd];exact hh)]
 unfold ck
 rw[ho,hd]
 simp only[Option.any_some,hi,if_true]
theorem qgO{rw:List Nat}{o:Oper}{T:TypeId}{x:Operand}{d:Nat}(ho:o.op=.load T x)(hd:o.dst=some d)(hi:rw.contains (8 * d+5)=true):pz P rw o=0:=by
 unfold pz SG
 rw[ho,hd]
 simp only[hi,if_true]
theorem pu.eff{bi:Option (Nat×aJ)}{rw:List Nat}{o:Oper}{id:Nat}{s s':aK}{rs:List Rs}(h:pu P GE bi rw o id s s' rs):qdI P rw o s s' rs:=by
 cases h with
 |old h hu hh=>exact⟨h.eff.tm,by rw[NY hu hh];exact h.eff.bx,λτ ht hh=>h.eff.back τ (λhx=>ht (.inl hx)) hh⟩
 |ldE d T x cs p ho hd hi hx hp=>
  refine⟨by rw[hd];exact⟨_,rfl⟩,λ_=>rfl,?_⟩
  rintro⟨b,⟨t',k⟩,e'⟩ hr hh
  cases b with
  |true=>exact hh
  |false=>exact(ee hh).1
 | callG d f args tys r ro oa ρ F ho hd hi hh F1 F3 hg =>
  refine⟨by rw[hd];exact⟨r,rfl⟩,λhc=>absurd (wa ho hd hi hh) hc,?_⟩
  rintro⟨b,⟨t',k⟩,e'⟩ hr hh
  cases b with
  |true=>
   have hn:t'∉ρ:=λhx=>hr (.inr ⟨rfl,vaM _ (var.2 ⟨t',hx,rfl⟩)⟩)
   obtain⟨cs,own,h1,h2⟩:=eh.1 hh
   simp only at h1
   rw[F1 _ _ hn]at h1
   exact⟨cs,own,h1,h2⟩
  | false =>
   rcases vaR.1 (dm.1 hh)with hh|hh
   ·simp only[var,Prod.mk.injEq]at hh
    obtain⟨x,_,⟨rfl,_⟩,_⟩:=hh
    exact absurd (.inl (by simp[ew])) hr
   ·exact(cd (ee hh).1).1
 | callH d f args tys r ro oa ρ F ho hd hi F1 F4 F5 F6 hg =>
  refine⟨by rw[hd];exact⟨r,rfl⟩,λ_=>F4 _ rfl,?_⟩
  rintro⟨b,⟨t',k⟩,e'⟩ hr hh
  cases b with
  | true =>
   obtain⟨cs,own,h1,h2⟩:=eh.1 hh
   simp only at h1
   by_cases hn:t'∈ρ
   ·rw[F5 _ _ _ _ hn h1]at h2
    cases h2
   ·rw[F1 _ _ hn]at h1
    exact⟨cs,own,h1,h2⟩
  | false =>
   rcases vaR.1 (dm.1 hh)with hh|hh
   ·simp only[var,Prod.mk.injEq]at hh
    obtain⟨x,_,⟨rfl,_⟩,_⟩:=hh
    exact absurd (.inl (by simp[ew])) hr
   ·exact(cd (ee hh).1).1
theorem pu.cls{bi:Option (Nat×aJ)}{rw:List Nat}{o:Oper}{id:Nat}{s s':aK}{rs:List Rs}(h:pu P GE bi rw o id s s' rs){i k:Nat}(hr:(true,i,k)∈rs):2<=pz P rw o:=by
 cases h with
 |ldE d T x cs p ho hd hi hx hp=>simp at hr
 |callH d f args tys r ro oa ρ F ho hd hi F1 F4 F5 F6 hg=>simp at hr
 |old h hu hh=>
  rw[NY hu hh]
  cases h with
  |ld d T x i off cs own L p hd ho hx hB h hm=>simp[ck,cy,ho]
  |st T x y i off vs cs own hd ho hx hvs hB hp=>simp[ck,cy,ho]
  |sto T x t i off vs cs own L hd ho hx hvs hB hp hk hm hn hl=>simp[ck,cy,ho]
  |_=>simp at hr
 |callG d f args tys r ro oa ρ F ho hd hi hh F1 F3 hg=>rw[wa ho hd hi hh];decide
theorem pu.whole{bi:Option (Nat×aJ)}{rw:List Nat}{o:Oper}{id:Nat}{s s':aK}{rs:List Rs}(h:pu P GE bi rw o id s s' rs){i:Nat}(hr:(false,i,1)∈rs):pz P rw o=3:=by
 cases h with
 |ldE d T x cs p ho hd hi hx hp=>simp at hr
 |old h hu hh=>exact absurd hr (h.nw i)
 |callH d f args tys r ro oa ρ F ho hd hi F1 F4 F5 F6 hg=>simp at hr
 |callG d f args tys r ro oa ρ F ho hd hi hh F1 F3 hg=>exact wa ho hd hi hh
theorem TK{o:Oper}{rs:List Rs}(h:rs=match o.dst with
 |some d=>[(false,d,0)]
 |none=>[]) {τ:qaP} (ht:qds τ rs):ew τ∈rs/\τ.1=false:=by
 subst h
 cases hd:o.dst with
 |none=>rw[hd]at ht;rcases ht with hx|hx<;>simp at hx
 | some d =>
  rw[hd]at ht
  rcases ht with hx|hx
  ·refine⟨hx,?_⟩
   obtain⟨b,⟨t,k⟩,e⟩:=τ
   cases b with
   |false=>rfl
   |true=>simp[ew]at hx
  ·simp at hx
structure qdK(P:Program)(bs:bZ)(rw:List Nat)(o:Oper)(st st' s s':aK)(rs:List Rs):Prop where
 tm:match o.dst with
  |some d=>∃p,st'.tmps=st.tmps.set d p/\s'.tmps=s.tmps.set d p
  |none=>st'.tmps=st.tmps/\s'.tmps=s.tmps
 b1:pz P rw o≠3->st'.boxes.map bj=st.boxes.map bj
 b2:pz P rw o=3->st'.boxes.map bj=s'.boxes.map bj
 keep:∀τ,¬qds τ rs->(τ.1=true->2 * τ.2.1.1∉rw)->jB st τ->jB st' τ
 got:∀τ,qds τ rs->jB s' τ->jB st' τ
 un:∀i:Nat,bs[i]? =some none->(false,i,1)∉rs->8 * i+3∉rw->st'.boxes[i]? =st.boxes[i]?
end
section
variable{P:Program}{E:wF}{Γ:bN}{bs:bZ}{ow:Nat->Option nS}{w:World}{a:Act}{st:aK}
theorem pu.sound(h:SR P E Γ bs ow w a.tmps st){bi:Option (Nat×aJ)}{rw:List Nat}{o:Oper}{id:Nat}{s s':aK}{rs:List Rs}(hs:pu P E.GE bi rw o id s s' rs)(hid:aO o.op=true->bs[id]? =some none/\st.boxes[id]? =pd P o)(hbi:∀i B,bi=some (i,B)->bs[i]? =some none/\st.boxes[i]? =some B)
    (hopv:∀x∈o.op.operands.toList,opv E.GE s.tmps x=opv E.GE st.tmps x) (hbx:2<=pz P rw o->st.boxes.map bj=s.boxes.map bj) (htok:∀τ,qds τ rs->jB s τ->jB st τ) (hdd:∀d,o.dst=some d->d<st.tmps.length)
    (Q:Exit->Act->World->Prop):
    o.wp P a w (λa' w'=>a'.defers=a.defers/\∃Γ' bs' ow' st',SR P E Γ' bs' ow' w' a'.tmps st'/\qdK P bs rw o st st' s s' rs/\(bs'=bs\/(aO o.op=true/\∃b,bs'=bs.set id (some b))\/∃i B x,bi=some (i,B)/\bs'=bs.set i x)) Q:=by
  cases hs with
  | ldE d T x cs p ho hd hi hx hp =>
    have hx':opv E.GE st.tmps x=.eptr cs:=(hopv x (by rw[ho];simp[Op.operands])).symm.trans hx
    have hw:o.wp P a w (gT P E bs id (aO o.op) a.defers (·=⟨st.tmps.set d p,st.boxes,co d st.own⟩)) Q:=by
      refine gT.of h (λhm=>by rw[ho]at hm;cases hm) (by simp[oY,ho]) ?_ Q
      unfold UG
      rw[ho]
      simp only[vp,hx',nz,hp,vaj]
      rw[hd];rfl
    refine Oper.wp_mono (λa' w' hA=>?_) hw
    obtain⟨h1,Γ',bs',ow',st2,h2,rfl,h3⟩:=hA
    exact⟨h1,Γ',bs',ow',_,h2,⟨by rw[hd];exact⟨_,rfl,rfl⟩,λ_=>rfl,λhc=>absurd ((qgO (P:=P) ho hd hi).symm.trans hc) (by decide),λτ hr _ hh=>SJ (st:=st) (tm:=st.tmps.set d p) (R:=λ_=>True) (rs:=[(false,d,0)]) (d:=d) (L:=[]) (by simp) τ (λhx=>hr (.inl hx)) trivial hh,
      λτ hr hh=>qac (L:=[]) (tm:=st.tmps.set d p) τ (hr.elim (λx=>x) λhx=>by simp at hx) hh,λ_ _ _ _=>rfl⟩,h3.imp_right .inl⟩
  | old hs hu hh =>
    rw[NY hu hh]at hbx
    refine Oper.wp_mono (λa' w' hA=>?_) (hs.sound h hid hbi hopv hbx (λτ ht=>htok τ (.inl ht)) hdd Q)
    obtain⟨h1,Γ',bs',ow',st',h2,h3,h4⟩:=hA
    exact⟨h1,Γ',bs',ow',st',h2,⟨h3.tm,by rw[NY hu hh];exact h3.b1,by rw[NY hu hh];exact h3.b2,λτ ht=>h3.keep τ λhx=>ht (.inl hx),λτ ht=>h3.got τ (hs.rs_of ht),λi hi _ _=>h3.un i hi⟩,h4⟩
  | callG d f args tys r ro oa ρ F ho hd hi hh F1 F3 hg =>
    have hop:∀x,x=f\/x∈args.toList->opv E.GE s.tmps x=opv E.GE st.tmps x:=λx hx=>hopv x (by rw[ho];simp[Op.operands,Call.operands];simpa using hx)
    have hown:∀x∈oa,((x.t,x.k),x.e)∈s.own->((x.t,x.k),x.e)∈st.own:=λx hx hm=>htok (false,(x.t,x.k),x.e) (.inl (vaU _ (vaL _ (var.2 ⟨x,hx,rfl⟩)))) hm
    have hst:=hbx (by rw[wa ho hd hi hh];decide)
    have hbox:∀i∈ρ,∀k e,jB s (true,(i,k),e)->jB st (true,(i,k),e):=λi hi k e hh=>htok _ (.inr ⟨rfl,vaM _ (var.2 ⟨i,hi,rfl⟩)⟩) hh
    have hF:(F st.boxes).map bj=(F s.boxes).map bj:=by
      refine vbg λi=>?_
      rw[vaB,vaB]
      by_cases hi:i∈ρ
      ·rw[F3 _ _ i hst hi]
      ·rw[F1 _ _ hi,F1 _ _ hi];exact WZ hst i
    refine Oper.wp_mono (λa' w' hA=>?_) (BK (id:=id) (K:=(·=⟨st.tmps.set d r,F st.boxes,(ro.map λx=>((d,x.1),x.2))++co d (st.own.filter λz=>!oa.any λx=>z.1==(x.t,x.k))⟩)) h ho hd (hdd d hd) (hg st hop hown hst hbox) rfl Q)
    obtain⟨h1,Γ',bs',ow',st2,h2,rfl,h3⟩:=hA
    refine⟨h1,Γ',bs',ow',_,h2,⟨by rw[hd];exact⟨_,rfl,rfl⟩,λhc=>absurd (wa ho hd hi hh) hc,λ_=>hF,?_,?_,λi hb hn _=>F1 _ _ λhx=>hn (vaM _ (var.2 ⟨i,hx,rfl⟩))⟩,h3.imp_right .inl⟩
    · rintro ⟨b,⟨t',k⟩,e'⟩ hr _ hh
      cases b with
      | true =>
        have hn:t'∉ρ:=λhx=>hr (.inr ⟨rfl,vaM _ (var.2 ⟨t',hx,rfl⟩)⟩)
        obtain⟨cs,own,k1,k2⟩:=eh.1 hh
        exact⟨cs,own,by simp only;rw[F1 _ _ hn];exact k1,k2⟩
      | false =>
        have hr':ew (false,(t',k),e')∉((false,d,0)::oa.map λx=>(false,x.t,0)):=λhx=>hr (.inl (vaU _ hx))
        simp only[ew,vaF,Prod.mk.injEq,vcf,vce,var,vc7,not_exists,not_and]at hr'
        refine vaM _ (gQ (va2.2 ⟨dm.1 hh,?_⟩) hr'.1)
        simp only[vaX,vbh,va7,Prod.mk.injEq,not_and]
        exact λx hx e=>absurd e.symm (hr'.2 x hx)
    · rintro ⟨b,⟨t',k⟩,e'⟩ hr hh
      cases b with
      | true =>
        have hin:t'∈ρ:=by
          rcases hr with hx|⟨_,hx⟩
          ·simp[ew]at hx
          · rcases vaR.1 hx with hx | hx
            ·simp at hx
            · obtain ⟨i,hi,he⟩:=var.1 hx
              simp only[Prod.mk.injEq,vce,vcf]at he
              subst he;exact hi
        obtain⟨cs,own,k1,k2⟩:=eh.1 hh
        exact⟨cs,own,by simp only at k1 ⊢;rw[F3 _ _ t' hst hin];exact k1,k2⟩
      | false =>
        rcases vaR.1 (dm.1 hh)with hh|hh
        ·exact vaU _ hh
        · obtain ⟨h1,h2⟩:=ee hh
          obtain⟨h3,h4⟩:=cd h1
          have h5:((t',k),e')∈st.own:=htok (false,(t',k),e') hr h3
          exact vaM _ (gQ (va2.2 ⟨h5,h4⟩) h2)
  | callH d f args tys r ro oa ρ F ho hd hi F1 F4 F5 F6 hg =>
    have hop:∀x,x=f\/x∈args.toList->opv E.GE s.tmps x=opv E.GE st.tmps x:=λx hx=>hopv x (by rw[ho];simp[Op.operands,Call.operands];simpa using hx)
    have hown:∀x∈oa,((x.t,x.k),x.e)∈s.own->((x.t,x.k),x.e)∈st.own:=λx hx hm=>htok (false,(x.t,x.k),x.e) (.inl (vaL _ (var.2 ⟨x,hx,rfl⟩))) hm
    have hst:=hbx (by rw[qek ho hd hi];decide)
    refine Oper.wp_mono (λa' w' hA=>?_) (BK (id:=id) (K:=(·=⟨st.tmps.set d r,F st.boxes,(ro.map λx=>((d,x.1),x.2))++co d (st.own.filter λz=>!oa.any λx=>z.1==(x.t,x.k))⟩)) h ho hd (hdd d hd) (hg st hop hown hst) rfl Q)
    obtain⟨h1,Γ',bs',ow',st2,h2,rfl,h3⟩:=hA
    refine⟨h1,Γ',bs',ow',_,h2,⟨by rw[hd];exact⟨_,rfl,rfl⟩,λ_=>F4 _ hst,λhc=>absurd ((qek (P:=P) ho hd hi).symm.trans hc) (by decide),?_,?_,λi _ _ hn=>F1 _ _ λhx=>hn (F6 i hx).2⟩,h3.imp_right .inl⟩
    · rintro ⟨b,⟨t',k⟩,e'⟩ hr hrow hh
      cases b with
      | true =>
        have hn:t'∉ρ:=λhx=>hrow rfl (F6 t' hx).1
        obtain⟨cs,own,k1,k2⟩:=eh.1 hh
        exact⟨cs,own,by simp only;rw[F1 _ _ hn];exact k1,k2⟩
      | false =>
        have hr':ew (false,(t',k),e')∉((false,d,0)::oa.map λx=>(false,x.t,0)):=λhx=>hr (.inl hx)
        simp only[ew,vaF,Prod.mk.injEq,vcf,vce,var,vc7,not_exists,not_and]at hr'
        refine vaM _ (gQ (va2.2 ⟨dm.1 hh,?_⟩) hr'.1)
        simp only[vaX,vbh,va7,Prod.mk.injEq,not_and]
        exact λx hx e=>absurd e.symm (hr'.2 x hx)
    · rintro ⟨b,⟨t',k⟩,e'⟩ hr hh
      cases b with
      | true =>
        rcases hr with hx|⟨_,hx⟩
        ·simp[ew]at hx
        ·simp at hx
      | false =>
        rcases vaR.1 (dm.1 hh)with hh|hh
        ·exact vaU _ hh
        · obtain ⟨h1,h2⟩:=ee hh
          obtain⟨h3,h4⟩:=cd h1
          have h5:((t',k),e')∈st.own:=htok (false,(t',k),e') hr h3
          exact vaM _ (gQ (va2.2 ⟨h5,h4⟩) h2)
end
end Go.Proofs.YtibglelmlnfojaaGreatDoor
