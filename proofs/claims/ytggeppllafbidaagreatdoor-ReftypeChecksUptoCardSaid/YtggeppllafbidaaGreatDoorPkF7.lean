/- PROVED: a part of the proof. Conditions: none. -/
import Derived.Test.YtggeppllafbidaaGreatDoorPkF6
import Derived.Deep.Draws
import Derived.Sort.Grow
import Derived.Lib.LaidTab
import Derived.WalkKit
import Derived.ProofKit
import Derived.OpenShut
import Derived.Below
import Derived.ChangeSame
import Derived.SliceStrings
import Derived.ChangeMaps5
import Derived.WideKeyArgs
import Derived.LaidLaws
import Derived.Test.YtggeppllafbidaaGreatDoorRows
noncomputable section
namespace Go.Proofs.YtggeppllafbidaaGreatDoor
open Go
def FG(st st0:ax):Prop:=G6 st.tmps st0.tmps=st0.tmps/\MX st.boxes st0.boxes=st0.boxes/\(st0.own.all fun x=>decide (x∈st.own))=true
theorem fr(st:ax):st.tmps=st.tmps/\st.boxes=st.boxes/\true=true:=⟨rfl,rfl,rfl⟩
theorem FG.weak{P:Program}{m:Nat}{st st0:ax}(h:FG st st0):re P m st st0:=by
 obtain⟨h1,h2,h3⟩:=h
 have:=re.forget (P:=P) (m:=m) (st:=st) st0.tmps st0.boxes st0.own (fun x hx=>by simpa using vat.1 h3 x hx)
 rw[h1,h2]at this
 exact this
def wO(P:Program)(GE:List (Nat×List PVal))(A:List Nat)(m:Nat):Code->List It->ax->(Exit->List It->ax->Prop)->Prop
 |.skip,sc,st,K=>K .normal sc st
 |.label _,sc,st,K=>K .normal sc st
 | .region _ ops draw,sc,st,K => match draw with
  |false=>match ops.toList.all ee with
   |true=>ML st.boxes (eG P ops.toList) fun H=>IW P GE A ops (K .normal) ops.toList 0 st.boxes.length sc ⟨st.tmps,H,st.own⟩
   |false=>False
  |true=>match sc with
   |.dr an::sc'=>MW P GE A ops an [] [] [] (K .normal) sc' st
   |.dx an X br rw::sc'=>MW P GE A ops an X br rw (K .normal) sc' st
   |_=>False
 | .seq a b,sc,st,K =>
  let after (e:Exit) (sc:List It) (st:ax):Prop:=match e with
   |.normal=>Sg m sc st fun sc st=>wO P GE A m b sc st K
   |e=>K e sc st
  match sc with
  |.pa 0::.pc st0 e st1::sc'=>FG st st0/\aL P GE m a (EX e st1) st0/\after e sc' st1
  |.pa (n+1)::sc'=>wO P GE A m a (.pa n::sc') st after
  |sc=>wO P GE A m a sc st after
 | .cond c a b,sc,st,K => mZ GE st.tmps c fun v => match v with
  | .bool t => match sc with
   |.k::sc'=>match t with
    |true=>Sg m sc' st fun sc st=>wO P GE A m a sc st K
    |false=>Sg m sc' st fun sc st=>wO P GE A m b sc st K
   |.g _ x::sc'=>t=x/\match x with
    |true=>Sg m sc' st fun sc st=>wO P GE A m a sc st K
    |false=>Sg m sc' st fun sc st=>wO P GE A m b sc st K
   |_=>False
  |_=>False
 |.block id c,sc,st,K=>wO P GE A m c sc st fun e sc st=>match e with
  |.exit id'=>if id'=id then K .normal sc st else K (.exit id') sc st
  |e=>K e sc st
 |.exit id,sc,st,K=>K (.exit id) sc st
 |.ret,sc,st,K=>K .ret sc st
 |.loop c,sc,st,K=>match sc with
  |.pc st0 e st1::sc'=>FG st st0/\aL P GE m (.loop c) (EX e st1) st0/\K e sc' st1
  |_=>False
 |_,_,_,_=>False
section
variable{P:Program}{GE:List (Nat×List PVal)}{A:List Nat}{m:Nat}
theorem fw(hf:P.follows .mixedOrders=true):∀(c:Code) (sc:List It) (st:ax) (K:Exit->List It->ax->Prop),wO P GE A m c sc st K->aL P GE m c (fun e st'=>∃sc',K e sc' st') st
 |.skip,sc,st,K,h=>aL.skip ⟨sc,h⟩
 |.label _,sc,st,K,h=>aL.label ⟨sc,h⟩
 | .region id ops draw,sc,st,K,h => by
  simp only[wO]at h
  cases draw with
  | false =>
   simp only at h
   split at h
   ·rename_i hd
    simp only[ML,aO]at h
    exact aL.text hd (xC _ _ _ _ _ h)
   ·exact h.elim
  | true =>
   simp only at h
   split at h
   ·exact Dj hf (fun st hx=>hx) h
   ·exact Dj hf (fun st hx=>hx) h
   ·exact h.elim
 | .seq a b,sc,st,K,h => by
  have aft:∀(e:Exit) (sc':List It) (st':ax),(match e with|.normal=>Sg m sc' st' (fun sc st=>wO P GE A m b sc st K)|e=>K e sc' st')->(match e with|.normal=>aL P GE m b (fun e st'=>∃sc',K e sc' st') st'|e=>∃sc',K e sc' st'):=by
   intro e sc' st' hx
   cases e with
   |normal=>
    obtain⟨sc2,st2,hw,hx⟩:=M1 (P:=P) hx
    exact aL.weak hw (fw hf b sc2 st2 K hx)
   |exit id=>exact⟨_,hx⟩
   |goto l=>exact⟨_,hx⟩
   |ret=>exact⟨_,hx⟩
   |panic c=>exact⟨_,hx⟩
   |outgrown=>exact⟨_,hx⟩
  simp only[wO]at h
  refine aL.seq ?_
  split at h
  ·rename_i st0 e st1 sc'
   obtain⟨h1,h2,h3⟩:=h
   refine aL.weak h1.weak (EX.of h2 ?_)
   have:=aft e sc' st1 h3
   cases e<;>exact this
  ·exact(fw hf a _ st _ h).imp fun e st' hx=>by
    obtain⟨sc',hx⟩:=hx
    have:=aft e sc' st' hx
    cases e<;>exact this
  ·exact(fw hf a _ st _ h).imp fun e st' hx=>by
    obtain⟨sc',hx⟩:=hx
    have:=aft e sc' st' hx
    cases e<;>exact this
 | .cond c a b,sc,st,K,h => by
  simp only[wO,bX]at h
  have go:∀{x:Code} (hx:∀(sc:List It) (st:ax),wO P GE A m x sc st K->aL P GE m x (fun e st'=>∃sc',K e sc' st') st) {sc:List It},Sg m sc st (fun sc st=>wO P GE A m x sc st K)->aL P GE m x (fun e st'=>∃sc',K e sc' st') st:=by
   intro x hx sc h
   obtain⟨sc2,st2,hw,h⟩:=M1 (P:=P) h
   exact aL.weak hw (hx sc2 st2 h)
  split at h
  ·rename_i t ht
   split at h
   ·rename_i sc'
    refine aL.cond ht (fun h1=>?_) (fun h1=>?_)
    ·subst h1;exact go (fun sc st=>fw hf a sc st K) h
    ·subst h1;exact go (fun sc st=>fw hf b sc st K) h
   ·rename_i j x sc'
    obtain⟨rfl,h⟩:=h
    refine aL.cond ht (fun h1=>?_) (fun h1=>?_)
    ·subst h1;exact go (fun sc st=>fw hf a sc st K) h
    ·subst h1;exact go (fun sc st=>fw hf b sc st K) h
   ·exact h.elim
  ·exact h.elim
 | .block id c,sc,st,K,h => by
  simp only[wO]at h
  refine aL.block ((fw hf c _ st _ h).imp fun e st' hx=>?_)
  obtain⟨sc',hx⟩:=hx
  cases e with
  | exit id' =>
   simp only[Pp]
   simp only at hx
   split at hx
   ·rename_i hid;rw[vai hid];exact⟨sc',hx⟩
   ·rename_i hid;rw[vaj hid];exact⟨sc',hx⟩
  |normal=>exact⟨sc',hx⟩
  |goto l=>exact⟨sc',hx⟩
  |ret=>exact⟨sc',hx⟩
  |panic c=>exact⟨sc',hx⟩
  |outgrown=>exact⟨sc',hx⟩
 |.exit id,sc,st,K,h=>aL.exit ⟨sc,h⟩
 |.ret,sc,st,K,h=>aL.ret ⟨sc,h⟩
 | .loop c,sc,st,K,h => by
  simp only[wO]at h
  split at h
  ·rename_i st0 e st1 sc'
   obtain⟨h1,h2,h3⟩:=h
   exact aL.weak h1.weak (EX.of h2 ⟨sc',h3⟩)
  ·exact h.elim
 |.rangeFunc ..,_,_,_,h=>by simp[wO]at h
 |.scope _,_,_,_,h=>by simp[wO]at h
 |.goto _,_,_,_,h=>by simp[wO]at h
 |.refuse _,_,_,_,h=>by simp[wO]at h
def FN(e0:Exit)(st0:ax):Exit->List It->ax->Prop:=fun e _ st=>e0=e/\FG st st0
theorem piece(hf:P.follows .mixedOrders=true){c:Code}{e0:Exit}{st0 st:ax}(sc:List It)(h:wO P GE A m c sc st (FN e0 st0)):aL P GE m c (EX e0 st0) st:=
 (fw hf c sc st _ h).mono fun _ _ hx=>by
  obtain⟨_,hx⟩:=hx
  exact⟨st0,hx.2.weak,hx.1.symm,rfl⟩
theorem lO(hf:P.follows .mixedOrders=true){σ X:Type}{S:σ->ax}{ex:X->Exit}{so:X->ax}{c:Code}{s:σ}{st:ax}(sc:List It)(h:wO P GE A m c sc st (FN .normal (S s))):aL P GE m c (LQ S ex so (.inl s)) st:=
 (piece hf sc h).imp fun _ _ hx=>⟨hx.1,hx.2⟩
theorem YN(hf:P.follows .mixedOrders=true){σ X:Type}{S:σ->ax}{ex:X->Exit}{so:X->ax}{c:Code}{x:X}{st:ax}(sc:List It)(hn:ex x≠.normal)(h:wO P GE A m c sc st (FN (ex x) (so x))):aL P GE m c (LQ S ex so (.inr x)) st:=
 (piece hf sc h).imp fun _ _ hx=>⟨by rw[hx.1];exact hn,hx.1,hx.2⟩
def AN(rs:List ResultVar)(ro:List (Nat×TypeId))(st:ax):Bool:=
 ro.all (fun x=>decide ((cT rs x.1,x.2)∈st.own)&&(match rs with
  |[.tmp _]=>true
  |[_]=>false
  |rs=>match rs[x.1]? with
   |some (.tmp t)=>(st.tmps.getD t .undef).isSlice
   |_=>false))&&ro.all (fun x=>ro.all fun y=>!decide (cT rs x.1=cT rs y.1)||decide (x.1=y.1))
def PVal.isAgg:PVal->Bool
 |.agg _=>true
 |_=>false
def Np(P:Program)(rs:List ResultVar)(r:PVal)(ro:List (Nat×TypeId))(st:ax):Prop:=
 ∃(t:Tmp) (ty:TypeId) (i off:Nat) (cs:List PVal) (own:List (Nat×TypeId)) (l:List PVal),rs=[.cell t ty]/\(∃fs,P.underlying ty=some (.struct fs))/\st.tmps.getD t .undef=.bptr i off/\st.boxes[i]? =some (.cells cs own)/\
  r=.agg l/\cp P ty (cs.drop off)=some (.agg l)/\r.cl 0/\(∀x∈ro,(off+x.1,x.2)∈own/\x.1<l.length)/\(ro.map (·.1)).Nodup
def Ty(P:Program)(rs:List ResultVar)(r:PVal)(ro:List (Nat×TypeId))(e:Exit)(st:ax):Prop:=
 XK P rs r ro [] e st\/((e=.normal\/e=.ret)/\Np P rs r ro st)
def QS(P:Program)(rs:List ResultVar)(ro:List (Nat×TypeId))(st:ax):Bool:=match rs with
 | [.cell t ty] => match P.underlying ty with
  | some (.struct _) => match st.tmps.getD t .undef with
   |.bptr i off=>match st.boxes[i]? with
    |some (.cells _ own)=>ro.all (fun x=>decide ((off+x.1,x.2)∈own)&&decide (x.1<P.cellsOf ty))&&sY (ro.map (·.1))
    |_=>false
   |_=>false
  |_=>false
 |_=>false
section
variable{P:Program}{E:qj}{Γ:aV}{bs:bD}{ow:Nat->Option kH}{w:World}{a:Array Value}{st:ax}
theorem SR.pushed(h:SR P E Γ bs ow w a st){v:Value}{p:PVal}(hv:VR Γ bs w p v):SR P E Γ bs ow w (a.push v) {st with tmps:=st.tmps++[p]}:=
 { h with
  sz:=by simp[h.sz]
  tm:=fun t q u hq hu=>by
   by_cases ht:t<a.size
   ·rw[vco ht]at hu
    simp only at hq
    rw[vac (by rw[<-h.sz];exact ht)]at hq
    exact h.tm t q u hq (by rw[<-hu];simp[ht])
   ·have hlt:t<(a.push v).size:=(vap.1 hu).1
    have ht2:t=a.size:=by simp at hlt;omega
    subst ht2
    simp only at hq
    rw[vae (by rw[h.sz];exact vam _),h.sz]at hq
    simp at hq hu
    subst hq;subst hu;exact hv
  ot:=fun t k e he=>by
   obtain⟨u,v',h1,h2,h3,h4⟩:=h.ot t k e he
   have hlt:t<a.size:=(vap.1 h1).1
   exact⟨u,v',by rw[vco hlt,<-h1];simp[hlt],h2,h3,h4⟩}
theorem SR.finishCell(h:SR P E Γ bs ow w a st){fn:Func}{r:PVal}{ro:List (Nat×TypeId)}(hr:Np P fn.results.toList r ro st):∃v ow',(results fn a).run P w=.ok v w/\SR P E Γ [] ow' w #[v] ⟨[r],[],ro.map fun x=>((0,x.1),x.2)⟩:=by
 obtain⟨t,ty,i,off,cs,own,l,hrs,⟨fs,hfs⟩,ht,hB,rfl,hp,hcl,hro,hnd⟩:=hr
 have hrv:D8 P st fn.results.toList=some (.agg l):=by
  rw[hrs]
  show kJ P ty (st.tmps.getD t .undef) st.boxes=_
  rw[ht]
  simp only[kJ,hB,hp]
 obtain⟨v,e1,e2,_⟩:=qi h hrv
 have hvt:=h.getD t
 rw[ht]at hvt
 generalize hva:a.getD t undef=vt at hvt
 cases hvt with
 |bptr _ _ b hb=>
 obtain⟨v2,q1,q2,q3⟩:=Cn h hb hB hp
 have hvv:v2=v:=by
  have hres:fn.results=#[.cell t ty]:=by
   have:fn.results=fn.results.toList.toArray:=by simp
   rw[this,hrs]
  have hrun:(results fn a).run P w=.ok v2 w:=by
   simp[results,hres,asAddr]
   have hva':a[t]?.getD undef=.pointer (some ⟨b,off,none⟩):=by rw[<-vax];exact hva
   rw[hva']
   simp[q1]
  rw[e1]at hrun
  cases hrun
  rfl
 subst hvv
 have g1:=h.pushed e2
 obtain⟨ow',g2⟩:=SR.takeOwns (off:=off) (d:=a.size) (u:=v2) hb (by simp) ro g1 hB (fun x hx=>(hro x hx).1) hnd fun x hx=>by
  have:=q3 ⟨_,hfs,trivial⟩ x.1 (hro x hx).2
  obtain⟨v',z1,_⟩:=h.ob i (off+x.1) x.2 cs own b hB (hro x hx).1 hb
  exact⟨v',this.trans z1,z1⟩
 refine⟨v2,zI (fun k=>(a.size,k)) ro ow',e1,?_⟩
 have hf:=g2.finish (H':=[]) (src:=fun k=>(a.size,k)) (ro:=ro) e2 hcl (by unfold cC;trivial) (fun x hx=>⟨?_,fun u v' hu hv'=>?_⟩) (fun x _ y _ e=>by simpa using e)
 ·simpa using hf
 ·exact va7 _ (vb0.2 (vas.2 ⟨x,hx,rfl⟩))
 ·simp at hu;subst hu;exact hv'
end
def WK(P:Program)(rs:List ResultVar)(r:PVal)(ro:List (Nat×TypeId))(st:ax):Prop:=match AN rs ro st with
 |true=>match D8 P st rs with
  |some p=>p=r/\r.cl 0
  |none=>False
 | false => match QS P rs ro st with
  |true=>match D8 P st rs with
   |some p=>p=r/\r.cl 0/\r.isAgg=true
   |none=>False
  |false=>False
def FR(P:Program)(rs:List ResultVar)(r:PVal)(ro:List (Nat×TypeId)):Exit->List It->ax->Prop:=fun e _ st=>match e with
 |.normal=>WK P rs r ro st
 |.ret=>WK P rs r ro st
 |_=>False
theorem C.ofSat{f:FuncId}{fn:Func}{c:Code}{args:List PVal}{r:PVal}{ro:List (Nat×TypeId)}
  (hcall:∀vs w,(callFunc f vs).run P w=.ok (.enter f vs) w) (hfn:P.funcs[f]? =some fn) (hb:fn.body=some c)
  (hp:aL P GE 0 c (Ty P fn.results.toList r ro) ⟨args++List.replicate (fn.ntmps - args.length) .undef,[],[]⟩):C P GE f args [] [] r ro []:=by
 refine⟨hcall,fun Γ bs ow w vs h=>calls_of_wp hfn hb ?_⟩
 have hbl:bs.length=0:=h.bl
 obtain rfl:bs=[]:=vao hbl
 have h0:SR P ⟨GE,Γ,w,fun _=>False⟩ Γ [] (fun _=>none) w (vs++Array.replicate (fn.ntmps - vs.size) undef) ⟨args++List.replicate (fn.ntmps - args.length) .undef,[],[]⟩:=by
  have hsz:vs.size=args.length:=h.sz
  exact{
   wi:=h.wi
   sz:=by simp[hsz]
   tm:=fun t p v hp hv=>by
    simp only at hp
    by_cases ht:t<args.length
    ·rw[vac ht]at hp
     rw[vaI (by omega)]at hv
     exact h.tm t p v hp hv
    ·rw[vae (by omega),vaN]at hp
     split at hp<;>cases hp
     exact .undef v
   bl:=rfl
   bx:=fun i b B hi=>by simp at hi
   inj:=fun i j b hi=>by simp at hi
   bn:=fun i b hi=>by simp at hi
   on:=fun b L hL=>by cases hL
   ot:=fun t k e he=>by simp at he
   ob:=fun i j e cs own b hB=>by simp at hB
   gl:=h.gl
   gc:=h.gc
   gx:=fun g cs hg=>⟨(h.gx g cs hg).1,fun hx=>hx,(h.gx g cs hg).2.2⟩
   step:=.refl _ _ _ _}
 have hE:Be GE 0 ⟨GE,Γ,w,fun _=>False⟩:={
  ge:=rfl
  low:=fun b n hb=>h.lt_of_ghost hb
  nt:=fun _ _ hx=>hx
  gl:=h.gl}
 have hwp:=hp none ⟨GE,Γ,w,fun _=>False⟩ [] ⟨vs++Array.replicate (fn.ntmps - vs.size) undef,[]⟩ w hE rfl ⟨Γ,[],_,h0,fun i _=>rfl⟩
 refine wp_mono hwp fun e a w' hq=>?_
 obtain⟨hd,st,⟨Γ1,bs1,ow1,hS0,hk⟩,hQ⟩:=hq
 have hS:SR P ⟨GE,Γ,w,bL [] ow⟩ Γ1 bs1 ow1 w' a.tmps st:={hS0 with
  bn:=fun i b hb=>(hS0.bn i b hb).elim False.elim .inr
  on:=fun b L hL=>⟨(hS0.on b L hL).1,(hS0.on b L hL).2.elim False.elim .inr⟩
  gx:=h.gx
  step:={hS0.step with keep:=fun b hb _=>hS0.step.keep b hb (fun hx=>hx)}}
 have key:(D8 P st fn.results.toList=some r/\r.cl 0/\cC 0 st.boxes []/\(∀x∈ro,(cT fn.results.toList x.1,x.2)∈st.own/\pA st fn.results.toList x.1)/\
   (∀x∈ro,∀y∈ro,cT fn.results.toList x.1=cT fn.results.toList y.1->x.1=y.1))->
   a.defers=[]/\∃v,(results fn a.tmps).run P w'=.ok v w'/\∃v' Γ' ow',Ending.returned v=.returned v'/\SR P ⟨GE,Γ,w,bL [] ow⟩ Γ' [] ow' w' #[v'] ⟨[r],[],ro.map fun x=>((0,x.1),x.2)⟩:=by
  rintro⟨k1,k2,k3,k4,k5⟩
  obtain⟨v,e1,e2,e3⟩:=qi hS k1
  refine⟨hd,v,e1,v,Γ1,zI (cT fn.results.toList) ro ow1,rfl,?_⟩
  have hf:=hS.finish (H':=[]) (src:=cT fn.results.toList) (ro:=ro) e2 k2 k3 (fun x hx=>⟨(k4 x hx).1,fun u v'=>e3 x.1 u v' (k4 x hx).2⟩) k5
  simpa using hf
 have key2:Np P fn.results.toList r ro st->
   a.defers=[]/\∃v,(results fn a.tmps).run P w'=.ok v w'/\∃v' Γ' ow',Ending.returned v=.returned v'/\SR P ⟨GE,Γ,w,bL [] ow⟩ Γ' [] ow' w' #[v'] ⟨[r],[],ro.map fun x=>((0,x.1),x.2)⟩:=by
  intro hc
  obtain⟨v,ow',e1,e2⟩:=hS.finishCell hc
  exact⟨hd,v,e1,v,Γ1,ow',rfl,e2⟩
 rcases hQ with hQ|⟨he,hQ⟩
 ·cases e with
  |normal=>exact key hQ
  |ret=>exact key hQ
  |exit id=>exact hQ.elim
  |goto l=>exact hQ.elim
  |panic c=>exact hQ.elim
  |outgrown=>exact hQ.elim
 ·rcases he with rfl|rfl
  ·exact key2 hQ
  ·exact key2 hQ
theorem J5{rs:List ResultVar}{r:PVal}{ro:List (Nat×TypeId)}{st:ax}(hc:AN rs ro st=true)(hp:D8 P st rs=some r)(hcl:r.cl 0):D8 P st rs=some r/\r.cl 0/\cC 0 st.boxes []/\(∀x∈ro,(cT rs x.1,x.2)∈st.own/\pA st rs x.1)/\
      (∀x∈ro,∀y∈ro,cT rs x.1=cT rs y.1->x.1=y.1):=by
  unfold AN at hc
  rw[vad]at hc
  obtain⟨c1,c2⟩:=hc
  refine⟨hp,hcl,by unfold cC;cases st.boxes<;>trivial,fun x hx=>?_,fun x hx y hy hxy=>?_⟩
  · have:=vat.1 c1 x hx
    rw[vad]at this
    refine⟨by simpa using this.1,?_⟩
    have h2:=this.2
    clear hp this c1 c2
    rcases rs with _|⟨y,_|⟨z,rs⟩⟩
    ·simp at h2
    · cases y with
      |tmp t=>trivial
      |cell t ty=>cases h2
    · have key:∀ o:Option ResultVar,(match o with
        |some (.tmp t)=>(st.tmps.getD t .undef).isSlice
        |_=>false)=true->(match o with
        |some (.tmp t)=>(st.tmps.getD t .undef).isSlice=true
        |_=>False):=by
        intro o
        cases o with
        |none=>intro h;cases h
        |some q=>cases q<;>intro h<;>first|exact h|cases h
      cases y with
      |tmp t=>exact key _ h2
      |cell t ty=>exact key _ h2
  · have:=vat.1 (vat.1 c2 x hx) y hy
    simpa[hxy]using this
theorem WK.to{rs:List ResultVar}{r:PVal}{ro:List (Nat×TypeId)}{st:ax}{e:Exit}(he:e=.normal\/e=.ret)(h:WK P rs r ro st):Ty P rs r ro e st:=by
 unfold WK at h
 split at h
 ·rename_i hc
  split at h
  ·rename_i p hp
   obtain⟨rfl,hcl⟩:=h
   have:=J5 hc hp hcl
   rcases he with rfl|rfl<;>exact .inl this
  ·exact h.elim
 ·split at h
  ·rename_i hc
   split at h
   ·rename_i p hp
    obtain⟨rfl,hcl,hagg⟩:=h
    refine .inr ⟨he,?_⟩
    unfold QS at hc
    split at hc
    ·rename_i t ty _
     split at hc
     ·rename_i fs hfs
      split at hc
      ·rename_i i off ht
       split at hc
       ·rename_i cs own hB
        rw[vad]at hc
        obtain⟨c1,c2⟩:=hc
        have hpl:cp P ty (cs.drop off)=some p:=by
         have hp':kJ P ty (st.tmps.getD t .undef) st.boxes=some p:=hp
         rw[ht]at hp'
         simpa only[kJ,hB]using hp'
        cases p<;>simp only[PVal.isAgg]at hagg<;>first|(cases hagg;done)|skip
        rename_i l
        have hlen:l.length=P.cellsOf ty:=by
         have hq:=hpl
         unfold cp at hq
         rw[hfs]at hq
         simp only at hq
         split at hq
         ·rename_i hh;cases hq;rw[vaZ];omega
         ·cases hq
        refine⟨t,ty,i,off,cs,own,l,rfl,⟨fs,hfs⟩,ht,hB,rfl,hpl,hcl,fun x hx=>?_,mS c2⟩
        have:=vat.1 c1 x hx
        simp only[vad,vak]at this
        exact⟨this.1,by rw[hlen];exact this.2⟩
       ·cases hc
      ·cases hc
     ·cases hc
    ·cases hc
   ·exact h.elim
  ·exact h.elim
theorem FR.to{rs:List ResultVar}{r:PVal}{ro:List (Nat×TypeId)}{e:Exit}{sc:List It}{st:ax}(h:FR P rs r ro e sc st):Ty P rs r ro e st:=by
 unfold FR at h
 split at h
 ·exact h.to (.inl rfl)
 ·exact h.to (.inr rfl)
 ·exact h.elim
theorem C.ev(hf:P.follows .mixedOrders=true){f:FuncId}{fn:Func}{c:Code}{args:List PVal}{r:PVal}{ro:List (Nat×TypeId)}
  (hcall:∀vs w,(callFunc f vs).run P w=.ok (.enter f vs) w) (hfn:P.funcs[f]? =some fn) (hb:fn.body=some c) (hcl:kI 0 args) (sc:List It)
  (h:wO P GE A 0 c sc ⟨args++List.replicate (fn.ntmps - args.length) .undef,[],[]⟩ (FR P fn.results.toList r ro)):CC P GE f args r ro:=
 ⟨hcl,C.ofSat hcall hfn hb ((fw hf c sc _ _ h).imp fun e st hx=>by obtain⟨sc',hx⟩:=hx;exact hx.to)⟩
end
abbrev ag:=List UInt8
abbrev bA(n:Int):Int:=IntKind.i64.wrap n
def cS(s:ag):List PVal:=[.str s]
def cI(k:IntKind)(n:Int):List PVal:=[.int k n]
def sl{α:Type}(c:α->List PVal)(l:List α):PVal:=.slice (l.map c)
def cL{α:Type}(c:α->List PVal)(l:List α):List PVal:=[sl c l]
def hX(s:ag)(i:Int):Option Int:=(dt s i).map fun c=>(c.toNat:Int)
def bd:Option Int->Nat->Option Nat
 |none,d=>some d
 |some i,_=>if 0<=i then some i.toNat else none
def Hy{α:Type}(l:List α)(lo hi:Option Int):Option (List α):=
 match bd lo 0,bd hi l.length with
 |some a,some b=>if a<=b/\b<=l.length then some ((l.take b).drop a)else none
 |_,_=>none
def app{α:Type}(l r:List α):Option (List α):=if l.length+r.length<=dy then some (l++r)else none
def YC(a b:ag):Option ag:=if a.length+b.length<=PR then some (a++b)else none
def xJ{α:Type}(m:List (ag×α))(k:ag):Option α:=(m.find? fun e=>k==e.1).map (·.2)
def Co{α:Type}(m:List (ag×α))(k:ag)(v:α):List (ag×α):=
 match m with
 |[]=>[(k,v)]
 |e::r=>if k==e.1 then(k,v)::r else e::Co r k v
def yP{α:Type}(f:α->PVal)(m:List (ag×α)):List (PVal×PVal):=m.map fun e=>(.str e.1,f e.2)
def TE:TypeDesc->Bool
 |.struct _=>false
 |.array _ _=>false
 |_=>true
theorem dB{P:Program}{t:TypeId}(h:(P.underlying t).any TE=true)(p:PVal)(r:List PVal):cp P t (p::r)=some p:=by
 unfold cp
 split
 ·rename_i hu;rw[hu]at h;cases h
 ·rename_i hu;rw[hu]at h;cases h
 ·rfl
 ·rename_i hu;rw[hu]at h;cases h
structure AV{α:Type}(P:Program)(T e:TypeId)(c:α->List PVal):Prop where
 hu:P.underlying T=some (.slice e)
 hc:∀x,(c x).length=P.cellsOf e
 hi:(P.info? e).isSome=true
 hp:0<P.cellsOf e
 hz:(jv P e).map (·.length)=some (P.cellsOf e)
 hb:P.bytesOf e<=65536
 ho:∀x,∀q∈c x,q.one=true
 cl:∀x,kI 0 (c x)
theorem am{α:Type}{c:α->List PVal}(h:∀x,kI 0 (c x))(l:List α):(sl c l).cl 0:=by
 unfold sl
 simp only[PVal.cl]
 exact MR fun p hp=>by obtain⟨x,_,rfl⟩:=vas.1 hp;exact h x
theorem d8(s:ag):kI 0 (cS s):=⟨trivial,trivial⟩
theorem Dr{α:Type}{l:List α}{i:Int}{x:α}(h:dt l i=some x):0<=i/\l[i.toNat]? =some x:=by
 unfold dt at h
 split at h
 ·exact⟨‹_›,h⟩
 ·cases h
theorem aI{a b:Prop}(h:a)(h':b):a/\b:=⟨h,h'⟩
theorem rP(p:PVal):p=p:=rfl
theorem lf{β:Type}{a r:β}(h:some a=some r):a=r:=vbn h
abbrev u:PVal:=.undef
theorem Ge(x:ag):ct (.str x)=some (cS x):=rfl
theorem qaG(l:List PVal):ct (.agg l)=some l:=rfl
theorem YM(x:ag):∀q∈cS x,q.one=true:=by intro q hq;simp[cS]at hq;subst hq;rfl
def dc:Code->List Bool->Code
 |c,[]=>c
 |.seq a b,x::l=>match x with|false=>dc a l|true=>dc b l
 |.cond _ a b,x::l=>match x with|false=>dc a l|true=>dc b l
 |.block _ c,_::l=>dc c l
 |.loop c,_::l=>dc c l
 |c,_=>c
section
variable{P:Program}{T e:TypeId}{α:Type}{c:α->List PVal}
theorem AV.ia(s:AV P T e c){l:List α}{i:Int}{k:IntKind}{x:α}(h:dt l i=some x):j6 P T (sl c l) (.int k i)=some (.eptr (c x)):=by
 obtain⟨h0,h1⟩:=Dr h
 unfold sl j6
 simp only[s.hu,vai h0,vay,h1,vaf]
 rw[vai ⟨s.hc x,s.hi⟩]
theorem AV.ln(s:AV P T e c)(l:List α):∀H,Cx P T (sl c l) H=some (.int .i64 (l.length:Int)):=fun H=>by
 unfold sl Cx;simp only[s.hu,vbz]
theorem HL{o:Option Int}{d n:Nat}{k:IntKind}(h:bd o d=some n):He (o.map (PVal.int k)) d=some n:=by
 cases o with
 |none=>exact h
 |some i=>exact h
theorem AV.sc(s:AV P T e c){l r:List α}{lo hi:Option Int}(h:Hy l lo hi=some r):zY P T (sl c l) (lo.map (PVal.int .i64)) (hi.map (PVal.int .i64)) none=some (sl c r):=by
 unfold Hy at h
 split at h
 ·rename_i a b h1 h2
  split at h
  ·rename_i hb
   cases h
   unfold sl zY
   simp only[s.hu,HL h1]
   rw[show(l.map c).length=l.length by simp,HL h2]
   simp only
   have hx:∀x∈(l.map c).take 1,x.length=P.cellsOf e:=fun x hx=>by
    obtain⟨y,_,rfl⟩:=vas.1 (List.mem_of_mem_take hx)
    exact s.hc y
   rw[vai ⟨hb.1,hb.2,s.hi,hx⟩,List.map_drop,List.map_take]
  ·cases h
 ·cases h
theorem AV.ap(s:AV P T e c){l r z:List α}(h:app l r=some z):ky P T (l.map c) (r.map c)=some (sl c z):=by
 unfold app at h
 split at h
 ·cases h
  unfold ky sl
  simp only[s.hu,vbz]
  have h1:∀x∈l.map c,x.length=P.cellsOf e:=fun x hx=>by obtain⟨y,_,rfl⟩:=vas.1 hx;exact s.hc y
  have h2:∀x∈r.map c,x.length=P.cellsOf e/\∀q∈x,q.one=true:=fun x hx=>by obtain⟨y,_,rfl⟩:=vas.1 hx;exact⟨s.hc y,s.ho y⟩
  rw[vai ⟨‹_›,s.hb,s.hp,s.hz,h1,h2⟩,List.map_append]
 ·cases h
theorem LO{v:α->PVal}{sz:Nat}(hv:∀x,ct (v x)=some (c x))(hc:∀x,(c x).length=sz):∀(l:List α) (i:Nat),zQ sz i ((l.map v).zipIdx i|>.map fun x=>(x.2,x.1))=some (l.map c)
 |[],i=>by simp[zQ]
 |x::l,i=>by
  have ih:=LO hv hc l (i+1)
  simp only[vaW,List.zipIdx_cons,zQ,hv x]
  simp[ih,hc x]
theorem AV.mk'(s:AV P T e c){v:α->PVal}(hv:∀x,ct (v x)=some (c x))(l:List α)(n:Nat)(hn:(decide (l.length=n)&&decide (n * P.cellsOf e<=16777216))=true):d4 P T n ((l.map v).zipIdx 0|>.map fun x=>(x.2,x.1))=some (sl c l):=by
 simp only[vad,vak]at hn
 unfold d4 sl
 simp only[s.hu,LO hv s.hc]
 have hz:(jv P e).isSome=true:=by
  cases h:jv P e with
  |none=>have:=s.hz;rw[h]at this;cases this
  |some z=>rfl
 rw[vai ⟨by simpa using hn.1,hz,s.hp,hn.2,s.hz⟩]
theorem eQ{t:TypeId}(h:P.underlying t=some .string){s:ag}{i:Int}{k:IntKind}{x:Int}(hx:hX s i=some x):xP P t (.str s) (.int k i)=some (.int .u8 x):=by
 unfold hX at hx
 cases hi:dt s i with
 |none=>rw[hi]at hx;cases hx
 |some b=>
  rw[hi]at hx;cases hx
  obtain⟨h0,h1⟩:=Dr hi
  unfold xP
  simp only[h,vai h0,h1,vaf]
theorem WS{β:Type}{t e:TypeId}{n:Nat}{v:β->PVal}{l:List β}(h:P.underlying t=some (.array n e))(h1:P.cellsOf e=1)(h2:(P.info? e).isSome=true)(h3:(P.underlying e).any TE=true)(h4:decide (l.length=n)=true)
  {k:IntKind} {i:Int} {x:β} (hx:dt l i=some x):xP P t (.agg (l.map v)) (.int k i)=some (v x):=by
 obtain⟨h0,hx⟩:=Dr hx
 have hlt:i.toNat<l.length:=(vcb.1 hx).1
 have hl:l.length=n:=by simpa using h4
 unfold xP
 simp only[h]
 rw[vai ⟨h0,by omega,h2⟩,h1,vb5,va6 (by simpa using hlt)]
 rw[dB h3]
 simp only[List.getElem_map]
 rw[vab hlt]at hx
 cases hx;rfl
theorem fl{t:TypeId}(h:P.underlying t=some .string)(s:ag):∀H,Cx P t (.str s) H=some (.int .i64 (s.length:Int)):=fun H=>by unfold Cx;simp only[h]
theorem QV{t:TypeId}(ht:P.underlying t=some .string){l r:ag}{lo hi:Option Int}(h:Hy l lo hi=some r):zY P t (.str l) (lo.map (PVal.int .i64)) (hi.map (PVal.int .i64)) none=some (.str r):=by
 unfold Hy at h
 split at h
 ·rename_i a b h1 h2
  split at h
  ·rename_i hb
   cases h
   unfold zY
   simp only[ht,HL h1,HL h2]
   rw[vai hb]
  ·cases h
 ·cases h
theorem V4{t:TypeId}{a b z:ag}(h:YC a b=some z):P0 P .add t (.str a) (.str b)=some (.str z):=by
 unfold YC at h
 unfold P0 UD
 split at h
 ·cases h;simp only;rw[vai ‹_›]
 ·cases h
theorem Cv{f:α->PVal}(k:ag):∀(m:List (ag×α)) (i:Nat),zR (.str k) (yP f m) i=some (match xJ m k with
  |none=>none
  |some v=>some (i+(m.findIdx fun e=>k==e.1),f v))
 |[],i=>by simp[yP,zR,xJ]
 | e :: m,i => by
  have ih:=Cv (f:=f) k m (i+1)
  unfold yP at ih ⊢
  simp only[vaW,zR,Nk]
  unfold xJ at ih ⊢
  by_cases h:(k==e.1)=true
  ·simp[h,vbR]
  ·have h':(k==e.1)=false:=by simpa using h
   simp only[h',List.find?_cons,ih,vbR]
   cases hm:(List.find? (fun e=>k==e.1) m)with
   |none=>simp
   |some v=>simp;omega
theorem PT{t kt et:TypeId}{f:α->PVal}(h1:P.underlying t=some (.map kt et))(h2:P.underlying kt=some .string){z:α}(hz:Fs P et=some (f z))(m:List (ag×α))(k:ag):JA P t (yP f m) (.str k) false=some (f ((xJ m k).getD z)):=by
 unfold JA
 simp only[h1,h2,me,if_true,Cv]
 cases xJ m k with
 |none=>simp[hz]
 |some v=>simp
theorem QH(f:α->PVal)(k:ag)(v:α):∀(m:List (ag×α)),yP f (Co m k v)=match xJ m k with
  |none=>yP f m++[(.str k,f v)]
  |some _=>(yP f m).set (m.findIdx fun e=>k==e.1) (.str k,f v)
 |[]=>by simp[Co,xJ,yP]
 | e :: m => by
  have ih:=QH f k v m
  unfold xJ at ih ⊢
  unfold yP at ih ⊢
  by_cases h:(k==e.1)=true
  ·simp[Co,h,vbR]
  ·have h':(k==e.1)=false:=by simpa using h
   simp only[Co,h',List.find?_cons,vbR,vaW]
   simp only[vaz,if_false,vaW,ih]
   cases(List.find? (fun e=>k==e.1) m)with
   |none=>simp
   |some v=>simp
theorem Tc{t kt et:TypeId}{f:α->PVal}(h1:P.underlying t=some (.map kt et))(h2:P.underlying kt=some .string)(m:List (ag×α))(k:ag)(v:α):LP P t (yP f m) (.str k) (f v)=some (yP f (Co m k v)):=by
 unfold LP
 simp only[h1,h2,me,if_true,Cv,QH]
 cases xJ m k with
 |none=>simp
 |some w=>simp
end
structure Vs(w w':World):Prop where
 os:w'.os=w.os
 tape:w'.tape=w.tape
 output:w'.output=w.output
 size:w.heap.size<=w'.heap.size
 keep:∀b,b<w.heap.size->w'.heap[b]? =w.heap[b]?
theorem Vs.of_grow(w:World)(k:Nat)(os:Array Obj):Vs w (Sort.grow (w.drewN k) os):={
 os:=rfl
 tape:=rfl
 output:=rfl
 size:=by show w.heap.size<=(w.heap++os).size;simp
 keep:=fun b hb=>by show(w.heap++os)[b]? =_;rw[vaI hb]}
section
variable{P:Program}{GE:List (Nat×List PVal)}
theorem V5{E:qj}{Γ:aV}{bs:bD}{ow:Nat->Option kH}{w:World}{a:Array Value}{st:ax}(h:SR P E Γ bs ow w a st){g:Nat}{k:IntKind}{zs:List Int}{name:String}
  (hg:(g,zs.map (PVal.int k))∈E.GE) (hn:P.globalNamed name=some g):Lib.TabIs P w name k zs:=by
 obtain⟨_,_,_,c,t,fr,h1,h2⟩:=h.gnow hg
 have hv:=h.gl g _ hg
 unfold Lib.TabIs World.var?
 rw[hn]
 simp only[vaa,h1]
 congr 1
 refine Array.ext_getElem? fun i=>?_
 generalize hcs:zs.map (PVal.int k)=cs at hv
 cases hv with
 |eptrE _ _=>
  have hz:zs=[]:=by simpa using hcs
  subst hz
  have h3:c.size=0:=h2
  rw[vbC (by omega),vbC (by simp)]
 | eptr _ _ _ n vals hg' hn' hc hvv =>
  subst hcs
  by_cases hi:i<zs.length
  ·have h3:=hc i _ (by simp[hi]:(zs.map (PVal.int k))[i]? =some (.int k zs[i]))
   have h4:=hvv i _ (by simp[hi]:(zs.map (PVal.int k))[i]? =some (.int k zs[i]))
   rw[vaH]at h3
   have h5:w.cell? ⟨g,i,none⟩=c[i]?:=cell_of_row w g i c t fr h1
   rw[h5]at h3
   rw[h3]
   generalize vals i=vi at h4
   cases h4
   simp[hi]
  ·rw[vbz]at h2
   rw[vbC (by omega),vbC (by simp;omega)]
theorem CC.grownIS{f:FuncId}{n:Int}{s:ag}{k:IntKind}(hcall:∀vs w,(callFunc f vs).run P w=.ok (.enter f vs) w)
  (h:∀E Γ bs ow w a st,E.GE=GE->SR P E Γ bs ow w a st->Calls P f #[.int k n] w fun e w'=>e=.returned (.string ⟨s.toArray⟩)/\Vs w w'):CC P GE f [.int k n] (.str s) []:=by
 refine⟨⟨trivial,trivial⟩,hcall,fun Γ bs ow w vs hS=>?_⟩
 have hvs:vs=#[.int k n]:=by
  have h1:=hS.sz
  simp at h1
  have h2:vs[0]? =some vs[0]:=by simp[h1]
  have h3:=hS.tm 0 _ _ rfl h2
  refine Array.ext (by simp[h1]) fun i hi hi2=>?_
  have:i=0:=by simp at hi2;omega
  subst this
  generalize vs[0]=v at h3
  cases h3
  rfl
 subst hvs
 refine(h _ Γ bs ow w _ _ rfl hS).mono fun e w' he=>?_
 obtain⟨rfl,hg⟩:=he
 have hbl:bs.length=0:=hS.bl
 obtain rfl:bs=[]:=vao hbl
 have hW:=hS.world (Γ':=Γ) (w':=w') (fun _=>False) (fun b m hb _=>⟨m,hb,vam _,fun o _=>bT (hg.keep b (hS.lt_of_ghost hb)) o⟩)
  (fun b m hb=>by
   obtain⟨c,t,fr,h1,h2⟩:=hS.wi b m hb
   exact⟨c,t,fr,(hg.keep b (hS.lt_of_ghost hb)).trans h1,h2⟩) hg.os hg.tape hg.output hg.size (fun b hb _=>⟨hg.keep b hb,rfl⟩) (fun _ hx=>hx.elim) (fun _ _ _ hx=>hx) (fun _ _ _ hx=>hx)
 refine⟨_,Γ,ow,rfl,{hW with
  sz:=rfl
  tm:=fun t p v hp hv=>by
   cases t with
   |zero=>simp at hp hv;subst hp;subst hv;exact .str s
   |succ t=>simp at hp
  ot:=fun t k e he=>by simp at he}⟩
structure Ss(P:Program)(g:FuncId)(e:TypeId)(enc:ag->Value)(f:List ag->List ag)(R:Option Addr->Nat->Nat->Value):Prop where
 call:∀vs w,(callFunc g vs).run P w=.ok (.enter g vs) w
 row:∀(w:World) (b cap:Nat) (cur:Array Value) (l:List ag),w.heap[b]? =some (.cells cur e (0,0))->cur.size=cap->l.length<=cap->cap<=maxLen->l.length<=dy->cur.toList.take l.length=l.map enc->
  Calls P g #[.slice (some ⟨b,0,none⟩) l.length cap] w fun r w'=>r=.returned (R (some ⟨b,0,none⟩) (f l).length cap)/\(f l).length<=cap/\w'.os=w.os/\w'.tape=w.tape/\w'.output=w.output/\w.heap.size<=w'.heap.size/\
   (∀b',b'<w.heap.size->b'≠b->w'.heap[b']? =w.heap[b']?)/\∃cur',w'.heap[b]? =some (.cells cur' e (0,0))/\cur'.size=cap/\cur'.toList.take (f l).length=(f l).map enc
 none:∀w:World,f []=[]/\Calls P g #[.slice none 0 0] w fun r w'=>r=.returned (R none 0 0)/\w'=w
theorem SQ:∀{l l':List PVal},l.length=l'.length->(∀(i:Nat) q,l'[i]? =some q->q=.undef\/l[i]? =some q)->G6 l l'=l'
 |[],[],_,_=>rfl
 |[],_::_,h,_=>by simp at h
 |_::_,[],h,_=>by simp at h
 | p :: l,q :: l',h,hq => by
  have ih:=SQ (l:=l) (l':=l') (by simpa using h) fun i x hx=>by simpa using hq (i+1) x (by simpa using hx)
  have h0:=hq 0 q rfl
  simp only[List.getElem?_cons_zero,var]at h0
  rcases h0 with rfl|rfl
  ·simp only[G6,ih]
  ·cases p<;>simp only[G6,ih]
def fp(n t:Nat)(l:List ag)(e:TypeId):ax:=⟨(List.replicate n .undef).set t (sl cS l),[],[((t,0),e)]⟩
theorem Jt{n t:Nat}{p:PVal}{i:Nat}{l:List ag}(h:((List.replicate n .undef).set t (sl cS l))[i]? =some p):p=.undef\/(i=t/\p=sl cS l):=by
 rw[vbG]at h
 split at h
 ·rename_i hti
  split at h
  ·cases h;exact .inr ⟨hti.symm,rfl⟩
  ·cases h
 ·rw[vaN]at h
  split at h
  ·cases h;exact .inl rfl
  ·cases h
theorem Fh{E:qj}{Γ:aV}{bs:bD}{ow:Nat->Option kH}{w w':World}{a:Array Value}{st:ax}(h:SR P E Γ bs ow w a st)(hE:Be GE 0 E)(hbs:bs=[]){e:TypeId}(he:P.cellsOf e=1){n t ts:Nat}{a':Array Value}(hn:a'.size=n)(hts:ts<n)
  {f:List ag} {v:Value} (hv:a'[ts]? =some v) (hos:w'.os=w.os) (htp:w'.tape=w.tape) (hout:w'.output=w.output) (hsz:w.heap.size<=w'.heap.size)
  (hval:(v=.slice none 0 0/\f=[]/\w'=w)\/∃b cap cur',v=.slice (some ⟨b,0,none⟩) f.length cap/\ow b=some (.tmp t 0)/\f.length<=cap/\cap<=maxLen/\(∀b',b'<w.heap.size->b'≠b->w'.heap[b']? =w.heap[b']?)/\w'.heap[b]? =some (.cells cur' e (0,0))/\cur'.size=cap/\cur'.toList.take f.length=f.map fun s=>Value.string ⟨s.toArray⟩):
  ∃Γ' ow',SR P E Γ' [] ow' w' a' (fp n ts f e):=by
 subst hbs
 rcases hval with⟨rfl,rfl,rfl⟩|⟨b,cap,cur',rfl,hob,hfc,hcm,hkeep,hcur,hcs,htake⟩
 ·refine⟨Γ,fun _=>.none,{h with
   sz:=by simp[fp,hn]
   tm:=fun i p u hp hu=>by
    rcases Jt hp with rfl|⟨rfl,rfl⟩
    ·exact .undef u
    ·rw[hv]at hu;cases hu;exact .sliceNil
   bl:=rfl
   bx:=fun i b B hi=>by simp at hi
   inj:=fun i j b hi=>by simp at hi
   bn:=fun i b hi=>by simp at hi
   on:=fun b L hL=>by cases hL
   ot:=fun t' k e' he'=>by
    simp[fp]at he'
    obtain⟨⟨rfl,rfl⟩,rfl⟩:=he'
    exact⟨_,_,hv,rfl,⟨0,[],World.ownsRow_nil _ _ _ _,fun b hb=>by simp[Value.ownBlock]at hb⟩,fun b hb=>by simp[Value.ownBlock]at hb⟩
   ob:=fun i j e' cs own b hB=>by simp[fp]at hB}⟩
 ·have hlo:=(h.on b _ hob)
  have hblt:=hlo.1
  have hbe:E.w.heap.size<=b:=hlo.2.resolve_left (hE.nt rfl b)
  have hlen:cur'.toList.length=cap:=by simpa using hcs
  have hget:∀i,i<f.length->cur'[i]? =some (.string ⟨(f[i]!).toArray⟩):=by
   intro i hi
   have h1:(cur'.toList.take f.length)[i]? =(f.map fun s=>Value.string ⟨s.toArray⟩)[i]?:=by rw[htake]
   rw[van hi]at h1
   simp only[vaP,vay]at h1
   rw[h1]
   simp[hi]
  have hle:E.Γ.Le E.w (Γ.put b f.length) w':=fun x m hx hm0=>by
   obtain⟨m',h1,h2,h3⟩:=h.step.le x m hx hm0
   have hne:x≠b:=fun hxb=>by have:=hE.low x m hx;omega
   refine⟨m',(Γ.put_other hne).trans h1,h2,fun o ho=>?_⟩
   rw[<-h3 o ho]
   exact bT (hkeep x (h.lt_of_ghost h1) hne) o
  refine⟨Γ.put b f.length,fun x=>if x=b then some (.tmp ts 0)else Option.none,{
   wi:=fun x m hx=>by
    by_cases hxb:x=b
    ·subst hxb;rw[Γ.put_same]at hx;cases hx;exact⟨cur',e,(0,0),hcur,by omega⟩
    ·rw[Γ.put_other hxb]at hx
     obtain⟨c,t',fr,h1,h2⟩:=h.wi x m hx
     exact⟨c,t',fr,(hkeep x (h.lt_of_ghost hx) hxb).trans h1,h2⟩
   sz:=by simp[fp,hn]
   tm:=fun i p u hp hu=>by
    rcases Jt hp with rfl|⟨rfl,rfl⟩
    ·exact .undef u
    ·rw [hv] at hu; cases hu
     have:=VR.slice (Γ:=Γ.put b f.length) (bs:=[]) (w:=w') (f.map cS) b 0 cap f.length 1 (fun i _=>.string ⟨(f[i]!).toArray⟩) (by decide) (by simpa using hfc) (Γ.put_same _ _) (by simp)
      (fun i x hx=>by rw[vay]at hx;cases hf:f[i]? with
       |none=>rw[hf]at hx;cases hx
       |some s=>rw[hf]at hx;cases hx;rfl)
      (fun i x k q hx hq=>by
       rw[vay]at hx
       cases hf:f[i]? with
       |none=>rw[hf]at hx;cases hx
       |some s=>
        rw[hf]at hx;cases hx
        have hil:=ak hf
        have hk:k=0:=by have:=ak hq;simp[cS]at this;exact this
        subst hk
        rw[show 0+i * 1+0=i by omega,cell_of_row w' b i cur' e _ hcur]
        exact hget i hil)
      (fun i x k q hx hq=>by
       rw[vay]at hx
       cases hf:f[i]? with
       |none=>rw[hf]at hx;cases hx
       |some s=>
        rw[hf]at hx;cases hx
        have hk:k=0:=by have:=ak hq;simp[cS]at this;exact this
        subst hk
        simp[cS]at hq;subst hq
        have:f[i]! =s:=by rw[List.getElem!_eq_getElem?_getD,hf];rfl
        rw[this]
        exact .str s)
     rw[vbz]at this
     exact this
   bl:=rfl
   bx:=fun i b B hi=>by simp at hi
   inj:=fun i j b hi=>by simp at hi
   bn:=fun i b hi=>by simp at hi
   on:=fun x L hL=>by
    split at hL
    ·rename_i hxb;subst hxb;exact⟨vaD hblt hsz,.inr hbe⟩
    ·cases hL
   ot:=fun t' k e' he'=>by
    simp[fp]at he'
    obtain⟨⟨rfl,rfl⟩,rfl⟩:=he'
    refine⟨_,_,hv,rfl,⟨f.length,f.map fun s=>Value.string ⟨s.toArray⟩,⟨by simp[he],.inr ⟨b,cap,cur',rfl,vaB _,hcur,hfc,hcm,by rw[he];omega,by rw[he,vb5];exact htake⟩⟩,fun x hx=>?_⟩,fun x hx=>?_⟩
    ·simp[Value.ownBlock]at hx;subst hx;rw[he,vb5];exact Γ.put_same _ _
    ·simp[Value.ownBlock]at hx;subst hx;simp
   ob:=fun i j e' cs own b hB=>by simp[fp]at hB
   gl:=fun g cs hg=>(hE.gl g cs (by rw[<-hE.ge];exact hg)).mono hle (.refl _)
   gc:=h.gc
   gx:=h.gx
   step:={
    os:=hos.trans h.step.os
    tape:=htp.trans h.step.tape
    output:=hout.trans h.step.output
    size:=va1 h.step.size hsz
    keep:=fun x hx hT=>by
     have hne:x≠b:=fun hxb=>by omega
     obtain⟨k1,k2⟩:=h.step.keep x hx hT
     exact⟨(hkeep x (vaD hx h.step.size) hne).trans k1,(Γ.put_other hne).trans k2⟩
    le:=hle}}⟩
theorem Gd(x:Option Addr)(n c:Nat):iD (.slice x n c) 0=some (.slice x n c):=rfl
theorem Dt{g:FuncId}{e:TypeId}{f:List ag->List ag}{R:Option Addr->Nat->Nat->Value}(hI:Ss P g e (fun s=>Value.string ⟨s.toArray⟩) f R)(he:P.cellsOf e=1){ops:Array Oper}{rest:List Nat}{o1 o2:Oper}{n t d1 d2 ts:Nat}{l:List ag}{tys:Array TypeId}
  (hla:l.length<=dy) (ho1:ops[0]? =some o1) (ho2:ops[1]? =some o2)
  (h1:o1.op=.move (.tmp t)) (h1d:o1.dst=some d1) (h1g:o1.guard=none) (h2:o2.op=.call {callee:=.value (.func g),args:=#[.tmp d1],argTypes:=tys}) (h2d:o2.dst=some d2) (h2g:o2.guard=none)
  (hn:t<n/\d1<n/\d2<n/\t≠d1/\t≠d2/\d1≠d2) (hts:(ts=t/\(f l).length=l.length)\/(ts=d2/\∀x k c,R x k c=.slice x k c))
  {E:qj} {a:Act} {w:World} {Q:Exit->Act->World->Prop} (hE:Be GE 0 E) (hR:NA P E [] (fp n t l e) a w)
  (hfin:∀a' w',a'.defers=a.defers->(∃Γ' ow',SR P E Γ' [] ow' w' a'.tmps (fp n ts (f l) e))->wpOps P ops Q rest a' w'):wpOps P ops Q (0::1::rest) a w:=by
 obtain⟨n1,n2,n3,n4,n5,n6⟩:=hn
 obtain⟨Γ,bs,ow,h,hk⟩:=hR
 have hbs:bs=[]:=vao h.bl
 have hsz:a.tmps.size=n:=by rw[h.sz];simp[fp]
 obtain⟨u,v,hu,hpv,hown,hob⟩:=h.ot t 0 e (by simp[fp])
 have hvr:=h.tm t (sl cS l) u (by simp[fp,n1]) hu
 have hu0:a.eval (.tmp t)=u:=lH hu
 rw[wpOps_cons]
 unfold wpOp
 rw[ho1]
 simp only
 rw[vai (by simp[Region.wanted,h1g])]
 refine .inl ?_
 unfold Oper.wp
 rw[show(execOp a.eval o1).run P w=.ok (.value u) w by simp[execOp,h1,hu0],Oper.upon_value]
 rw[wpOps_cons]
 unfold wpOp
 rw[ho2]
 simp only
 rw[vai (by simp[Region.wanted,h2g])]
 refine .inl ?_
 unfold Oper.wp
 have hu1:(a.put o1.dst u).eval (.tmp d1)=u:=by
  refine lH ?_
  rw[h1d]
  show(a.tmps.setIfInBounds d1 u)[d1]? =some u
  simp[hsz,n2]
 rw[show(execOp (a.put o1.dst u).eval o2).run P w=.ok (.enter g #[u]) w by
  simp only[execOp,h2]
  simp[resolve,Act.eval,Deferred.ofValue,invoke,hI.call]
  have hu2:(a.put o1.dst u).tmps.getD d1 undef=u:=hu1
  rw[vax]at hu2
  exact hu2,Oper.upon_enter]
 have hget:∀r:Value,(((a.put o1.dst u).put o2.dst r).tmps)[t]? =some u/\(((a.put o1.dst u).put o2.dst r).tmps)[d2]? =some r/\(((a.put o1.dst u).put o2.dst r).tmps).size=n:=by
  intro r
  rw[h1d,h2d]
  show((a.tmps.setIfInBounds d1 u).setIfInBounds d2 r)[t]? =some u/\((a.tmps.setIfInBounds d1 u).setIfInBounds d2 r)[d2]? =some r/\((a.tmps.setIfInBounds d1 u).setIfInBounds d2 r).size=n
  refine⟨?_,?_,by simp[hsz]⟩
  ·rw[vaO n5.symm,vaO n4.symm];exact hu
  ·rw[Array.getElem?_setIfInBounds_self_of_lt (by simp[hsz,n3])]
 have hdef:∀r:Value,((a.put o1.dst u).put o2.dst r).defers=a.defers:=fun r=>(cw _ _ _).trans (cw _ _ _)
 have fin:∀(r:Value) (w':World),(∃Γ' ow',SR P E Γ' [] ow' w' ((a.put o1.dst u).put o2.dst r).tmps (fp n ts (f l) e))->wpOps P ops Q rest ((a.put o1.dst u).put o2.dst r) w':=
  fun r w' hS=>hfin _ _ (hdef r) hS
 have hlt:ts<n:=by rcases hts with⟨rfl,_⟩|⟨rfl,_⟩<;>assumption
 unfold sl at hvr
 generalize hes:l.map cS=es at hvr
 cases hvr with
 | sliceNil =>
  have hl:l=[]:=by cases l with
   |nil=>rfl
   |cons x l=>simp at hes
  subst hl
  refine(hI.none w).2.mono fun r w' hr=>?_
  obtain⟨rfl,rfl⟩:=hr
  refine fin _ _ (Fh h hE hbs he (t:=t) (hget _).2.2 hlt (v:=.slice none 0 0) ?_ rfl rfl rfl (vam _) (.inl ⟨rfl,(hI.none w').1,rfl⟩))
  rcases hts with⟨rfl,_⟩|⟨rfl,hR⟩
  ·exact(hget _).1
  ·rw[(hget _).2.1,hR]
 | sliceE x cap =>
  have hl:l=[]:=by cases l with
   |nil=>rfl
   |cons x l=>simp at hes
  subst hl
  rw[Gd]at hpv
  cases hpv
  obtain⟨k,xs,⟨hx1,hx2⟩,hx3⟩:=hown
  rcases hx2 with⟨hx2,_⟩|⟨g',cap',cur,hx2,_,hheap,hkc,hcm,hcs,htake⟩
  ·cases hx2
  ·cases hx2
   rw[he,vb5]at hcs
   have hcall:=hI.row w g' cap cur [] hheap hcs (vaB _) hcm hla (by simp)
   refine hcall.mono fun r w' hr=>?_
   obtain⟨rfl,q1,q2,q3,q4,q5,q6,cur',q7,q8,q9⟩:=hr
   refine fin _ _ (Fh h hE hbs he (t:=t) (hget _).2.2 hlt (v:=.slice (some ⟨g',0,none⟩) (f []).length cap) ?_ q2 q3 q4 q5 (.inr ⟨g',cap,cur',rfl,hob g' rfl,q1,hcm,q6,q7,q8,q9⟩))
   rcases hts with⟨rfl,hfl⟩|⟨rfl,hR⟩
   ·rw[(hget _).1,hfl];rfl
   ·rw[(hget _).2.1,hR]
 | slice _ b off cap m sz vals hz0 hcap hg hm hszs hc hv =>
  rw[Gd]at hpv
  cases hpv
  obtain⟨k,xs,⟨hx1,hx2⟩,hx3⟩:=hown
  rcases hx2 with⟨hx2,_⟩|⟨g',cap',cur,hx2,_,hheap,hkc,hcm,hcs,htake⟩
  ·cases hx2
  ·cases hx2
   rw[he,vb5]at hcs htake
   have hlen:es.length=l.length:=by rw[<-hes];simp
   have hrow:cur.toList.take l.length=l.map fun s=>Value.string ⟨s.toArray⟩:=by
    refine vbf fun i=>?_
    by_cases hi:i<l.length
    ·rw[van hi]
     simp only[vaP,vay,vab hi,vaf]
     have hx:es[i]? =some (cS l[i]):=by rw[<-hes];simp[hi]
     have hs1:sz=1:=by have:=hszs i _ hx;simp[cS]at this;exact this.symm
     subst hs1
     have e1:=hc i _ 0 (.str l[i]) hx rfl
     have e2:=hv i _ 0 (.str l[i]) hx rfl
     rw[show 0+i * 1+0=i by omega,cell_of_row w b i cur e _ hheap]at e1
     rw[e1]
     generalize vals i 0=q at e2
     cases e2
     rfl
    ·rw[vaC (by simp;omega),vaC (by simp;omega)]
   have hcall:=hI.row w b cap cur l hheap hcs (by omega) hcm hla hrow
   rw[<-hlen]at hcall
   refine hcall.mono fun r w' hr=>?_
   obtain⟨rfl,q1,q2,q3,q4,q5,q6,cur',q7,q8,q9⟩:=hr
   refine fin _ _ (Fh h hE hbs he (t:=t) (hget _).2.2 hlt (v:=.slice (some ⟨b,0,none⟩) (f l).length cap) ?_ q2 q3 q4 q5 (.inr ⟨b,cap,cur',rfl,hob b rfl,q1,hcm,q6,q7,q8,q9⟩))
   rcases hts with⟨rfl,hfl⟩|⟨rfl,hR⟩
   ·rw[(hget _).1,hfl,hlen]
   ·rw[(hget _).2.1,hR]
section
variable{g:FuncId}{e:TypeId}{f:List ag->List ag}{R:Option Addr->Nat->Nat->Value}{id:Nat}{o1 o2 o3:Oper}{n t d1 d2 d3 ts:Nat}{l:List ag}{tys:Array TypeId}
theorem aL.inplace(hI:Ss P g e (fun s=>Value.string ⟨s.toArray⟩) f R)(he:P.cellsOf e=1)(hla:l.length<=dy)
  (h1:o1.op=.move (.tmp t)) (h1d:o1.dst=some d1) (h1g:o1.guard=none) (h2:o2.op=.call {callee:=.value (.func g),args:=#[.tmp d1],argTypes:=tys}) (h2d:o2.dst=some d2) (h2g:o2.guard=none)
  (hn:t<n/\d1<n/\d2<n/\t≠d1/\t≠d2/\d1≠d2) (hts:(ts=t/\(f l).length=l.length)\/(ts=d2/\∀x k c,R x k c=.slice x k c)):
  aL P GE 0 (.region id #[o1,o2] false) (EX .normal (fp n ts (f l) e)) (fp n t l e):=by
 intro ro E bs0 a w hE hb hR
 have hb0:bs0=[]:=vao hb
 subst hb0
 refine Ch (by simp[ee,h1,h2]) (by rintro⟨_,_,_,_,_,h,_⟩;cases h) ?_
 show wpOps P #[o1,o2] _ [0,1] a w
 refine Dt (ts:=ts) hI he hla rfl rfl h1 h1d h1g h2 h2d h2g hn hts hE hR fun a' w' hd hS=>?_
 obtain⟨Γ',ow',hS⟩:=hS
 exact⟨hd,_,⟨Γ',[],ow',hS,fun i hi=>absurd hi (vaM _)⟩,rfl,rfl⟩
theorem aL.inplace3(hI:Ss P g e (fun s=>Value.string ⟨s.toArray⟩) f R)(he:P.cellsOf e=1)(hla:l.length<=dy)
  (h1:o1.op=.move (.tmp t)) (h1d:o1.dst=some d1) (h1g:o1.guard=none) (h2:o2.op=.call {callee:=.value (.func g),args:=#[.tmp d1],argTypes:=tys}) (h2d:o2.dst=some d2) (h2g:o2.guard=none)
  (hn:t<n/\d1<n/\d2<n/\t≠d1/\t≠d2/\d1≠d2) (hR':∀x k c,R x k c=.slice x k c) (h3:o3.op=.assign (.tmp d2)) (h3d:o3.dst=some d3) (h3g:o3.guard=none) (hn3:d3<n) (hdd:d3≠d2):
  aL P GE 0 (.region id #[o1,o2,o3] false) (EX .normal (fp n d3 (f l) e)) (fp n t l e):=by
 intro ro E bs0 a w hE hb hR
 have hb0:bs0=[]:=vao hb
 subst hb0
 refine Ch (by simp[ee,h1,h2,h3]) (by rintro⟨_,_,_,_,_,h,_⟩;cases h) ?_
 show wpOps P #[o1,o2,o3] _ [0,1,2] a w
 refine Dt (ts:=d2) hI he hla rfl rfl h1 h1d h1g h2 h2d h2g hn (.inr ⟨rfl,hR'⟩) hE hR fun a' w' hd hS=>?_
 obtain⟨Γ',ow',hS⟩:=hS
 rw[wpOps_cons]
 unfold wpOp
 rw[show(#[o1,o2,o3]:Array Oper)[2]? =some o3 from rfl]
 simp only
 rw[vai (by simp[Region.wanted,h3g])]
 refine .inl ?_
 refine Oper.wp_mono (fun a2 w2 hA=>?_) (xK (id:=0) (bs:=[]) (K:=fun st=>re P 0 st (fp n d3 (f l) e)) hS (.inl h3) h3d (by simpa[fp]using hn3) ?_ _)
 ·obtain⟨hd2,Γ2,bs2,ow2,st2,hS2,hW,hbs2⟩:=hA
  have:bs2=[]:=by
   rcases hbs2 with rfl|⟨hm,_⟩
   ·rfl
   ·simp[h3,aD]at hm
  subst this
  have hrel:=hW E [] a2 w2 rfl ⟨Γ2,[],ow2,hS2,fun i hi=>absurd hi (vaM _)⟩
  exact⟨hd2.trans hd,_,hrel,rfl,rfl⟩
 ·have hg:(fp n d2 (f l) e).tmps.getD d2 .undef=sl cS (f l):=by
   simp[fp,vah,hn.2.2.1]
  rw[hg]
  refine re.trans (re.forget (fp n d3 (f l) e).tmps [] [((d3,0),e)] ?_) ?_
  ·intro x hx
   simp at hx
   subst hx
   simp[fp,gd,bU,Ne.symm hdd]
  ·have hfg:G6 ((fp n d2 (f l) e).tmps.set d3 (sl cS (f l))) (fp n d3 (f l) e).tmps=(fp n d3 (f l) e).tmps:=by
    refine SQ (by simp[fp]) fun i q hq=>?_
    rcases Jt hq with rfl|⟨rfl,rfl⟩
    ·exact .inl rfl
    ·exact .inr (by simp[fp,hn3])
   show re P 0 ⟨G6 ((fp n d2 (f l) e).tmps.set d3 (sl cS (f l))) (fp n d3 (f l) e).tmps,MX [] [],_⟩ _
   rw[hfg]
   exact .refl _
end
end
open Go Go.RowKit Go.WideShapes Go.ChangeShapes Go.ChangeAt
def zD(W:World):aV:=fun b=>match W.heap[b]? with
 |some (.cells c _ _)=>some c.size
 |_=>none
theorem Ll{W:World}{b:Nat}{c:Array Value}{t:TypeId}{fr:Nat×Nat}(h:W.heap[b]? =some (.cells c t fr)):zD W b=some c.size:=by unfold zD;rw[h]
def WL(W:World)(x:Nat×List PVal):Prop:=kI 0 x.2/\∃c t fr,W.heap[x.1]? =some (.cells c t fr)/\c.size=x.2.length/\∀(i:Nat) p v,x.2[i]? =some p->c[i]? =some v->VR (zD W) [] W p v
section
variable{P:Program}{GE:List (Nat×List PVal)}
theorem OZ{k:FuncId}{pargs:List PVal}{args:Array Value}{W:World}{b:Bool}(hC:C P GE k pargs [] [] (.bool b) [] [])(hl:args.size=pargs.length)
  (hv:∀(i:Nat) p v,pargs[i]? =some p->args[i]? =some v->VR (zD W) [] W p v) (hG:∀x∈GE,WL W x):Calls P k args W fun e W'=>e=.returned (.bool b)/\Below W.heap.size W W':=by
 have hS:SR P ⟨GE,zD W,W,bL [] fun _=>none⟩ (zD W) [] (fun _=>none) W args ⟨pargs,[],[]⟩:={
  wi:=fun b n hb=>by
   unfold zD at hb
   split at hb
   ·rename_i c t fr hh;cases hb;exact⟨c,t,fr,hh,vam _⟩
   ·cases hb
  sz:=hl
  tm:=hv
  bl:=rfl
  bx:=fun i b B hi=>by simp at hi
  inj:=fun i j b hi=>by simp at hi
  bn:=fun i b hi=>by simp at hi
  on:=fun b L hL=>by cases hL
  ot:=fun t k e he=>by simp at he
  ob:=fun i j e cs own b hB=>by simp at hB
  gl:=fun g cs hg=>by
   obtain⟨_,c,t,fr,h1,h2,h3⟩:=hG _ hg
   refine .eptr cs g 0 c.size (fun k=>c.getD k undef) (Ll h1) (by simp only at h2;omega) (fun k p hp=>?_) (fun k p hp=>?_)
   ·have hk:k<c.size:=by have:=ak hp;simp only at h2;omega
    rw[vaH,cell_of_row W g k c t fr h1]
    simp[vax,hk]
   ·have hk:k<c.size:=by have:=ak hp;simp only at h2;omega
    exact h3 k p _ hp (by simp[vax,hk])
  gc:=fun g cs hg=>(hG _ hg).1
  gx:=fun g cs hg=>by
   obtain⟨_,c,t,fr,h1,h2,_⟩:=hG _ hg
   refine⟨(vap.1 h1).1,fun hT=>?_,c,t,fr,h1,h2⟩
   rcases hT with⟨i,hi⟩|hT
   ·simp at hi
   ·exact hT rfl
  step:=.refl _ _ _ _}
 refine(hC.2 (zD W) [] (fun _=>none) W args hS).mono fun e W' he=>?_
 obtain⟨v,Γ',ow',rfl,hS'⟩:=he
 have hv':=hS'.tm 0 (.bool b) v rfl rfl
 cases hv'
 refine⟨rfl,hS'.step.os,hS'.step.tape,hS'.step.output,hS'.step.size,fun k hk=>(hS'.step.keep k hk fun hT=>?_).1⟩
 rcases hT with⟨i,hi⟩|hT
 ·simp at hi
 ·exact hT rfl
end
section
variable{H:Type}{enc:TypeId×Value->H}{P:Program}{w:World}{base:Nat}{spare:Nat->Bool}{held:Bool}{t:TypeId}{fuel:Nat}
theorem K7{f:Func}{s:ChangeSpec}{apart fresh handsOn again:Bool}{W W':World}{args:Array Value}{v:Value}{ds gs:List (DataW H)}{before pa pv:List MemPlace}
    (hW:DataW.Whole enc P f.params.toList s.vars apart W args.toList ds gs before)
    (hres:∀(b:Nat) (sp:Nat->Bool) (hd:Bool),DataW.TrodAll enc P W' b sp hd f.resultTypes.toList (v.resultList f.resultTypes.size) (s.fn H (ds++gs)).results [])
    (hargs:∀sp:Nat->Bool,(∀p∈before,sp p.block=true)->DataW.TrodAll enc P W' 0 sp true f.params.toList args.toList (s.fn H (ds++gs)).args pa)
    (hvars:∀sp:Nat->Bool,(∀p∈before,sp p.block=true)->DataW.TrodVars enc P W' sp s.vars (s.fn H (ds++gs)).vars pv)
    (hps:before=pa++pv) (hb:Below W.heap.size W W')
    (hok:∀(j:Nat) (t:TypeId) (r:Value),f.resultTypes[j]? =some t->(v.resultList f.resultTypes.size)[j]? =some r->Value.okWide P W' .any 0 t r):
    s.post enc P f apart fresh handsOn again W args v W':=by
  have hlt:∀p∈before,p.block<W.heap.size:=fun p hp=>hW.lt p hp
  have hold:∀p∈before,(fun b=>decide (b<W.heap.size)) p.block=true:=fun p hp=>by simpa using hlt p hp
  refine⟨ds,gs,before,[],pa,pv,hW,hres _ _ _,hargs _ hold,hvars _ hold,World.keptBut_mono (fun p hp=>⟨hp,?_⟩) (hb.frame (·∈before)),fun _=>?_⟩
  · rw [hps,vaF] at hp
    exact Or.inr hp
  · obtain ⟨_,_,_,_,_,hz,hn⟩:=hW
    refine⟨hok,_,_,([]++pa)++pv,⟨[]++pa,pv,trodAll_append (hargs _ (fun _ _=>rfl)) (hres _ _ _),hvars _ (fun _ _=>rfl),rfl,?_,?_⟩,?_⟩
    · intro b off hp
      have hin:MemPlace.cell b off∈before:=by rw[hps];simpa using hp
      rw[hb.frozen (hlt _ hin)]
      exact hz b off hin
    · intro ha
      have:=hn ha
      rw[hps]at this
      simpa using this
    · intro p hp _
      rw[hps]
      simpa using hp
theorem Lo(hl:laidOutB P=true){W W':World}(hb:Below W.heap.size W W'){sp:Nat->Bool}:∀{ts:List TypeId} {vs:List Value} {ds:List (DataW H)} {ps:List MemPlace},(∀t∈ts,P.readableRec t=true/\t<P.types.size)->
  DataW.TrodAll enc P W 0 (fun _=>true) true ts vs ds ps->(∀p∈ps,p.block<W.heap.size)->(∀p∈ps,sp p.block=true)->DataW.TrodAll enc P W' 0 sp true ts vs ds ps
 |[],[],[],_,_,h,_,_=>h
 | t :: _,_ :: _,_ :: _,_,ht,⟨p,q,h1,h2,e⟩,hlt,hs =>
  ⟨p,q,WideElems.Trod_stays hl (ht t (by simp)).1 (ht t (by simp)).2 h1 (fun x hx=>hb.same (hlt x (by rw[e];exact va7 _ hx))) (fun x hx=>hs x (by rw[e];exact va7 _ hx)),
   Lo hl hb (fun t ht'=>ht t (by simp[ht'])) h2 (fun x hx=>hlt x (by rw[e];exact vbd _ hx)) (fun x hx=>hs x (by rw[e];exact vbd _ hx)),e⟩
theorem S8{f:Func}{s:ChangeSpec}{W W':World}{args:Array Value}{ds gs:List (DataW H)}{before:List MemPlace}(hl:laidOutB P=true)(hr:f.resultTypes=#[t])(hbt:P.underlying t=some .bool)(hsv:s.vars=[])
  (hfn:(s.fn H (ds++gs)).results=[.lit (.bool true)]/\(s.fn H (ds++gs)).args=ds/\(s.fn H (ds++gs)).vars=[]) (hts:∀t∈f.params.toList,P.readableRec t=true/\t<P.types.size)
  (hW:DataW.Whole enc P f.params.toList s.vars false W args.toList ds gs before) (hb:Below W.heap.size W W'):s.post enc P f false true false false W args (.bool true) W':=by
 have hW':=hW
 obtain⟨p,q,hA,hV,rfl,_,_⟩:=hW
 rw[hsv]at hV
 obtain⟨rfl,rfl⟩:=trodVars_none hV
 have hlt:∀x∈p,x.block<W.heap.size:=fun x hx=>hW'.lt x (by simpa using hx)
 refine K7 (pa:=p) (pv:=[]) hW' (fun b sp hd=>?_) (fun sp hs=>?_) (fun sp _=>?_) rfl hb (fun j t' r hj hv=>?_)
 ·rw[hr,hfn.1]
  exact trodAll_cons_mk (shut_bool hbt _) trodAll_mk0
 ·rw[hfn.2.1]
  exact Lo hl hb hts hA hlt (fun x hx=>hs x (by simpa using hx))
 ·rw[hsv,hfn.2.2];rfl
 ·exact ok_one hr rfl (okWide_bool_mk hbt _) j t' r hj hv
theorem NT(a:Addr)(i:Nat)(h:a.spot=none):a.add i=⟨a.block,a.off+i,none⟩:=by
 obtain⟨b,o,sp⟩:=a
 simp only at h
 subst h
 unfold Addr.add
 split
 ·rename_i hi;subst hi;rfl
 ·rfl
end
section
variable{P:Program}{W:World}
theorem Jf:∀{laid:List (String×DataW Unit)} {ps:List MemPlace} {name:String} {d:DataW Unit},DataW.LaidVars P W laid ps->(name,d)∈laid->
  ∃g t cs fuel p,P.globalNamed name=some g/\(P.globals[g]?).map (·.type)=some t/\W.var? P name=some cs/\DataW.trod (fun _=>()) P W 0 (fun _=>true) false fuel t cs.toList=some (d,p)
 |[],_,_,_,_,hm=>by cases hm
 |(n,d')::r,ps,name,d,⟨g,t,cs,fuel,p,q,h1,h2,h3,h4,h5,_⟩,hm=>by
  cases hm with
  |head=>exact⟨g,t,cs,fuel,p,h1,h2,h3,h4⟩
  |tail _ hm=>exact Jf h5 hm
theorem O2{name:String}{g:Nat}{cs:Array Value}(hg:P.globalNamed name=some g)(h:W.var? P name=some cs):∃t fr,W.heap[g]? =some (.cells cs t fr):=by
 unfold World.var? at h
 rw[hg]at h
 simp only[vaa]at h
 split at h
 ·rename_i c t fr hh
  cases h
  exact⟨t,fr,hh⟩
 ·cases h
def Nt{H:Type}(l:List ag):DataW H:=.agg (l.map fun s=>.lit (.string s))
theorem KW{H:Type}{enc:TypeId×Value->H}{base:Nat}{sp:Nat->Bool}{held:Bool}{fuel:Nat}{t e:TypeId}{n:Nat}{cs:List Value}{zs:List ag}{p:List MemPlace}
  (ht:P.underlying t=some (.array n e)) (he:P.underlying e=some .string) (hce:P.cellsOf e=1) (hct:P.cellsOf t=n)
  (h:DataW.trod enc P W base sp held fuel t cs=some (Nt zs,p)):cs=zs.map fun z=>Value.string ⟨z.toArray⟩:=by
 cases fuel with
 |zero=>simp[DataW.trod]at h
 | succ fuel =>
  simp only[DataW.trod,ht,hce,hct,vb5]at h
  split at h
  ·rename_i hl
   obtain⟨xs,hm,hx⟩:=vaJ.1 h
   have hxs:xs.map (·.1)=zs.map fun z=>(DataW.lit (.string z):DataW H):=by
    have:=vbt Prod.fst hx
    simpa[Nt]using this
   have hxl:xs.length=n:=by simpa using Lib.mapM_length hm
   have hzl:zs.length=n:=by
    have:=vbt List.length hxs
    simp at this
    omega
   apply vbf
   intro i
   by_cases hi:i<n
   ·obtain⟨b,hb,hf⟩:=Lib.mapM_at hm i i (by simp[hi])
    obtain⟨z,hc,rfl,_⟩:=DataW.trod_string he hf
    have h1:cs[i]? =some (.string z):=by
     have:=vbt (·[0]?) hc
     simpa[List.getElem?_take,va8]using this
    have h2:(xs.map (·.1))[i]? =some (DataW.lit (.string z.data.toList):DataW H):=by simp[hb]
    rw[hxs]at h2
    simp only[vay,vaJ,DataW.lit.injEq,Lit.string.injEq]at h2
    obtain⟨z',hz',h3⟩:=h2
    simp only[h1,vay,hz',vaf,h3]
   ·rw[vaC (by omega),vaC (by simp;omega)]
  ·cases h
theorem SW{x:Nat}{pv:List PVal}{cs:Array Value}{t:TypeId}{fr:Nat×Nat}(hh:W.heap[x]? =some (.cells cs t fr))(hcl:kI 0 pv)(hs:cs.size=pv.length)(hv:∀(i:Nat) p v,pv[i]? =some p->cs[i]? =some v->VR (zD W) [] W p v):WL W (x,pv):=
 ⟨hcl,cs,t,fr,hh,hs,hv⟩
theorem I3{laid:List (String×DataW Unit)}{name:String}{d:DataW Unit}{g:Nat}{t e:TypeId}{n:Nat}{k:IntKind}{zs:List Int}(hL:laidMet P laid W)(hm:(name,d)∈laid)(hd:d=Lib.tabData k zs)
  (hg:P.globalNamed name=some g) (hty:(P.globals[g]?).map (·.type)=some t) (ht:P.underlying t=some (.array n e)) (he:P.underlying e=some (.int k)) (hce:P.cellsOf e=1) (hct:P.cellsOf t=n):WL W (g,zs.map (PVal.int k)):=by
 obtain⟨ps,hV,_⟩:=hL
 obtain⟨g',t',cs,fuel,p,h1,h2,h3,h4⟩:=Jf hV hm
 obtain rfl:=vbn (hg.symm.trans h1)
 obtain rfl:=vbn (hty.symm.trans h2)
 subst hd
 have hc:=Lib.cells_of_tab ht he hce hct h4
 obtain⟨ty,fr,hh⟩:=O2 hg h3
 refine SW hh (Py fun q hq=>?_) (by simpa using vbt List.length hc) (fun i q v hq hv=>?_)
 ·obtain⟨z,_,rfl⟩:=vas.1 hq
  simp[PVal.cl]
 ·rw[<-vaP,hc]at hv
  simp only[vay,vaJ]at hq hv
  obtain⟨z,hz,rfl⟩:=hq
  obtain⟨z',hz',rfl⟩:=hv
  cases hz.symm.trans hz'
  exact .int _ _
theorem SX{laid:List (String×DataW Unit)}{name:String}{d:DataW Unit}{g:Nat}{t e:TypeId}{n:Nat}{zs:List ag}(hL:laidMet P laid W)(hm:(name,d)∈laid)(hd:d=Nt zs)
  (hg:P.globalNamed name=some g) (hty:(P.globals[g]?).map (·.type)=some t) (ht:P.underlying t=some (.array n e)) (he:P.underlying e=some .string) (hce:P.cellsOf e=1) (hct:P.cellsOf t=n):WL W (g,zs.map PVal.str):=by
 obtain⟨ps,hV,_⟩:=hL
 obtain⟨g',t',cs,fuel,p,h1,h2,h3,h4⟩:=Jf hV hm
 obtain rfl:=vbn (hg.symm.trans h1)
 obtain rfl:=vbn (hty.symm.trans h2)
 subst hd
 have hc:=KW ht he hce hct h4
 obtain⟨ty,fr,hh⟩:=O2 hg h3
 refine SW hh (Py fun q hq=>?_) (by simpa using vbt List.length hc) (fun i q v hq hv=>?_)
 ·obtain⟨z,_,rfl⟩:=vas.1 hq
  simp[PVal.cl]
 ·rw[<-vaP,hc]at hv
  simp only[vay,vaJ]at hq hv
  obtain⟨z,hz,rfl⟩:=hq
  obtain⟨z',hz',rfl⟩:=hv
  cases hz.symm.trans hz'
  exact .str _
end
def Xv(w:World)(l:List (Nat×Array Value)):World:={w with heap:=l.foldl (fun h x=>h.modify x.1 fun|.cells _ t fr=>.cells x.2 t fr|o=>o) w.heap}
def qaV:PVal->Value
 |.int k n=>.int k n
 |.str s=>.string ⟨s.toArray⟩
 |.bool b=>.bool b
 |_=>undef
def V6(l:List (Nat×List PVal)):List (Nat×Array Value):=l.map fun x=>(x.1,(x.2.map qaV).toArray)
set_option linter.unusedVariables false
mutual
def pm:PVal->Nat
 |.str s=>s.length+1
 |.slice es=>rq es+1
 |.int _ _=>1
 |.bool _=>1
 |_=>0
def Er:List PVal->Nat
 |[]=>0
 |p::l=>pm p+Er l
def rq:List (List PVal)->Nat
 |[]=>0
 |x::r=>Er x+rq r
end
theorem JB:∀(a b:List PVal),Er (a++b)=Er a+Er b
 |[],b=>by simp[Er]
 |p::a,b=>by simp only[vbk,Er,JB a b];omega
def Yi(P:Program)(S:TypeId->List PVal->Prop):List Field->List PVal->Prop
 |[],l=>l=[]
 |f::fs,l=>∃a b,l=a++b/\a.length=P.cellsOf f.type/\S f.type a/\Yi P S fs b
def Sh(P:Program):Nat->TypeId->List PVal->Prop
 |0,_,_=>False
 |n+1,t,l=>match P.underlying t with
  |some .bool=>∃b,l=[.bool b]
  |some (.int k)=>∃i,l=[.int k i]/\(Lit.int k i).wf=true
  |some .string=>∃s:ag,l=[.str s]/\s.length<=maxLen
  |some (.slice e)=>∃es,l=[.slice es]/\es.length<=maxLen/\∀x∈es,Sh P n e x
  |some (.struct fs)=>Yi P (Sh P n) fs.toList l
  |_=>True
def Av(P:Program):Nat->List Field->Nat->Bool
 |o,[],n=>decide (o=n)
 |o,f::fs,n=>decide (f.offset=o)&&Av P (o+P.cellsOf f.type) fs n
theorem QG{α:Type}{Q:Nat->α->Prop}:∀{n:Nat},(∀i,i<n->∃x,Q i x)->∃l:List α,l.length=n/\∀(i:Nat) x,l[i]? =some x->Q i x
 |0,_=>⟨[],rfl,fun i x h=>by simp at h⟩
 | n + 1,h => by
  obtain⟨l,hl,hq⟩:=QG (n:=n) fun i hi=>h i (by omega)
  obtain⟨x,hx⟩:=h n (by omega)
  refine⟨l++[x],by simp[hl],fun i y hy=>?_⟩
  by_cases hi:i<l.length
  ·rw[vac hi]at hy;exact hq i y hy
  ·have hlt:=ak hy
   simp at hlt
   have:i=l.length:=by omega
   subst this
   rw[vae (vam _)]at hy
   simp at hy;subst hy;rw[hl];exact hx
theorem Qp{H:Type}:∀{es:List (List PVal)} {ds:List (DataW H)},es.length=ds.length->(∀(i:Nat) x d,es[i]? =some x->ds[i]? =some d->Er x<=Rows.uptoBulk d)->rq es<=Rows.uptoBulkAll ds
 |[],[],_,_=>by simp[rq,Rows.uptoBulkAll]
 |x::es,d::ds,hl,h=>by
  have h1:=h 0 x d rfl rfl
  have h2:=Qp (es:=es) (ds:=ds) (by simpa using hl) fun i x d hx hd=>h (i+1) x d (by simpa using hx) (by simpa using hd)
  simp only[rq,Rows.uptoBulkAll];omega
section
variable{H:Type}{enc:TypeId×Value->H}{P:Program}{W:World}{base:Nat}{sp:Nat->Bool}{held:Bool}
def WM(P:Program)(W:World)(n:Nat)(t:TypeId)(cs:List Value)(b:Nat):Prop:=
 ∃l:List PVal,l.length=cs.length/\(∀(i:Nat) p v,l[i]? =some p->cs[i]? =some v->VR (zD W) [] W p v)/\Sh P n t l/\Er l<=b
theorem WM.one{n:Nat}{t:TypeId}{p:PVal}{v:Value}{b:Nat}(h:VR (zD W) [] W p v)(hs:Sh P n t [p])(hb:pm p<=b):WM P W n t [v] b:=
 ⟨[p],rfl,fun i q u hq hu=>by
  cases i with
  |zero=>simp at hq hu;subst hq;subst hu;exact h
  |succ i=>simp at hq,hs,by simp only[Er];omega⟩
theorem LE{L:List TypeId}{fuel:Nat}(ih:∀(t:TypeId),t∈L->∀(cs:List Value) (d:DataW H) (p:List MemPlace),DataW.trod enc P W base sp held fuel t cs=some (d,p)->WM P W fuel t cs (Rows.uptoBulk d)){cs:List Value}:∀{fs:List Field} {o n:Nat} {xs:List (DataW H×List MemPlace)},(∀f∈fs,f.type∈L)->n<=cs.length->Av P o fs n=true->fs.mapM (fun f=>DataW.trod enc P W base sp held fuel f.type ((cs.drop f.offset).take (P.cellsOf f.type)))=some xs->
   o<=n/\∃l:List PVal,l.length=n - o/\(∀(i:Nat) p v,l[i]? =some p->cs[o+i]? =some v->VR (zD W) [] W p v)/\Yi P (Sh P fuel) fs l/\Er l<=Rows.uptoBulkAll (xs.map (·.1))
 |[],o,n,xs,_,hn,hc,h=>by
  unfold Av at hc
  have:o=n:=by simpa using hc
  subst this
  exact⟨vam _,[],by simp,fun i p v hp=>by simp at hp,rfl,by simp[Er]⟩
 | f :: fs,o,n,xs,hL,hn,hc,h => by
  unfold Av at hc
  simp only[vad,vak]at hc
  obtain⟨hfo,hc⟩:=hc
  simp only[vbS,Option.bind_eq_bind,vbh,Option.pure_def,var]at h
  obtain⟨⟨d,p⟩,hd,xs',hxs,rfl⟩:=h
  obtain⟨ho,l2,k1,k2,k3,k4⟩:=LE ih (fun g hg=>hL g (vaS _ hg)) hn hc hxs
  obtain⟨l1,q1,q2,q3,q4⟩:=ih _ (hL f (by simp)) _ _ _ hd
  have hl1:l1.length=P.cellsOf f.type:=by rw[q1,vaZ,vbJ,hfo];omega
  refine⟨by omega,l1++l2,by simp[hl1,k1];omega,fun i q v hq hv=>?_,⟨l1,l2,rfl,hl1,q3,k3⟩,by rw[JB];simp only[vaW,Rows.uptoBulkAll];omega⟩
  by_cases hi:i<l1.length
  ·rw[vac hi]at hq
   refine q2 i q v hq ?_
   rw[van (by omega),va8,hfo]
   exact hv
  ·rw[vae (by omega)]at hq
   refine k2 (i - l1.length) q v hq ?_
   rw[<-hv,hl1]
   congr 1
   rw[hl1]at hi
   omega
theorem UO{fuel:Nat}{t:TypeId}{cs:List Value}{x:DataW H×List MemPlace}(ht:P.underlying t=some .bool)(h:DataW.trod enc P W base sp held (fuel+1) t cs=some x):∃b,cs=[.bool b]/\x.1=.lit (.bool b):=by
 unfold DataW.trod at h
 rw[ht]at h
 split at h<;>simp_all
 exact h▸rfl
theorem V8{fuel:Nat}{t:TypeId}{cs:List Value}{k:IntKind}{x:DataW H×List MemPlace}(ht:P.underlying t=some (.int k))(h:DataW.trod enc P W base sp held (fuel+1) t cs=some x):∃n,cs=[.int k n]/\(Lit.int k n).wf=true/\x.1=.lit (.int k n):=by
 unfold DataW.trod at h
 rw[ht]at h
 cases cs with
 |nil=>simp at h
 | cons v r =>
  cases r with
  |cons _ _=>simp at h
  |nil=>
   cases v<;>simp at h
   obtain⟨⟨rfl,h1⟩,rfl⟩:=h
   exact⟨_,rfl,h1,rfl⟩
theorem Sd{fuel:Nat}{t:TypeId}{cs:List Value}{x:DataW H×List MemPlace}(ht:P.underlying t=some .string)(h:DataW.trod enc P W base sp held (fuel+1) t cs=some x):∃s:ByteArray,cs=[.string s]/\s.size<=maxLen/\x.1=.lit (.string s.data.toList):=by
 unfold DataW.trod at h
 rw[ht]at h
 split at h<;>simp_all
 exact h.2▸rfl
theorem TL{fuel:Nat}{t e:TypeId}{cs:List Value}{x:DataW H×List MemPlace}(ht:P.underlying t=some (.slice e))(h:DataW.trod enc P W base sp held (fuel+1) t cs=some x):(cs=[.slice none 0 0]/\x.1=.nil)\/∃a len cap elems rest,cs=[.slice (some a) len cap]/\len<=cap/\cap<=maxLen/\x.1=.slice (elems.map (·.1)) rest/\
   (List.range len).mapM (fun i=>(W.cells? base (a.add (i * P.cellsOf e)) (P.cellsOf e)).bind (DataW.trod enc P W base sp held fuel e))=some elems:=by
 unfold DataW.trod at h
 rw[ht]at h
 cases cs with
 |nil=>simp at h
 | cons v r =>
  cases r with
  |cons _ _=>simp at h
  | nil =>
   cases v<;>try (simp at h;done)
   rename_i ad len cap
   cases ad with
   |none=>
    left
    match len,cap,h with
    |0,0,h=>simp at h;exact⟨rfl,h▸rfl⟩
    |0,c+1,h=>simp at h
    |n+1,c,h=>simp at h
   | some a =>
    right
    simp only at h
    split at h
    ·rename_i hc
     obtain⟨elems,h1,h2⟩:=vbh.1 h
     obtain⟨rest,h3,h4⟩:=vaJ.1 h2
     exact⟨a,len,cap,elems,rest.map (·.1),rfl,hc.2.1,hc.2.2,by rw[<-h4],h1⟩
    ·cases h
theorem Se{fuel:Nat}{t:TypeId}{cs:List Value}{fs:Array Field}{x:DataW H×List MemPlace}(ht:P.underlying t=some (.struct fs))(h:DataW.trod enc P W base sp held (fuel+1) t cs=some x):cs.length=P.cellsOf t/\∃xs,fs.toList.mapM (fun f=>DataW.trod enc P W base sp held fuel f.type ((cs.drop f.offset).take (P.cellsOf f.type)))=some xs/\x.1=.agg (xs.map (·.1)):=by
 unfold DataW.trod at h
 rw[ht]at h
 simp only at h
 split at h
 ·rename_i hl
  obtain⟨xs,h1,h2⟩:=vaJ.1 h
  exact⟨hl,xs,h1,by rw[<-h2]⟩
 ·cases h
theorem NU(a:Addr):a.add 0=a:=by unfold Addr.add;simp
theorem R9{w:World}{a:Addr}{v:Value}(h:w.cell? a=some v):a.spot=none:=by
 unfold World.cell? at h
 split at h
 ·split at h
  ·cases h
  ·rename_i hs;simpa using hs
 ·cases h
structure T0(P:Program)(L:List TypeId):Prop where
 st:∀t∈L,∀fs,P.underlying t=some (.struct fs)->Av P 0 fs.toList (P.cellsOf t)=true/\∀f∈fs.toList,f.type∈L
 sl:∀t∈L,∀e,P.underlying t=some (.slice e)->0<P.cellsOf e/\e∈L
def ST(P:Program)(L:List TypeId)(t:TypeId):Bool:=match P.underlying t with
 |some (.struct fs)=>Av P 0 fs.toList (P.cellsOf t)&&fs.toList.all fun f=>L.contains f.type
 |some (.slice e)=>decide (0<P.cellsOf e)&&L.contains e
 |_=>true
theorem Us{L:List TypeId}(h:L.all (ST P L)=true):T0 P L:=by
 refine⟨fun t ht fs hu=>?_,fun t ht e hu=>?_⟩
 ·have:=vat.1 h t ht
  unfold ST at this
  rw[hu]at this
  simp only[vad,vat,List.contains_iff_mem]at this
  exact this
 ·have:=vat.1 h t ht
  unfold ST at this
  rw[hu]at this
  simpa using this
theorem SZ{L:List TypeId}(hF:T0 P L):∀(fuel:Nat) (t:TypeId),t∈L->∀(cs:List Value) (d:DataW H) (p:List MemPlace),DataW.trod enc P W base sp held fuel t cs=some (d,p)->WM P W fuel t cs (Rows.uptoBulk d)
 |0,t,_,cs,d,p,h=>by simp[DataW.trod]at h
 | fuel + 1,t,htL,cs,d,p,h => by
  have ih:=SZ hF fuel
  have other:(∀l,Sh P (fuel+1) t l)->WM P W (fuel+1) t cs (Rows.uptoBulk d):=fun hs=>by
   refine⟨cs.map .val,by simp,fun i q v hq hv=>?_,hs _,?_⟩
   ·simp only[vay,hv,vaf,var]at hq
    subst hq;exact .val v
   ·have:∀cs:List Value,Er (cs.map .val)=0:=by
     intro cs
     induction cs with
     |nil=>rfl
     |cons c cs ih=>simp only[vaW,Er,ih,pm]
    rw[this];exact vaB _
  cases hu:P.underlying t with
  |none=>exact other fun l=>by unfold Sh;rw[hu];trivial
  | some u =>
   cases u with
   |bool=>
    obtain⟨b,rfl,hx⟩:=UO hu h
    simp only at hx;subst hx
    exact .one (.bool b) (by unfold Sh;rw[hu];exact⟨b,rfl⟩) (by simp[pm,Rows.uptoBulk])
   |int k=>
    obtain⟨n,rfl,hw,hx⟩:=V8 hu h
    simp only at hx;subst hx
    exact .one (.int k n) (by unfold Sh;rw[hu];exact⟨n,rfl,hw⟩) (by simp[pm,Rows.uptoBulk])
   |string=>
    obtain⟨s,rfl,hl,hx⟩:=Sd hu h
    simp only at hx;subst hx
    exact .one (.str s.data.toList) (by unfold Sh;rw[hu];exact⟨s.data.toList,rfl,by rw[Array.length_toList];exact hl⟩) (by simp[pm,Rows.uptoBulk])
   |struct fs=>
    obtain⟨hl,xs,hxs,hx⟩:=Se hu h
    simp only at hx;subst hx
    obtain⟨_,l,k1,k2,k3,k4⟩:=LE ih (hF.st t htL fs hu).2 (by omega) (hF.st t htL fs hu).1 hxs
    refine⟨l,by omega,fun i q v hq hv=>k2 i q v hq (by rw[vaH];exact hv),by unfold Sh;rw[hu];exact k3,by simp only[Rows.uptoBulk];omega⟩
   | slice e =>
    obtain⟨hz,heL⟩:=hF.sl t htL e hu
    rcases TL hu h with⟨rfl,hx⟩|⟨a,len,cap,elems,rest,rfl,hlc,hcm,hx,hm⟩
    ·simp only at hx;subst hx
     exact .one .sliceNil (by unfold Sh;rw[hu];exact⟨[],rfl,by simp,by simp⟩) (by simp[pm,rq,Rows.uptoBulk])
    simp only at hx;subst hx
    have hel:elems.length=len:=by simpa using Lib.mapM_length hm
    have hat:∀i,i<len->∃x:List PVal,∃ci y,elems[i]? =some y/\W.cells? base (a.add (i * P.cellsOf e)) (P.cellsOf e)=some ci/\x.length=ci.length/\(∀(k:Nat) q v,x[k]? =some q->ci[k]? =some v->VR (zD W) [] W q v)/\Sh P fuel e x/\Er x<=Rows.uptoBulk y.1:=fun i hi=>by
     obtain⟨y,hy,hb⟩:=Lib.mapM_at hm i i (by simp[hi])
     obtain⟨ci,hci,hd⟩:=vbh.1 hb
     obtain⟨x,k1,k2,k3,k4⟩:=ih e heL ci y.1 y.2 hd
     exact⟨x,ci,y,hy,hci,k1,k2,k3,k4⟩
    obtain⟨es,hes,hq⟩:=QG hat
    have hbulk:rq es<=Rows.uptoBulkAll (elems.map (·.1)):=Qp (by simp[hes,hel]) fun i x d hx hd=>by
     obtain⟨ci,y,hy,_,_,_,_,hle⟩:=hq i x hx
     simp only[vay,hy,vaf,var]at hd
     subst hd;exact hle
    have hsh:Sh P (fuel+1) t [.slice es]:=by
     unfold Sh;rw[hu]
     refine⟨es,rfl,by omega,fun x hx=>?_⟩
     obtain⟨i,hi⟩:=vbg.1 hx
     obtain⟨_,_,_,_,_,_,hs,_⟩:=hq i x hi
     exact hs
    refine .one ?_ hsh (by simp only[pm,Rows.uptoBulk];omega)
    by_cases h0:len=0
    ·subst h0
     obtain rfl:es=[]:=vao hes
     exact .sliceE a cap
    ·have hcell:∀i,i<len->∀k,k<P.cellsOf e->∃(x:List PVal) (ci:List Value),es[i]? =some x/\W.cell? ((a.add (i * P.cellsOf e)).add k)=ci[k]?/\ci.length=P.cellsOf e/\x.length=ci.length/\(∀(k:Nat) q v,x[k]? =some q->ci[k]? =some v->VR (zD W) [] W q v):=fun i hi k hk=>by
      have hx:es[i]? =some es[i]:=vab (by omega)
      obtain⟨ci,y,hy,hc,hl,hv,_,_⟩:=hq i _ hx
      obtain⟨_,hcl,hcc⟩:=World.cells?_some hc
      exact⟨_,ci,hx,hcc k hk,hcl,hl,hv⟩
     have hspot:a.spot=none:=by
      obtain⟨x,ci,_,h2,h3,_,_⟩:=hcell 0 (by omega) 0 hz
      rw[vcr,NU,NU,vab (by omega)]at h2
      exact R9 h2
     obtain⟨ab,ao,asp⟩:=a
     simp only at hspot;subst hspot
     have hadd:∀i k,((⟨ab,ao,none⟩:Addr).add (i * P.cellsOf e)).add k=⟨ab,ao+i * P.cellsOf e+k,none⟩:=fun i k=>by
      rw[NT ⟨ab,ao,none⟩ _ rfl,NT _ _ rfl]
     have hcl:∀(i:Nat) x (k:Nat) q,es[i]? =some x->x[k]? =some q->∃v,W.cell? ⟨ab,ao+i * P.cellsOf e+k,none⟩=some v/\VR (zD W) [] W q v:=fun i x k q hx hqk=>by
      have hi:i<len:=by have:=ak hx;omega
      obtain⟨ci,y,hy,hc,hl,hv,_,_⟩:=hq i x hx
      obtain⟨_,hcl,hcc⟩:=World.cells?_some hc
      have hk:k<P.cellsOf e:=by have:=ak hqk;omega
      have hck:ci[k]? =some ci[k]:=vab (by omega)
      refine⟨ci[k],?_,hv k q _ hqk hck⟩
      rw[<-hadd,hcc k hk,hck]
     have hlen:∀(i:Nat) x,es[i]? =some x->x.length=P.cellsOf e:=fun i x hx=>by
      obtain⟨ci,y,hy,hc,hl,_,_,_⟩:=hq i x hx
      exact hl.trans (World.cells?_some hc).2.1
     obtain⟨c,ty,fr,hh⟩:∃c ty fr,W.heap[ab]? =some (.cells c ty fr):=by
      obtain⟨x,ci,h1,h2,h3,h4,_⟩:=hcell 0 (by omega) 0 hz
      rw[hadd,vab (by omega)]at h2
      unfold World.cell? at h2
      split at h2
      ·rename_i c ty fr hh;exact⟨c,ty,fr,hh⟩
      ·cases h2
     have hin:ao+es.length * P.cellsOf e<=c.size:=by
      obtain⟨x,ci,h1,h2,h3,h4,_⟩:=hcell (len - 1) (by omega) (P.cellsOf e - 1) (by omega)
      rw[hadd,vab (by omega),cell_of_row W _ _ c ty fr hh]at h2
      have:=(vap.1 h2).1
      have e1:(len - 1) * P.cellsOf e+P.cellsOf e=len * P.cellsOf e:=by
       have:len=(len - 1)+1:=by omega
       conv=>rhs;rw[this,vbb,vbE]
      rw[hes];omega
     have:=VR.slice (Γ:=zD W) (bs:=[]) (w:=W) es ab ao cap c.size (P.cellsOf e) (fun i k=>(W.cell? ⟨ab,ao+i * P.cellsOf e+k,none⟩).getD undef) hz (by omega) (Ll hh) hin hlen
      (fun i x k q hx hqk=>by obtain⟨v,h1,_⟩:=hcl i x k q hx hqk;rw[h1];rfl)
      (fun i x k q hx hqk=>by obtain⟨v,h1,h2⟩:=hcl i x k q hx hqk;rw[h1];exact h2)
     rw[hes]at this
     exact this
   |_=>exact other fun l=>by unfold Sh;rw[hu];trivial
end
end Go.Proofs.YtggeppllafbidaaGreatDoor
namespace Go.Proofs.YtggeppllafbidaaGreatDoor
open Go
set_option linter.unusedVariables false
abbrev In(P:Program)(t:TypeId){α:Type}(c:α->List PVal):Prop:=∀n l,Sh P n t l->∃x,l=c x
section
variable{P:Program}{t e:TypeId}{α:Type}{c:α->List PVal}
theorem VU{k:IntKind}(hu:P.underlying t=some (.int k)):In P t (cI k):=fun n l h=>by
 cases n with
 |zero=>exact h.elim
 |succ n=>
  unfold Sh at h
  rw[hu]at h
  obtain⟨i,rfl,_⟩:=h
  exact⟨i,rfl⟩
theorem VV(hu:P.underlying t=some .string):In P t cS:=fun n l h=>by
 cases n with
 |zero=>exact h.elim
 |succ n=>
  unfold Sh at h
  rw[hu]at h
  obtain⟨i,rfl,_⟩:=h
  exact⟨i,rfl⟩
theorem Ou:∀{es:List (List PVal)},(∀x∈es,∃y,x=c y)->∃ys:List α,es=ys.map c
 |[],_=>⟨[],rfl⟩
 |x::es,h=>by
  obtain⟨y,rfl⟩:=h x (by simp)
  obtain⟨ys,rfl⟩:=Ou fun z hz=>h z (vaS _ hz)
  exact⟨y::ys,rfl⟩
theorem S0(hu:P.underlying t=some (.slice e)){n:Nat}(hE:∀m,m<n->∀l,Sh P m e l->∃x,l=c x)(l:List PVal)(h:Sh P n t l):∃xs,l=cL c xs:=by
 cases n with
 |zero=>exact h.elim
 |succ n=>
  unfold Sh at h
  rw[hu]at h
  obtain⟨es,rfl,_,h⟩:=h
  obtain⟨ys,rfl⟩:=Ou fun x hx=>hE n (vcM n) x (h x hx)
  exact⟨ys,rfl⟩
theorem Xt(hu:P.underlying t=some (.slice e))(hE:In P e c):In P t (cL c):=fun n l h=>S0 hu (fun m _=>hE m) l h
theorem OG:∀(es:List (List PVal)),(∀x∈es,1<=Er x)->es.length<=rq es
 |[],_=>by simp[rq]
 |x::es,h=>by
  have h1:=h x (by simp)
  have h2:=OG es fun y hy=>h y (vaS _ hy)
  simp only[rq,vaV];omega
theorem OH:∀{es:List (List PVal)} {x:List PVal},x∈es->Er x<=rq es
 | y :: es,x,h => by
  simp only[rq]
  rcases vaE.1 h with rfl|h
  ·omega
  ·have:=OH h;omega
end
section
variable{H:Type}{enc:TypeId×Value->H}{P:Program}{W:World}{base b0:Nat}{sp:Nat->Bool}{held:Bool}{t e:TypeId}{v:Value}{d:DataW H}{p:List MemPlace}{L:List TypeId}
theorem LF(hF:T0 P L)(hL:t∈L){fs:Array Field}(hu:P.underlying t=some (.struct fs))(h:DataW.Trod enc P W base sp held t v d p)(hv:Value.okWide P W .any b0 t v):∃n l,VR (zD W) [] W (.agg l) v/\Sh P n t l/\Er l<=Rows.uptoBulk d:=by
 obtain⟨n,h⟩:=h
 unfold Value.okWide at hv
 rw[hu]at hv
 obtain⟨cs,rfl,_,_⟩:=hv
 obtain⟨l,h1,h2,h3,h4⟩:=SZ hF n t hL _ d p h
 refine⟨n,l,.agg l cs ?_ fun i q u hq hu'=>h2 i q u hq ?_,h3,h4⟩
 ·have:(Value.agg cs).cells.toList.length=cs.size:=by simp[Value.cells]
  omega
 ·show cs.toList[i]? =some u
  rw[vaP];exact hu'
end
def Xi(n:Nat):aA->Prop
 |.dead=>True
 |.cells cs _=>kI n cs
 |.map es=>∀x∈es,x.1.cl n/\x.2.cl n
def MQ(n:Nat):List aA->Prop
 |[]=>True
 |B::l=>Xi n B/\MQ n l
theorem Oc{k:Nat}:∀{ps qs:List PVal},G6 ps qs=qs->kI k qs->tz k ps qs
 |[],[],_,_=>trivial
 |[],_::_,h,_=>by simp[G6]at h
 |p::ps,[],h,_=>by simp[G6]at h
 |p::ps,q::qs,h,hc=>by
  obtain⟨hc1,hc2⟩:=hc
  cases q<;>simp only[G6,vby]at h<;>refine⟨?_,Oc h.2 hc2⟩<;>first|exact .inl rfl|exact .inr ⟨h.1,hc1⟩
theorem Rr{k:Nat}{p q:aA}(h:K0 p q=q)(hc:Xi k q):pj k p q:=by
 cases q with
 |dead=>cases p<;>simp[pj]
 | cells cs own =>
  cases p with
  | cells cs0 own0 =>
   simp only[K0,aA.cells.injEq]at h
   obtain⟨rfl,h⟩:=h
   refine⟨rfl,hc,fun x hx=>?_⟩
   split at h
   ·rename_i ha
    simpa using vat.1 ha x hx
   ·rw[h];exact hx
  |map es=>simp[K0]at h
  |dead=>simp[K0]at h
 |map es=>
  have h':p=.map es:=by cases p<;>simp[K0]at h ⊢<;>exact h
  subst h'
  exact⟨rfl,hc⟩
theorem Dl{k:Nat}:∀{ps qs:List aA},MX (ps.take qs.length) qs=qs->MQ k qs->cC k ps qs
 |_,[],_,_=>by unfold cC;trivial
 |[],_::_,h,_=>by simp[MX]at h
 |p::ps,q::qs,h,hc=>by
  obtain⟨hc1,hc2⟩:=hc
  rw[vaV,List.take_succ_cons]at h
  simp only[MX,vby]at h
  exact⟨Rr h.1 hc1,Dl h.2 hc2⟩
def Yh(m:Nat)(st st0:ax):Prop:=G6 st.tmps st0.tmps=st0.tmps/\MX (st.boxes.take st0.boxes.length) st0.boxes=st0.boxes/\(st0.own.all fun x=>decide (x∈st.own))=true/\decide (m % 1000<=st0.boxes.length)=true/\
 kI st0.boxes.length st0.tmps/\MQ st0.boxes.length st0.boxes
theorem Yh.weak{P:Program}{m:Nat}{st st0:ax}(h:Yh m st st0):re P m st st0:=by
 obtain⟨h1,h2,h3,h4,h5,h6⟩:=h
 exact .of_less ⟨Oc h1 h5,Dl h2 h6,fun x hx=>by simpa using vat.1 h3 x hx⟩ (by simpa using h4)
def WI(m:Nat)(e0:Exit)(st0:ax):Exit->List It->ax->Prop:=fun e _ st=>e0=e/\Yh m st st0
section
variable{P:Program}{GE:List (Nat×List PVal)}{A:List Nat}{m:Nat}
theorem To(hf:P.follows .mixedOrders=true){c:Code}{e0:Exit}{st0 st:ax}(sc:List It)(h:wO P GE A m c sc st (WI m e0 st0)):aL P GE m c (EX e0 st0) st:=
 (fw hf c sc st _ h).mono fun _ _ hx=>by
  obtain⟨_,hx⟩:=hx
  exact⟨st0,hx.2.weak,hx.1.symm,rfl⟩
theorem XA(hf:P.follows .mixedOrders=true){σ X:Type}{S:σ->ax}{ex:X->Exit}{so:X->ax}{c:Code}{s:σ}{st:ax}(sc:List It)(h:wO P GE A m c sc st (WI m .normal (S s))):aL P GE m c (LQ S ex so (.inl s)) st:=
 (To hf sc h).imp fun _ _ hx=>⟨hx.1,hx.2⟩
theorem XD(hf:P.follows .mixedOrders=true){σ X:Type}{S:σ->ax}{ex:X->Exit}{so:X->ax}{c:Code}{x:X}{st:ax}(sc:List It)(hn:ex x≠.normal)(h:wO P GE A m c sc st (WI m (ex x) (so x))):aL P GE m c (LQ S ex so (.inr x)) st:=
 (To hf sc h).imp fun _ _ hx=>⟨by rw[hx.1];exact hn,hx.1,hx.2⟩
end
mutual
theorem Qq{n m:Nat}(hnm:n<=m):∀(p:PVal),p.cl n->p.cl m
 |.undef,_=>by simp[PVal.cl]
 |.int _ _,_=>by simp[PVal.cl]
 |.bool _,_=>by simp[PVal.cl]
 |.str _,_=>by simp[PVal.cl]
 |.val _,_=>by simp[PVal.cl]
 |.agg cs,h=>by simp only[PVal.cl]at h ⊢;exact qa hnm cs h
 |.tuple cs,h=>by simp only[PVal.cl]at h ⊢;exact qa hnm cs h
 |.slice es,h=>by simp only[PVal.cl]at h ⊢;exact Lt hnm es h
 |.eptr cs,h=>by simp only[PVal.cl]at h ⊢;exact qa hnm cs h
 |.bptr i _,h=>by simp only[PVal.cl]at h ⊢;omega
 |.bsl i _ _,h=>by simp only[PVal.cl]at h ⊢;omega
 |.mapr i,h=>by simp only[PVal.cl]at h ⊢;omega
 |.func _ f c,h=>by simp only[PVal.cl]at h ⊢;exact⟨qa hnm f h.1,qa hnm c h.2⟩
theorem qa{n m:Nat}(hnm:n<=m):∀(l:List PVal),kI n l->kI m l
 |[],_=>by simp[kI]
 |p::l,h=>by simp only[kI]at h ⊢;exact⟨Qq hnm p h.1,qa hnm l h.2⟩
theorem Lt{n m:Nat}(hnm:n<=m):∀(l:List (List PVal)),yO n l->yO m l
 |[],_=>by simp[yO]
 |p::l,h=>by simp only[yO]at h ⊢;exact⟨qa hnm p h.1,Lt hnm l h.2⟩
end
theorem hU{n:Nat}{l:List PVal}(h:kI 0 l):kI n l:=qa (vaB n) l h
theorem up{n:Nat}{p:PVal}(h:p.cl 0):p.cl n:=Qq (vaB n) p h
theorem cQ{i n:Nat}(h:decide (i<n)=true):i<n:=vbq h
theorem qao(m:Nat)(st:ax)(h4:decide (m % 1000<=st.boxes.length)=true)(h5:kI st.boxes.length st.tmps)(h6:MQ st.boxes.length st.boxes):st.tmps=st.tmps/\st.boxes=st.boxes/\true=true/\decide (m % 1000<=st.boxes.length)=true/\kI st.boxes.length st.tmps/\MQ st.boxes.length st.boxes:=⟨rfl,rfl,rfl,h4,h5,h6⟩
def WR:TypeDesc->Bool
 |.struct _=>true
 |.array _ _=>true
 |_=>false
theorem Fm{P:Program}{t:TypeId}{l r:List PVal}(h:(P.underlying t).any WR=true)(hc:P.cellsOf t=l.length):cp P t (l++r)=some (.agg l):=by
 unfold cp
 split
 ·rw[vai (by rw[hc];simp),hc,vcd]
 ·rw[vai (by rw[hc];simp),hc,vcd]
 ·rename_i d h1 h2 hd
  rw[hd]at h
  cases d<;>simp_all[WR]
 ·rename_i hd;rw[hd]at h;cases h
end Go.Proofs.YtggeppllafbidaaGreatDoor
