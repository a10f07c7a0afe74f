/- PROVED: a part of the proof. Conditions: none. -/
import Derived.Test.YtbaamopmfmpfaaaGreatDoorPkC6
import Derived.Deep.Draws
import Derived.Sort.Grow
import Derived.Lib.LaidTab
import Derived.WalkKit
import Derived.ProofKit
import Derived.OpenShut
import Derived.Below
import Derived.ChangeSame
import Derived.SliceStrings
import Derived.ChangeMaps5
import Derived.WideKeyArgs
import Derived.LaidLaws
import Derived.Test.YtbaamopmfmpfaaaGreatDoorRows
noncomputable section
namespace Go.Proofs.YtbaamopmfmpfaaaGreatDoor
open Go
def FG(st st0:az):Prop:=Iu st.tmps st0.tmps=st0.tmps/\Oq st.boxes st0.boxes=st0.boxes/\(st0.own.all fun x=>decide (x∈st.own))=true
theorem fr(st:az):st.tmps=st.tmps/\st.boxes=st.boxes/\true=true:=⟨rfl,rfl,rfl⟩
theorem FG.weak{P:Program}{m:Nat}{st st0:az}(h:FG st st0):sC P m st st0:=by
 obtain⟨h1,h2,h3⟩:=h
 have:=sC.forget (P:=P) (m:=m) (st:=st) st0.tmps st0.boxes st0.own (fun x hx=>by simpa using vaw.1 h3 x hx)
 rw[h1,h2]at this
 exact this
def xx(P:Program)(GE:List (Nat×List PVal))(A:List Nat)(m:Nat):Code->List It->az->(Exit->List It->az->Prop)->Prop
 |.skip,sc,st,K=>K .normal sc st
 |.label _,sc,st,K=>K .normal sc st
 | .region _ ops draw,sc,st,K => match draw with
  |false=>match ops.toList.all fD with
   |true=>N1 st.boxes (fX P ops.toList) fun H=>J8 P GE A ops (K .normal) ops.toList 0 st.boxes.length sc ⟨st.tmps,H,st.own⟩
   |false=>False
  |true=>match sc with
   |.dr an::sc'=>Ok P GE A ops an [] [] [] (K .normal) sc' st
   |.dx an X br rw::sc'=>Ok P GE A ops an X br rw (K .normal) sc' st
   |_=>False
 | .seq a b,sc,st,K =>
  let after (e:Exit) (sc:List It) (st:az):Prop:=match e with
   |.normal=>Vb m sc st fun sc st=>xx P GE A m b sc st K
   |e=>K e sc st
  match sc with
  |.pa 0::.pc st0 e st1::sc'=>FG st st0/\aT P GE m a (EX e st1) st0/\after e sc' st1
  |.pa (n+1)::sc'=>xx P GE A m a (.pa n::sc') st after
  |sc=>xx P GE A m a sc st after
 | .cond c a b,sc,st,K => nX GE st.tmps c fun v => match v with
  | .bool t => match sc with
   |.k::sc'=>match t with
    |true=>Vb m sc' st fun sc st=>xx P GE A m a sc st K
    |false=>Vb m sc' st fun sc st=>xx P GE A m b sc st K
   |.g _ x::sc'=>t=x/\match x with
    |true=>Vb m sc' st fun sc st=>xx P GE A m a sc st K
    |false=>Vb m sc' st fun sc st=>xx P GE A m b sc st K
   |_=>False
  |_=>False
 |.block id c,sc,st,K=>xx P GE A m c sc st fun e sc st=>match e with
  |.exit id'=>if id'=id then K .normal sc st else K (.exit id') sc st
  |e=>K e sc st
 |.exit id,sc,st,K=>K (.exit id) sc st
 |.ret,sc,st,K=>K .ret sc st
 |.loop c,sc,st,K=>match sc with
  |.pc st0 e st1::sc'=>FG st st0/\aT P GE m (.loop c) (EX e st1) st0/\K e sc' st1
  |_=>False
 |_,_,_,_=>False
section
variable{P:Program}{GE:List (Nat×List PVal)}{A:List Nat}{m:Nat}
theorem gP(hf:P.follows .mixedOrders=true):∀(c:Code) (sc:List It) (st:az) (K:Exit->List It->az->Prop),xx P GE A m c sc st K->aT P GE m c (fun e st'=>∃sc',K e sc' st') st
 |.skip,sc,st,K,h=>aT.skip ⟨sc,h⟩
 |.label _,sc,st,K,h=>aT.label ⟨sc,h⟩
 | .region id ops draw,sc,st,K,h => by
  simp only[xx]at h
  cases draw with
  | false =>
   simp only at h
   split at h
   ·rename_i hd
    simp only[N1,aS]at h
    exact aT.text hd (yu _ _ _ _ _ h)
   ·exact h.elim
  | true =>
   simp only at h
   split at h
   ·exact EE hf (fun st hx=>hx) h
   ·exact EE hf (fun st hx=>hx) h
   ·exact h.elim
 | .seq a b,sc,st,K,h => by
  have aft:∀(e:Exit) (sc':List It) (st':az),(match e with|.normal=>Vb m sc' st' (fun sc st=>xx P GE A m b sc st K)|e=>K e sc' st')->(match e with|.normal=>aT P GE m b (fun e st'=>∃sc',K e sc' st') st'|e=>∃sc',K e sc' st'):=by
   intro e sc' st' hx
   cases e with
   |normal=>
    obtain⟨sc2,st2,hw,hx⟩:=Ox (P:=P) hx
    exact aT.weak hw (gP hf b sc2 st2 K hx)
   |exit id=>exact⟨_,hx⟩
   |goto l=>exact⟨_,hx⟩
   |ret=>exact⟨_,hx⟩
   |panic c=>exact⟨_,hx⟩
   |outgrown=>exact⟨_,hx⟩
  simp only[xx]at h
  refine aT.seq ?_
  split at h
  ·rename_i st0 e st1 sc'
   obtain⟨h1,h2,h3⟩:=h
   refine aT.weak h1.weak (EX.of h2 ?_)
   have:=aft e sc' st1 h3
   cases e<;>exact this
  ·exact(gP hf a _ st _ h).imp fun e st' hx=>by
    obtain⟨sc',hx⟩:=hx
    have:=aft e sc' st' hx
    cases e<;>exact this
  ·exact(gP hf a _ st _ h).imp fun e st' hx=>by
    obtain⟨sc',hx⟩:=hx
    have:=aft e sc' st' hx
    cases e<;>exact this
 | .cond c a b,sc,st,K,h => by
  simp only[xx,ce]at h
  have go:∀{x:Code} (hx:∀(sc:List It) (st:az),xx P GE A m x sc st K->aT P GE m x (fun e st'=>∃sc',K e sc' st') st) {sc:List It},Vb m sc st (fun sc st=>xx P GE A m x sc st K)->aT P GE m x (fun e st'=>∃sc',K e sc' st') st:=by
   intro x hx sc h
   obtain⟨sc2,st2,hw,h⟩:=Ox (P:=P) h
   exact aT.weak hw (hx sc2 st2 h)
  split at h
  ·rename_i t ht
   split at h
   ·rename_i sc'
    refine aT.cond ht (fun h1=>?_) (fun h1=>?_)
    ·subst h1;exact go (fun sc st=>gP hf a sc st K) h
    ·subst h1;exact go (fun sc st=>gP hf b sc st K) h
   ·rename_i j x sc'
    obtain⟨rfl,h⟩:=h
    refine aT.cond ht (fun h1=>?_) (fun h1=>?_)
    ·subst h1;exact go (fun sc st=>gP hf a sc st K) h
    ·subst h1;exact go (fun sc st=>gP hf b sc st K) h
   ·exact h.elim
  ·exact h.elim
 | .block id c,sc,st,K,h => by
  simp only[xx]at h
  refine aT.block ((gP hf c _ st _ h).imp fun e st' hx=>?_)
  obtain⟨sc',hx⟩:=hx
  cases e with
  | exit id' =>
   simp only[Ro]
   simp only at hx
   split at hx
   ·rename_i hid;rw[vak hid];exact⟨sc',hx⟩
   ·rename_i hid;rw[van hid];exact⟨sc',hx⟩
  |normal=>exact⟨sc',hx⟩
  |goto l=>exact⟨sc',hx⟩
  |ret=>exact⟨sc',hx⟩
  |panic c=>exact⟨sc',hx⟩
  |outgrown=>exact⟨sc',hx⟩
 |.exit id,sc,st,K,h=>aT.exit ⟨sc,h⟩
 |.ret,sc,st,K,h=>aT.ret ⟨sc,h⟩
 | .loop c,sc,st,K,h => by
  simp only[xx]at h
  split at h
  ·rename_i st0 e st1 sc'
   obtain⟨h1,h2,h3⟩:=h
   exact aT.weak h1.weak (EX.of h2 ⟨sc',h3⟩)
  ·exact h.elim
 |.rangeFunc ..,_,_,_,h=>by simp[xx]at h
 |.scope _,_,_,_,h=>by simp[xx]at h
 |.goto _,_,_,_,h=>by simp[xx]at h
 |.refuse _,_,_,_,h=>by simp[xx]at h
def FN(e0:Exit)(st0:az):Exit->List It->az->Prop:=fun e _ st=>e0=e/\FG st st0
theorem piece(hf:P.follows .mixedOrders=true){c:Code}{e0:Exit}{st0 st:az}(sc:List It)(h:xx P GE A m c sc st (FN e0 st0)):aT P GE m c (EX e0 st0) st:=
 (gP hf c sc st _ h).mono fun _ _ hx=>by
  obtain⟨_,hx⟩:=hx
  exact⟨st0,hx.2.weak,hx.1.symm,rfl⟩
theorem mN(hf:P.follows .mixedOrders=true){σ X:Type}{S:σ->az}{ex:X->Exit}{so:X->az}{c:Code}{s:σ}{st:az}(sc:List It)(h:xx P GE A m c sc st (FN .normal (S s))):aT P GE m c (LQ S ex so (.inl s)) st:=
 (piece hf sc h).imp fun _ _ hx=>⟨hx.1,hx.2⟩
theorem qcR(hf:P.follows .mixedOrders=true){σ X:Type}{S:σ->az}{ex:X->Exit}{so:X->az}{c:Code}{x:X}{st:az}(sc:List It)(hn:ex x≠.normal)(h:xx P GE A m c sc st (FN (ex x) (so x))):aT P GE m c (LQ S ex so (.inr x)) st:=
 (piece hf sc h).imp fun _ _ hx=>⟨by rw[hx.1];exact hn,hx.1,hx.2⟩
def BX(rs:List ResultVar)(ro:List (Nat×TypeId))(st:az):Bool:=
 ro.all (fun x=>decide ((dV rs x.1,x.2)∈st.own)&&(match rs with
  |[.tmp _]=>true
  |[_]=>false
  |rs=>match rs[x.1]? with
   |some (.tmp t)=>(st.tmps.getD t .undef).isSlice
   |_=>false))&&ro.all (fun x=>ro.all fun y=>!decide (dV rs x.1=dV rs y.1)||decide (x.1=y.1))
def PVal.isAgg:PVal->Bool
 |.agg _=>true
 |_=>false
def O6(P:Program)(rs:List ResultVar)(r:PVal)(ro:List (Nat×TypeId))(st:az):Prop:=
 ∃(t:Tmp) (ty:TypeId) (i off:Nat) (cs:List PVal) (own:List (Nat×TypeId)) (l:List PVal),rs=[.cell t ty]/\(∃fs,P.underlying ty=some (.struct fs))/\st.tmps.getD t .undef=.bptr i off/\st.boxes[i]? =some (.cells cs own)/\
  r=.agg l/\aU P ty (cs.drop off)=some (.agg l)/\r.cl 0/\(∀x∈ro,(off+x.1,x.2)∈own/\x.1<l.length)/\(ro.map (·.1)).Nodup
def WZ(P:Program)(rs:List ResultVar)(r:PVal)(ro:List (Nat×TypeId))(e:Exit)(st:az):Prop:=
 qbB P rs r ro [] e st\/((e=.normal\/e=.ret)/\O6 P rs r ro st)
def Tu(P:Program)(rs:List ResultVar)(ro:List (Nat×TypeId))(st:az):Bool:=match rs with
 | [.cell t ty] => match P.underlying ty with
  | some (.struct _) => match st.tmps.getD t .undef with
   |.bptr i off=>match st.boxes[i]? with
    |some (.cells _ own)=>ro.all (fun x=>decide ((off+x.1,x.2)∈own)&&decide (x.1<P.cellsOf ty))&&tW (ro.map (·.1))
    |_=>false
   |_=>false
  |_=>false
 |_=>false
section
variable{P:Program}{E:rh}{Γ:ba}{bs:bI}{ow:Nat->Option lK}{w:World}{a:Array Value}{st:az}
theorem SR.pushed(h:SR P E Γ bs ow w a st){v:Value}{p:PVal}(hv:VR Γ bs w p v):SR P E Γ bs ow w (a.push v) {st with tmps:=st.tmps++[p]}:=
 { h with
  sz:=by simp[h.sz]
  tm:=fun t q u hq hu=>by
   by_cases ht:t<a.size
   ·rw[vcp ht]at hu
    simp only at hq
    rw[vad (by rw[<-h.sz];exact ht)]at hq
    exact h.tm t q u hq (by rw[<-hu];simp[ht])
   ·have hlt:t<(a.push v).size:=(vaq.1 hu).1
    have ht2:t=a.size:=by simp at hlt;omega
    subst ht2
    simp only at hq
    rw[vaf (by rw[h.sz];exact vah _),h.sz]at hq
    simp at hq hu
    subst hq;subst hu;exact hv
  ot:=fun t k e he=>by
   obtain⟨u,v',h1,h2,h3,h4⟩:=h.ot t k e he
   have hlt:t<a.size:=(vaq.1 h1).1
   exact⟨u,v',by rw[vcp hlt,<-h1];simp[hlt],h2,h3,h4⟩}
theorem SR.finishCell(h:SR P E Γ bs ow w a st){fn:Func}{r:PVal}{ro:List (Nat×TypeId)}(hr:O6 P fn.results.toList r ro st):∃v ow',(results fn a).run P w=.ok v w/\SR P E Γ [] ow' w #[v] ⟨[r],[],ro.map fun x=>((0,x.1),x.2)⟩:=by
 obtain⟨t,ty,i,off,cs,own,l,hrs,⟨fs,hfs⟩,ht,hB,rfl,hp,hcl,hro,hnd⟩:=hr
 have hrv:Fp P st fn.results.toList=some (.agg l):=by
  rw[hrs]
  show lG P ty (st.tmps.getD t .undef) st.boxes=_
  rw[ht]
  simp only[lG,hB,hp]
 obtain⟨v,e1,e2,_⟩:=uf h hrv
 have hvt:=h.getD t
 rw[ht]at hvt
 generalize hva:a.getD t undef=vt at hvt
 cases hvt with
 |bptr _ _ b hb=>
 obtain⟨v2,q1,q2,q3⟩:=DC h hb hB hp
 have hvv:v2=v:=by
  have hres:fn.results=#[.cell t ty]:=by
   have:fn.results=fn.results.toList.toArray:=by simp
   rw[this,hrs]
  have hrun:(results fn a).run P w=.ok v2 w:=by
   simp[results,hres,asAddr]
   have hva':a[t]?.getD undef=.pointer (some ⟨b,off,none⟩):=by rw[<-vay];exact hva
   rw[hva']
   simp[q1]
  rw[e1]at hrun
  cases hrun
  rfl
 subst hvv
 have g1:=h.pushed e2
 obtain⟨ow',g2⟩:=SR.takeOwns (off:=off) (d:=a.size) (u:=v2) hb (by simp) ro g1 hB (fun x hx=>(hro x hx).1) hnd fun x hx=>by
  have:=q3 ⟨_,hfs,trivial⟩ x.1 (hro x hx).2
  obtain⟨v',z1,_⟩:=h.ob i (off+x.1) x.2 cs own b hB (hro x hx).1 hb
  exact⟨v',this.trans z1,z1⟩
 refine⟨v2,CQ (fun k=>(a.size,k)) ro ow',e1,?_⟩
 have hf:=g2.finish (H':=[]) (src:=fun k=>(a.size,k)) (ro:=ro) e2 hcl (by unfold dc;trivial) (fun x hx=>⟨?_,fun u v' hu hv'=>?_⟩) (fun x _ y _ e=>by simpa using e)
 ·simpa using hf
 ·exact vaR _ (vbX.2 (vap.2 ⟨x,hx,rfl⟩))
 ·simp at hu;subst hu;exact hv'
end
def qaN(P:Program)(rs:List ResultVar)(r:PVal)(ro:List (Nat×TypeId))(st:az):Prop:=match BX rs ro st with
 |true=>match Fp P st rs with
  |some p=>p=r/\r.cl 0
  |none=>False
 | false => match Tu P rs ro st with
  |true=>match Fp P st rs with
   |some p=>p=r/\r.cl 0/\r.isAgg=true
   |none=>False
  |false=>False
def FR(P:Program)(rs:List ResultVar)(r:PVal)(ro:List (Nat×TypeId)):Exit->List It->az->Prop:=fun e _ st=>match e with
 |.normal=>qaN P rs r ro st
 |.ret=>qaN P rs r ro st
 |_=>False
theorem C.ofSat{f:FuncId}{fn:Func}{c:Code}{args:List PVal}{r:PVal}{ro:List (Nat×TypeId)}
  (hcall:∀vs w,(callFunc f vs).run P w=.ok (.enter f vs) w) (hfn:P.funcs[f]? =some fn) (hb:fn.body=some c)
  (hp:aT P GE 0 c (WZ P fn.results.toList r ro) ⟨args++List.replicate (fn.ntmps - args.length) .undef,[],[]⟩):C P GE f args [] [] r ro []:=by
 refine⟨hcall,fun Γ bs ow w vs h=>calls_of_wp hfn hb ?_⟩
 have hbl:bs.length=0:=h.bl
 obtain rfl:bs=[]:=vas hbl
 have h0:SR P ⟨GE,Γ,w,fun _=>False⟩ Γ [] (fun _=>none) w (vs++Array.replicate (fn.ntmps - vs.size) undef) ⟨args++List.replicate (fn.ntmps - args.length) .undef,[],[]⟩:=by
  have hsz:vs.size=args.length:=h.sz
  exact{
   wi:=h.wi
   sz:=by simp[hsz]
   tm:=fun t p v hp hv=>by
    simp only at hp
    by_cases ht:t<args.length
    ·rw[vad ht]at hp
     rw[vaP (by omega)]at hv
     exact h.tm t p v hp hv
    ·rw[vaf (by omega),vaW]at hp
     split at hp<;>cases hp
     exact .undef v
   bl:=rfl
   bx:=fun i b B hi=>by simp at hi
   inj:=fun i j b hi=>by simp at hi
   bn:=fun i b hi=>by simp at hi
   on:=fun b L hL=>by cases hL
   ot:=fun t k e he=>by simp at he
   ob:=fun i j e cs own b hB=>by simp at hB
   gl:=h.gl
   gc:=h.gc
   gx:=fun g cs hg=>⟨(h.gx g cs hg).1,fun hx=>hx,(h.gx g cs hg).2.2⟩
   step:=.refl _ _ _ _}
 have hE:D4 GE 0 ⟨GE,Γ,w,fun _=>False⟩:={
  ge:=rfl
  low:=fun b n hb=>h.lt_of_ghost hb
  nt:=fun _ _ hx=>hx
  gl:=h.gl}
 have hwp:=hp none ⟨GE,Γ,w,fun _=>False⟩ [] ⟨vs++Array.replicate (fn.ntmps - vs.size) undef,[]⟩ w hE rfl ⟨Γ,[],_,h0,fun i _=>rfl⟩
 refine wp_mono hwp fun e a w' hq=>?_
 obtain⟨hd,st,⟨Γ1,bs1,ow1,hS0,hk⟩,hQ⟩:=hq
 have hS:SR P ⟨GE,Γ,w,bY [] ow⟩ Γ1 bs1 ow1 w' a.tmps st:={hS0 with
  bn:=fun i b hb=>(hS0.bn i b hb).elim False.elim .inr
  on:=fun b L hL=>⟨(hS0.on b L hL).1,(hS0.on b L hL).2.elim False.elim .inr⟩
  gx:=h.gx
  step:={hS0.step with keep:=fun b hb _=>hS0.step.keep b hb (fun hx=>hx)}}
 have key:(Fp P st fn.results.toList=some r/\r.cl 0/\dc 0 st.boxes []/\(∀x∈ro,(dV fn.results.toList x.1,x.2)∈st.own/\qy st fn.results.toList x.1)/\
   (∀x∈ro,∀y∈ro,dV fn.results.toList x.1=dV fn.results.toList y.1->x.1=y.1))->
   a.defers=[]/\∃v,(results fn a.tmps).run P w'=.ok v w'/\∃v' Γ' ow',Ending.returned v=.returned v'/\SR P ⟨GE,Γ,w,bY [] ow⟩ Γ' [] ow' w' #[v'] ⟨[r],[],ro.map fun x=>((0,x.1),x.2)⟩:=by
  rintro⟨k1,k2,k3,k4,k5⟩
  obtain⟨v,e1,e2,e3⟩:=uf hS k1
  refine⟨hd,v,e1,v,Γ1,CQ (dV fn.results.toList) ro ow1,rfl,?_⟩
  have hf:=hS.finish (H':=[]) (src:=dV fn.results.toList) (ro:=ro) e2 k2 k3 (fun x hx=>⟨(k4 x hx).1,fun u v'=>e3 x.1 u v' (k4 x hx).2⟩) k5
  simpa using hf
 have key2:O6 P fn.results.toList r ro st->
   a.defers=[]/\∃v,(results fn a.tmps).run P w'=.ok v w'/\∃v' Γ' ow',Ending.returned v=.returned v'/\SR P ⟨GE,Γ,w,bY [] ow⟩ Γ' [] ow' w' #[v'] ⟨[r],[],ro.map fun x=>((0,x.1),x.2)⟩:=by
  intro hc
  obtain⟨v,ow',e1,e2⟩:=hS.finishCell hc
  exact⟨hd,v,e1,v,Γ1,ow',rfl,e2⟩
 rcases hQ with hQ|⟨he,hQ⟩
 ·cases e with
  |normal=>exact key hQ
  |ret=>exact key hQ
  |exit id=>exact hQ.elim
  |goto l=>exact hQ.elim
  |panic c=>exact hQ.elim
  |outgrown=>exact hQ.elim
 ·rcases he with rfl|rfl
  ·exact key2 hQ
  ·exact key2 hQ
theorem K2{rs:List ResultVar}{r:PVal}{ro:List (Nat×TypeId)}{st:az}(hc:BX rs ro st=true)(hp:Fp P st rs=some r)(hcl:r.cl 0):Fp P st rs=some r/\r.cl 0/\dc 0 st.boxes []/\(∀x∈ro,(dV rs x.1,x.2)∈st.own/\qy st rs x.1)/\
      (∀x∈ro,∀y∈ro,dV rs x.1=dV rs y.1->x.1=y.1):=by
  unfold BX at hc
  rw[vag]at hc
  obtain⟨c1,c2⟩:=hc
  refine⟨hp,hcl,by unfold dc;cases st.boxes<;>trivial,fun x hx=>?_,fun x hx y hy hxy=>?_⟩
  · have:=vaw.1 c1 x hx
    rw[vag]at this
    refine⟨by simpa using this.1,?_⟩
    have h2:=this.2
    clear hp this c1 c2
    rcases rs with _|⟨y,_|⟨z,rs⟩⟩
    ·simp at h2
    · cases y with
      |tmp t=>trivial
      |cell t ty=>cases h2
    · have key:∀ o:Option ResultVar,(match o with
        |some (.tmp t)=>(st.tmps.getD t .undef).isSlice
        |_=>false)=true->(match o with
        |some (.tmp t)=>(st.tmps.getD t .undef).isSlice=true
        |_=>False):=by
        intro o
        cases o with
        |none=>intro h;cases h
        |some q=>cases q<;>intro h<;>first|exact h|cases h
      cases y with
      |tmp t=>exact key _ h2
      |cell t ty=>exact key _ h2
  · have:=vaw.1 (vaw.1 c2 x hx) y hy
    simpa[hxy]using this
theorem qaN.to{rs:List ResultVar}{r:PVal}{ro:List (Nat×TypeId)}{st:az}{e:Exit}(he:e=.normal\/e=.ret)(h:qaN P rs r ro st):WZ P rs r ro e st:=by
 unfold qaN at h
 split at h
 ·rename_i hc
  split at h
  ·rename_i p hp
   obtain⟨rfl,hcl⟩:=h
   have:=K2 hc hp hcl
   rcases he with rfl|rfl<;>exact .inl this
  ·exact h.elim
 ·split at h
  ·rename_i hc
   split at h
   ·rename_i p hp
    obtain⟨rfl,hcl,hagg⟩:=h
    refine .inr ⟨he,?_⟩
    unfold Tu at hc
    split at hc
    ·rename_i t ty _
     split at hc
     ·rename_i fs hfs
      split at hc
      ·rename_i i off ht
       split at hc
       ·rename_i cs own hB
        rw[vag]at hc
        obtain⟨c1,c2⟩:=hc
        have hpl:aU P ty (cs.drop off)=some p:=by
         have hp':lG P ty (st.tmps.getD t .undef) st.boxes=some p:=hp
         rw[ht]at hp'
         simpa only[lG,hB]using hp'
        cases p<;>simp only[PVal.isAgg]at hagg<;>first|(cases hagg;done)|skip
        rename_i l
        have hlen:l.length=P.cellsOf ty:=by
         have hq:=hpl
         unfold aU at hq
         rw[hfs]at hq
         simp only at hq
         split at hq
         ·rename_i hh;cases hq;rw[vaM];omega
         ·cases hq
        refine⟨t,ty,i,off,cs,own,l,rfl,⟨fs,hfs⟩,ht,hB,rfl,hpl,hcl,fun x hx=>?_,nN c2⟩
        have:=vaw.1 c1 x hx
        simp only[vag,vam]at this
        exact⟨this.1,by rw[hlen];exact this.2⟩
       ·cases hc
      ·cases hc
     ·cases hc
    ·cases hc
   ·exact h.elim
  ·exact h.elim
theorem FR.to{rs:List ResultVar}{r:PVal}{ro:List (Nat×TypeId)}{e:Exit}{sc:List It}{st:az}(h:FR P rs r ro e sc st):WZ P rs r ro e st:=by
 unfold FR at h
 split at h
 ·exact h.to (.inl rfl)
 ·exact h.to (.inr rfl)
 ·exact h.elim
theorem C.ev(hf:P.follows .mixedOrders=true){f:FuncId}{fn:Func}{c:Code}{args:List PVal}{r:PVal}{ro:List (Nat×TypeId)}
  (hcall:∀vs w,(callFunc f vs).run P w=.ok (.enter f vs) w) (hfn:P.funcs[f]? =some fn) (hb:fn.body=some c) (hcl:ig 0 args) (sc:List It)
  (h:xx P GE A 0 c sc ⟨args++List.replicate (fn.ntmps - args.length) .undef,[],[]⟩ (FR P fn.results.toList r ro)):CC P GE f args r ro:=
 ⟨hcl,C.ofSat hcall hfn hb ((gP hf c sc _ _ h).imp fun e st hx=>by obtain⟨sc',hx⟩:=hx;exact hx.to)⟩
end
abbrev ag:=List UInt8
abbrev aR(n:Int):Int:=IntKind.i64.wrap n
def cS(s:ag):List PVal:=[.str s]
def cI(k:IntKind)(n:Int):List PVal:=[.int k n]
def cB(b:Bool):List PVal:=[.bool b]
def sl{α:Type}(c:α->List PVal)(l:List α):PVal:=.slice (l.map c)
def cL{α:Type}(c:α->List PVal)(l:List α):List PVal:=[sl c l]
def sG(s:ag)(i:Int):Option Int:=(cR s i).map fun c=>(c.toNat:Int)
def bd:Option Int->Nat->Option Nat
 |none,d=>some d
 |some i,_=>if 0<=i then some i.toNat else none
def Ld{α:Type}(l:List α)(lo hi:Option Int):Option (List α):=
 match bd lo 0,bd hi l.length with
 |some a,some b=>if a<=b/\b<=l.length then some ((l.take b).drop a)else none
 |_,_=>none
def app{α:Type}(l r:List α):Option (List α):=if l.length+r.length<=ee then some (l++r)else none
def ZL(a b:ag):Option ag:=if a.length+b.length<=R0 then some (a++b)else none
def qu(k:IntKind)(a b:Int):Option Int:=if b=0 then none else some (k.wrap (a.tdiv b))
def re(a b:Int):Option Int:=if b=0 then none else some (a.tmod b)
def zp{α:Type}(m:List (ag×α))(k:ag):Option α:=(m.find? fun e=>k==e.1).map (·.2)
def EY{α:Type}(m:List (ag×α))(k:ag)(v:α):List (ag×α):=
 match m with
 |[]=>[(k,v)]
 |e::r=>if k==e.1 then(k,v)::r else e::EY r k v
def Du{α:Type}(f:α->PVal)(m:List (ag×α)):List (PVal×PVal):=m.map fun e=>(.str e.1,f e.2)
def Za:TypeDesc->Bool
 |.struct _=>false
 |.array _ _=>false
 |_=>true
theorem im{P:Program}{t:TypeId}(h:(P.underlying t).any Za=true)(p:PVal)(r:List PVal):aU P t (p::r)=some p:=by
 unfold aU
 split
 ·rename_i hu;rw[hu]at h;cases h
 ·rename_i hu;rw[hu]at h;cases h
 ·rfl
 ·rename_i hu;rw[hu]at h;cases h
structure qF{α:Type}(P:Program)(T e:TypeId)(c:α->List PVal):Prop where
 hu:P.underlying T=some (.slice e)
 hc:∀x,(c x).length=P.cellsOf e
 hi:(P.info? e).isSome=true
 hp:0<P.cellsOf e
 hz:(jC P e).map (·.length)=some (P.cellsOf e)
 hb:P.bytesOf e<=65536
 ho:∀x,∀q∈c x,q.one=true
 cl:∀x,ig 0 (c x)
theorem aq{α:Type}{c:α->List PVal}(h:∀x,ig 0 (c x))(l:List α):(sl c l).cl 0:=by
 unfold sl
 simp only[PVal.cl]
 exact Oc fun p hp=>by obtain⟨x,_,rfl⟩:=vap.1 hp;exact h x
theorem gG(s:ag):ig 0 (cS s):=⟨trivial,trivial⟩
theorem Kn{α:Type}{l:List α}{i:Int}{x:α}(h:cR l i=some x):0<=i/\l[i.toNat]? =some x:=by
 unfold cR at h
 split at h
 ·exact⟨‹_›,h⟩
 ·cases h
theorem aI{a b:Prop}(h:a)(h':b):a/\b:=⟨h,h'⟩
theorem rP(p:PVal):p=p:=rfl
theorem lf{β:Type}{a r:β}(h:some a=some r):a=r:=vbB h
abbrev u:PVal:=.undef
theorem KI(x:ag):bO (.str x)=some (cS x):=rfl
theorem qea(l:List PVal):bO (.agg l)=some l:=rfl
theorem qcQ(x:ag):∀q∈cS x,q.one=true:=by intro q hq;simp[cS]at hq;subst hq;rfl
def fI:Code->List Bool->Code
 |c,[]=>c
 |.seq a b,x::l=>match x with|false=>fI a l|true=>fI b l
 |.cond _ a b,x::l=>match x with|false=>fI a l|true=>fI b l
 |.block _ c,_::l=>fI c l
 |.loop c,_::l=>fI c l
 |c,_=>c
section
variable{P:Program}{T e:TypeId}{α:Type}{c:α->List PVal}
theorem qF.ia(s:qF P T e c){l:List α}{i:Int}{k:IntKind}{x:α}(h:cR l i=some x):kQ P T (sl c l) (.int k i)=some (.eptr (c x)):=by
 obtain⟨h0,h1⟩:=Kn h
 unfold sl kQ
 simp only[s.hu,vak h0,vaB,h1,vaj]
 rw[vak ⟨s.hc x,s.hi⟩]
theorem qF.ln(s:qF P T e c)(l:List α):∀H,Bb P T (sl c l) H=some (.int .i64 (l.length:Int)):=fun H=>by
 unfold sl Bb;simp only[s.hu,vaL]
theorem IM{o:Option Int}{d n:Nat}{k:IntKind}(h:bd o d=some n):Iy (o.map (PVal.int k)) d=some n:=by
 cases o with
 |none=>exact h
 |some i=>exact h
theorem qF.sc(s:qF P T e c){l r:List α}{lo hi:Option Int}(h:Ld l lo hi=some r):Bj P T (sl c l) (lo.map (PVal.int .i64)) (hi.map (PVal.int .i64)) none=some (sl c r):=by
 unfold Ld at h
 split at h
 ·rename_i a b h1 h2
  split at h
  ·rename_i hb
   cases h
   unfold sl Bj
   simp only[s.hu,IM h1]
   rw[show(l.map c).length=l.length by simp,IM h2]
   simp only
   have hx:∀x∈(l.map c).take 1,x.length=P.cellsOf e:=fun x hx=>by
    obtain⟨y,_,rfl⟩:=vap.1 (List.mem_of_mem_take hx)
    exact s.hc y
   rw[vak ⟨hb.1,hb.2,s.hi,hx⟩,List.map_drop,List.map_take]
  ·cases h
 ·cases h
theorem qF.ap(s:qF P T e c){l r z:List α}(h:app l r=some z):lx P T (l.map c) (r.map c)=some (sl c z):=by
 unfold app at h
 split at h
 ·cases h
  unfold lx sl
  simp only[s.hu,vaL]
  have h1:∀x∈l.map c,x.length=P.cellsOf e:=fun x hx=>by obtain⟨y,_,rfl⟩:=vap.1 hx;exact s.hc y
  have h2:∀x∈r.map c,x.length=P.cellsOf e/\∀q∈x,q.one=true:=fun x hx=>by obtain⟨y,_,rfl⟩:=vap.1 hx;exact⟨s.hc y,s.ho y⟩
  rw[vak ⟨‹_›,s.hb,s.hp,s.hz,h1,h2⟩,vbG]
 ·cases h
theorem M7{v:α->PVal}{sz:Nat}(hv:∀x,bO (v x)=some (c x))(hc:∀x,(c x).length=sz):∀(l:List α) (i:Nat),A4 sz i ((l.map v).zipIdx i|>.map fun x=>(x.2,x.1))=some (l.map c)
 |[],i=>by simp[A4]
 |x::l,i=>by
  have ih:=M7 hv hc l (i+1)
  simp only[vax,List.zipIdx_cons,A4,hv x]
  simp[ih,hc x]
theorem qF.mk'(s:qF P T e c){v:α->PVal}(hv:∀x,bO (v x)=some (c x))(l:List α)(n:Nat)(hn:(decide (l.length=n)&&decide (n * P.cellsOf e<=16777216))=true):fw P T n ((l.map v).zipIdx 0|>.map fun x=>(x.2,x.1))=some (sl c l):=by
 simp only[vag,vam]at hn
 unfold fw sl
 simp only[s.hu,M7 hv s.hc]
 have hz:(jC P e).isSome=true:=by
  cases h:jC P e with
  |none=>have:=s.hz;rw[h]at this;cases this
  |some z=>rfl
 rw[vak ⟨by simpa using hn.1,hz,s.hp,hn.2,s.hz⟩]
theorem po{t:TypeId}(h:P.underlying t=some .string){s:ag}{i:Int}{k:IntKind}{x:Int}(hx:sG s i=some x):GB P t (.str s) (.int k i)=some (.int .u8 x):=by
 unfold sG at hx
 cases hi:cR s i with
 |none=>rw[hi]at hx;cases hx
 |some b=>
  rw[hi]at hx;cases hx
  obtain⟨h0,h1⟩:=Kn hi
  unfold GB
  simp only[h,vak h0,h1,vaj]
theorem gI{t:TypeId}(h:P.underlying t=some .string)(s:ag):∀H,Bb P t (.str s) H=some (.int .i64 (s.length:Int)):=fun H=>by unfold Bb;simp only[h]
theorem Zb{t:TypeId}(ht:P.underlying t=some .string){l r:ag}{lo hi:Option Int}(h:Ld l lo hi=some r):Bj P t (.str l) (lo.map (PVal.int .i64)) (hi.map (PVal.int .i64)) none=some (.str r):=by
 unfold Ld at h
 split at h
 ·rename_i a b h1 h2
  split at h
  ·rename_i hb
   cases h
   unfold Bj
   simp only[ht,IM h1,IM h2]
   rw[vak hb]
  ·cases h
 ·cases h
theorem Z7{t:TypeId}{a b z:ag}(h:ZL a b=some z):OX P .add t (.str a) (.str b)=some (.str z):=by
 unfold ZL at h
 unfold OX Yh
 split at h
 ·cases h;simp only;rw[vak ‹_›]
 ·cases h
theorem yX{t:TypeId}{k:IntKind}{a b z:Int}(h:qu k a b=some z):OX P .quo t (.int k a) (.int k b)=some (.int k z):=by
 unfold qu at h
 split at h
 ·cases h
 ·rename_i hb;cases h;simp only[OX,Yc,if_true,van hb]
def EB:List Int->Option ag
 |[]=>some []
 |n::r=>if 0<=n/\n<256 then(EB r).map (UInt8.ofNat n.toNat::·)else none
theorem DL{f:α->PVal}(k:ag):∀(m:List (ag×α)) (i:Nat),A6 (.str k) (Du f m) i=some (match zp m k with
  |none=>none
  |some v=>some (i+(m.findIdx fun e=>k==e.1),f v))
 |[],i=>by simp[Du,A6,zp]
 | e :: m,i => by
  have ih:=DL (f:=f) k m (i+1)
  unfold Du at ih ⊢
  simp only[vax,A6,O1]
  unfold zp at ih ⊢
  by_cases h:(k==e.1)=true
  ·simp[h,vbQ]
  ·have h':(k==e.1)=false:=by simpa using h
   simp only[h',List.find?_cons,ih,vbQ]
   cases hm:(List.find? (fun e=>k==e.1) m)with
   |none=>simp
   |some v=>simp;omega
theorem Wp{t kt et:TypeId}{f:α->PVal}(h1:P.underlying t=some (.map kt et))(h2:P.underlying kt=some .string){z:α}(hz:GL P et=some (f z))(m:List (ag×α))(k:ag):KP P t (Du f m) (.str k) false=some (f ((zp m k).getD z)):=by
 unfold KP
 simp only[h1,h2,mZ,if_true,DL]
 cases zp m k with
 |none=>simp[hz]
 |some v=>simp
theorem Tc(f:α->PVal)(k:ag)(v:α):∀(m:List (ag×α)),Du f (EY m k v)=match zp m k with
  |none=>Du f m++[(.str k,f v)]
  |some _=>(Du f m).set (m.findIdx fun e=>k==e.1) (.str k,f v)
 |[]=>by simp[EY,zp,Du]
 | e :: m => by
  have ih:=Tc f k v m
  unfold zp at ih ⊢
  unfold Du at ih ⊢
  by_cases h:(k==e.1)=true
  ·simp[EY,h,vbQ]
  ·have h':(k==e.1)=false:=by simpa using h
   simp only[EY,h',List.find?_cons,vbQ,vax]
   simp only[va5,if_false,vax,ih]
   cases(List.find? (fun e=>k==e.1) m)with
   |none=>simp
   |some v=>simp
theorem ZU{t kt et:TypeId}{f:α->PVal}(h1:P.underlying t=some (.map kt et))(h2:P.underlying kt=some .string)(m:List (ag×α))(k:ag)(v:α):Nd P t (Du f m) (.str k) (f v)=some (Du f (EY m k v)):=by
 unfold Nd
 simp only[h1,h2,mZ,if_true,DL,Tc]
 cases zp m k with
 |none=>simp
 |some w=>simp
end
structure Zq(w w':World):Prop where
 os:w'.os=w.os
 tape:w'.tape=w.tape
 output:w'.output=w.output
 size:w.heap.size<=w'.heap.size
 keep:∀b,b<w.heap.size->w'.heap[b]? =w.heap[b]?
theorem Zq.of_grow(w:World)(k:Nat)(os:Array Obj):Zq w (Sort.grow (w.drewN k) os):={
 os:=rfl
 tape:=rfl
 output:=rfl
 size:=by show w.heap.size<=(w.heap++os).size;simp
 keep:=fun b hb=>by show(w.heap++os)[b]? =_;rw[vaP hb]}
section
variable{P:Program}{GE:List (Nat×List PVal)}
theorem qaa{E:rh}{Γ:ba}{bs:bI}{ow:Nat->Option lK}{w:World}{a:Array Value}{st:az}(h:SR P E Γ bs ow w a st){g:Nat}{k:IntKind}{zs:List Int}{name:String}
  (hg:(g,zs.map (PVal.int k))∈E.GE) (hn:P.globalNamed name=some g):Lib.TabIs P w name k zs:=by
 obtain⟨_,_,_,c,t,fr,h1,h2⟩:=h.gnow hg
 have hv:=h.gl g _ hg
 unfold Lib.TabIs World.var?
 rw[hn]
 simp only[vaa,h1]
 congr 1
 refine Array.ext_getElem? fun i=>?_
 generalize hcs:zs.map (PVal.int k)=cs at hv
 cases hv with
 |eptrE _ _=>
  have hz:zs=[]:=by simpa using hcs
  subst hz
  have h3:c.size=0:=h2
  rw[vbD (by omega),vbD (by simp)]
 | eptr _ _ _ n vals hg' hn' hc hvv =>
  subst hcs
  by_cases hi:i<zs.length
  ·have h3:=hc i _ (by simp[hi]:(zs.map (PVal.int k))[i]? =some (.int k zs[i]))
   have h4:=hvv i _ (by simp[hi]:(zs.map (PVal.int k))[i]? =some (.int k zs[i]))
   rw[vaK]at h3
   have h5:w.cell? ⟨g,i,none⟩=c[i]?:=cell_of_row w g i c t fr h1
   rw[h5]at h3
   rw[h3]
   generalize vals i=vi at h4
   cases h4
   simp[hi]
  ·rw[vaL]at h2
   rw[vbD (by omega),vbD (by simp;omega)]
theorem CC.grownIS{f:FuncId}{n:Int}{s:ag}{k:IntKind}(hcall:∀vs w,(callFunc f vs).run P w=.ok (.enter f vs) w)
  (h:∀E Γ bs ow w a st,E.GE=GE->SR P E Γ bs ow w a st->Calls P f #[.int k n] w fun e w'=>e=.returned (.string ⟨s.toArray⟩)/\Zq w w'):CC P GE f [.int k n] (.str s) []:=by
 refine⟨⟨trivial,trivial⟩,hcall,fun Γ bs ow w vs hS=>?_⟩
 have hvs:vs=#[.int k n]:=by
  have h1:=hS.sz
  simp at h1
  have h2:vs[0]? =some vs[0]:=by simp[h1]
  have h3:=hS.tm 0 _ _ rfl h2
  refine Array.ext (by simp[h1]) fun i hi hi2=>?_
  have:i=0:=by simp at hi2;omega
  subst this
  generalize vs[0]=v at h3
  cases h3
  rfl
 subst hvs
 refine(h _ Γ bs ow w _ _ rfl hS).mono fun e w' he=>?_
 obtain⟨rfl,hg⟩:=he
 have hbl:bs.length=0:=hS.bl
 obtain rfl:bs=[]:=vas hbl
 have hW:=hS.world (Γ':=Γ) (w':=w') (fun _=>False) (fun b m hb _=>⟨m,hb,vah _,fun o _=>cb (hg.keep b (hS.lt_of_ghost hb)) o⟩)
  (fun b m hb=>by
   obtain⟨c,t,fr,h1,h2⟩:=hS.wi b m hb
   exact⟨c,t,fr,(hg.keep b (hS.lt_of_ghost hb)).trans h1,h2⟩) hg.os hg.tape hg.output hg.size (fun b hb _=>⟨hg.keep b hb,rfl⟩) (fun _ hx=>hx.elim) (fun _ _ _ hx=>hx) (fun _ _ _ hx=>hx)
 refine⟨_,Γ,ow,rfl,{hW with
  sz:=rfl
  tm:=fun t p v hp hv=>by
   cases t with
   |zero=>simp at hp hv;subst hp;subst hv;exact .str s
   |succ t=>simp at hp
  ot:=fun t k e he=>by simp at he}⟩
structure Vi(P:Program)(g:FuncId)(e:TypeId)(enc:ag->Value)(f:List ag->List ag)(R:Option Addr->Nat->Nat->Value):Prop where
 call:∀vs w,(callFunc g vs).run P w=.ok (.enter g vs) w
 row:∀(w:World) (b cap:Nat) (cur:Array Value) (l:List ag),w.heap[b]? =some (.cells cur e (0,0))->cur.size=cap->l.length<=cap->cap<=maxLen->l.length<=ee->cur.toList.take l.length=l.map enc->
  Calls P g #[.slice (some ⟨b,0,none⟩) l.length cap] w fun r w'=>r=.returned (R (some ⟨b,0,none⟩) (f l).length cap)/\(f l).length<=cap/\w'.os=w.os/\w'.tape=w.tape/\w'.output=w.output/\w.heap.size<=w'.heap.size/\
   (∀b',b'<w.heap.size->b'≠b->w'.heap[b']? =w.heap[b']?)/\∃cur',w'.heap[b]? =some (.cells cur' e (0,0))/\cur'.size=cap/\cur'.toList.take (f l).length=(f l).map enc
 none:∀w:World,f []=[]/\Calls P g #[.slice none 0 0] w fun r w'=>r=.returned (R none 0 0)/\w'=w
theorem VY:∀{l l':List PVal},l.length=l'.length->(∀(i:Nat) q,l'[i]? =some q->q=.undef\/l[i]? =some q)->Iu l l'=l'
 |[],[],_,_=>rfl
 |[],_::_,h,_=>by simp at h
 |_::_,[],h,_=>by simp at h
 | p :: l,q :: l',h,hq => by
  have ih:=VY (l:=l) (l':=l') (by simpa using h) fun i x hx=>by simpa using hq (i+1) x (by simpa using hx)
  have h0:=hq 0 q rfl
  simp only[List.getElem?_cons_zero,vav]at h0
  rcases h0 with rfl|rfl
  ·simp only[Iu,ih]
  ·cases p<;>simp only[Iu,ih]
def gJ(n t:Nat)(l:List ag)(e:TypeId):az:=⟨(List.replicate n .undef).set t (sl cS l),[],[((t,0),e)]⟩
theorem KG{n t:Nat}{p:PVal}{i:Nat}{l:List ag}(h:((List.replicate n .undef).set t (sl cS l))[i]? =some p):p=.undef\/(i=t/\p=sl cS l):=by
 rw[vbH]at h
 split at h
 ·rename_i hti
  split at h
  ·cases h;exact .inr ⟨hti.symm,rfl⟩
  ·cases h
 ·rw[vaW]at h
  split at h
  ·cases h;exact .inl rfl
  ·cases h
theorem Gw{E:rh}{Γ:ba}{bs:bI}{ow:Nat->Option lK}{w w':World}{a:Array Value}{st:az}(h:SR P E Γ bs ow w a st)(hE:D4 GE 0 E)(hbs:bs=[]){e:TypeId}(he:P.cellsOf e=1){n t ts:Nat}{a':Array Value}(hn:a'.size=n)(hts:ts<n)
  {f:List ag} {v:Value} (hv:a'[ts]? =some v) (hos:w'.os=w.os) (htp:w'.tape=w.tape) (hout:w'.output=w.output) (hsz:w.heap.size<=w'.heap.size)
  (hval:(v=.slice none 0 0/\f=[]/\w'=w)\/∃b cap cur',v=.slice (some ⟨b,0,none⟩) f.length cap/\ow b=some (.tmp t 0)/\f.length<=cap/\cap<=maxLen/\(∀b',b'<w.heap.size->b'≠b->w'.heap[b']? =w.heap[b']?)/\w'.heap[b]? =some (.cells cur' e (0,0))/\cur'.size=cap/\cur'.toList.take f.length=f.map fun s=>Value.string ⟨s.toArray⟩):
  ∃Γ' ow',SR P E Γ' [] ow' w' a' (gJ n ts f e):=by
 subst hbs
 rcases hval with⟨rfl,rfl,rfl⟩|⟨b,cap,cur',rfl,hob,hfc,hcm,hkeep,hcur,hcs,htake⟩
 ·refine⟨Γ,fun _=>.none,{h with
   sz:=by simp[gJ,hn]
   tm:=fun i p u hp hu=>by
    rcases KG hp with rfl|⟨rfl,rfl⟩
    ·exact .undef u
    ·rw[hv]at hu;cases hu;exact .sliceNil
   bl:=rfl
   bx:=fun i b B hi=>by simp at hi
   inj:=fun i j b hi=>by simp at hi
   bn:=fun i b hi=>by simp at hi
   on:=fun b L hL=>by cases hL
   ot:=fun t' k e' he'=>by
    simp[gJ]at he'
    obtain⟨⟨rfl,rfl⟩,rfl⟩:=he'
    exact⟨_,_,hv,rfl,⟨0,[],World.ownsRow_nil _ _ _ _,fun b hb=>by simp[Value.ownBlock]at hb⟩,fun b hb=>by simp[Value.ownBlock]at hb⟩
   ob:=fun i j e' cs own b hB=>by simp[gJ]at hB}⟩
 ·have hlo:=(h.on b _ hob)
  have hblt:=hlo.1
  have hbe:E.w.heap.size<=b:=hlo.2.resolve_left (hE.nt rfl b)
  have hlen:cur'.toList.length=cap:=by simpa using hcs
  have hget:∀i,i<f.length->cur'[i]? =some (.string ⟨(f[i]!).toArray⟩):=by
   intro i hi
   have h1:(cur'.toList.take f.length)[i]? =(f.map fun s=>Value.string ⟨s.toArray⟩)[i]?:=by rw[htake]
   rw[vao hi]at h1
   simp only[va0,vaB]at h1
   rw[h1]
   simp[hi]
  have hle:E.Γ.Le E.w (Γ.put b f.length) w':=fun x m hx hm0=>by
   obtain⟨m',h1,h2,h3⟩:=h.step.le x m hx hm0
   have hne:x≠b:=fun hxb=>by have:=hE.low x m hx;omega
   refine⟨m',(Γ.put_other hne).trans h1,h2,fun o ho=>?_⟩
   rw[<-h3 o ho]
   exact cb (hkeep x (h.lt_of_ghost h1) hne) o
  refine⟨Γ.put b f.length,fun x=>if x=b then some (.tmp ts 0)else Option.none,{
   wi:=fun x m hx=>by
    by_cases hxb:x=b
    ·subst hxb;rw[Γ.put_same]at hx;cases hx;exact⟨cur',e,(0,0),hcur,by omega⟩
    ·rw[Γ.put_other hxb]at hx
     obtain⟨c,t',fr,h1,h2⟩:=h.wi x m hx
     exact⟨c,t',fr,(hkeep x (h.lt_of_ghost hx) hxb).trans h1,h2⟩
   sz:=by simp[gJ,hn]
   tm:=fun i p u hp hu=>by
    rcases KG hp with rfl|⟨rfl,rfl⟩
    ·exact .undef u
    ·rw [hv] at hu; cases hu
     have:=VR.slice (Γ:=Γ.put b f.length) (bs:=[]) (w:=w') (f.map cS) b 0 cap f.length 1 (fun i _=>.string ⟨(f[i]!).toArray⟩) (by decide) (by simpa using hfc) (Γ.put_same _ _) (by simp)
      (fun i x hx=>by rw[vaB]at hx;cases hf:f[i]? with
       |none=>rw[hf]at hx;cases hx
       |some s=>rw[hf]at hx;cases hx;rfl)
      (fun i x k q hx hq=>by
       rw[vaB]at hx
       cases hf:f[i]? with
       |none=>rw[hf]at hx;cases hx
       |some s=>
        rw[hf]at hx;cases hx
        have hil:=am hf
        have hk:k=0:=by have:=am hq;simp[cS]at this;exact this
        subst hk
        rw[show 0+i * 1+0=i by omega,cell_of_row w' b i cur' e _ hcur]
        exact hget i hil)
      (fun i x k q hx hq=>by
       rw[vaB]at hx
       cases hf:f[i]? with
       |none=>rw[hf]at hx;cases hx
       |some s=>
        rw[hf]at hx;cases hx
        have hk:k=0:=by have:=am hq;simp[cS]at this;exact this
        subst hk
        simp[cS]at hq;subst hq
        have:f[i]! =s:=by rw[List.getElem!_eq_getElem?_getD,hf];rfl
        rw[this]
        exact .str s)
     rw[vaL]at this
     exact this
   bl:=rfl
   bx:=fun i b B hi=>by simp at hi
   inj:=fun i j b hi=>by simp at hi
   bn:=fun i b hi=>by simp at hi
   on:=fun x L hL=>by
    split at hL
    ·rename_i hxb;subst hxb;exact⟨vaG hblt hsz,.inr hbe⟩
    ·cases hL
   ot:=fun t' k e' he'=>by
    simp[gJ]at he'
    obtain⟨⟨rfl,rfl⟩,rfl⟩:=he'
    refine⟨_,_,hv,rfl,⟨f.length,f.map fun s=>Value.string ⟨s.toArray⟩,⟨by simp[he],.inr ⟨b,cap,cur',rfl,vaO _,hcur,hfc,hcm,by rw[he];omega,by rw[he,vcD];exact htake⟩⟩,fun x hx=>?_⟩,fun x hx=>?_⟩
    ·simp[Value.ownBlock]at hx;subst hx;rw[he,vcD];exact Γ.put_same _ _
    ·simp[Value.ownBlock]at hx;subst hx;simp
   ob:=fun i j e' cs own b hB=>by simp[gJ]at hB
   gl:=fun g cs hg=>(hE.gl g cs (by rw[<-hE.ge];exact hg)).mono hle (.refl _)
   gc:=h.gc
   gx:=h.gx
   step:={
    os:=hos.trans h.step.os
    tape:=htp.trans h.step.tape
    output:=hout.trans h.step.output
    size:=vaI h.step.size hsz
    keep:=fun x hx hT=>by
     have hne:x≠b:=fun hxb=>by omega
     obtain⟨k1,k2⟩:=h.step.keep x hx hT
     exact⟨(hkeep x (vaG hx h.step.size) hne).trans k1,(Γ.put_other hne).trans k2⟩
    le:=hle}}⟩
theorem Hn(x:Option Addr)(n c:Nat):jy (.slice x n c) 0=some (.slice x n c):=rfl
theorem EP{g:FuncId}{e:TypeId}{f:List ag->List ag}{R:Option Addr->Nat->Nat->Value}(hI:Vi P g e (fun s=>Value.string ⟨s.toArray⟩) f R)(he:P.cellsOf e=1){ops:Array Oper}{rest:List Nat}{o1 o2:Oper}{n t d1 d2 ts:Nat}{l:List ag}{tys:Array TypeId}
  (hla:l.length<=ee) (ho1:ops[0]? =some o1) (ho2:ops[1]? =some o2)
  (h1:o1.op=.move (.tmp t)) (h1d:o1.dst=some d1) (h1g:o1.guard=none) (h2:o2.op=.call {callee:=.value (.func g),args:=#[.tmp d1],argTypes:=tys}) (h2d:o2.dst=some d2) (h2g:o2.guard=none)
  (hn:t<n/\d1<n/\d2<n/\t≠d1/\t≠d2/\d1≠d2) (hts:(ts=t/\(f l).length=l.length)\/(ts=d2/\∀x k c,R x k c=.slice x k c))
  {E:rh} {a:Act} {w:World} {Q:Exit->Act->World->Prop} (hE:D4 GE 0 E) (hR:Pm P E [] (gJ n t l e) a w)
  (hfin:∀a' w',a'.defers=a.defers->(∃Γ' ow',SR P E Γ' [] ow' w' a'.tmps (gJ n ts (f l) e))->wpOps P ops Q rest a' w'):wpOps P ops Q (0::1::rest) a w:=by
 obtain⟨n1,n2,n3,n4,n5,n6⟩:=hn
 obtain⟨Γ,bs,ow,h,hk⟩:=hR
 have hbs:bs=[]:=vas h.bl
 have hsz:a.tmps.size=n:=by rw[h.sz];simp[gJ]
 obtain⟨u,v,hu,hpv,hown,hob⟩:=h.ot t 0 e (by simp[gJ])
 have hvr:=h.tm t (sl cS l) u (by simp[gJ,n1]) hu
 have hu0:a.eval (.tmp t)=u:=mI hu
 rw[wpOps_cons]
 unfold wpOp
 rw[ho1]
 simp only
 rw[vak (by simp[Region.wanted,h1g])]
 refine .inl ?_
 unfold Oper.wp
 rw[show(execOp a.eval o1).run P w=.ok (.value u) w by simp[execOp,h1,hu0],Oper.upon_value]
 rw[wpOps_cons]
 unfold wpOp
 rw[ho2]
 simp only
 rw[vak (by simp[Region.wanted,h2g])]
 refine .inl ?_
 unfold Oper.wp
 have hu1:(a.put o1.dst u).eval (.tmp d1)=u:=by
  refine mI ?_
  rw[h1d]
  show(a.tmps.setIfInBounds d1 u)[d1]? =some u
  simp[hsz,n2]
 rw[show(execOp (a.put o1.dst u).eval o2).run P w=.ok (.enter g #[u]) w by
  simp only[execOp,h2]
  simp[resolve,Act.eval,Deferred.ofValue,invoke,hI.call]
  have hu2:(a.put o1.dst u).tmps.getD d1 undef=u:=hu1
  rw[vay]at hu2
  exact hu2,Oper.upon_enter]
 have hget:∀r:Value,(((a.put o1.dst u).put o2.dst r).tmps)[t]? =some u/\(((a.put o1.dst u).put o2.dst r).tmps)[d2]? =some r/\(((a.put o1.dst u).put o2.dst r).tmps).size=n:=by
  intro r
  rw[h1d,h2d]
  show((a.tmps.setIfInBounds d1 u).setIfInBounds d2 r)[t]? =some u/\((a.tmps.setIfInBounds d1 u).setIfInBounds d2 r)[d2]? =some r/\((a.tmps.setIfInBounds d1 u).setIfInBounds d2 r).size=n
  refine⟨?_,?_,by simp[hsz]⟩
  ·rw[vaU n5.symm,vaU n4.symm];exact hu
  ·rw[Array.getElem?_setIfInBounds_self_of_lt (by simp[hsz,n3])]
 have hdef:∀r:Value,((a.put o1.dst u).put o2.dst r).defers=a.defers:=fun r=>(cP _ _ _).trans (cP _ _ _)
 have fin:∀(r:Value) (w':World),(∃Γ' ow',SR P E Γ' [] ow' w' ((a.put o1.dst u).put o2.dst r).tmps (gJ n ts (f l) e))->wpOps P ops Q rest ((a.put o1.dst u).put o2.dst r) w':=
  fun r w' hS=>hfin _ _ (hdef r) hS
 have hlt:ts<n:=by rcases hts with⟨rfl,_⟩|⟨rfl,_⟩<;>assumption
 unfold sl at hvr
 generalize hes:l.map cS=es at hvr
 cases hvr with
 | sliceNil =>
  have hl:l=[]:=by cases l with
   |nil=>rfl
   |cons x l=>simp at hes
  subst hl
  refine(hI.none w).2.mono fun r w' hr=>?_
  obtain⟨rfl,rfl⟩:=hr
  refine fin _ _ (Gw h hE hbs he (t:=t) (hget _).2.2 hlt (v:=.slice none 0 0) ?_ rfl rfl rfl (vah _) (.inl ⟨rfl,(hI.none w').1,rfl⟩))
  rcases hts with⟨rfl,_⟩|⟨rfl,hR⟩
  ·exact(hget _).1
  ·rw[(hget _).2.1,hR]
 | sliceE x cap =>
  have hl:l=[]:=by cases l with
   |nil=>rfl
   |cons x l=>simp at hes
  subst hl
  rw[Hn]at hpv
  cases hpv
  obtain⟨k,xs,⟨hx1,hx2⟩,hx3⟩:=hown
  rcases hx2 with⟨hx2,_⟩|⟨g',cap',cur,hx2,_,hheap,hkc,hcm,hcs,htake⟩
  ·cases hx2
  ·cases hx2
   rw[he,vcD]at hcs
   have hcall:=hI.row w g' cap cur [] hheap hcs (vaO _) hcm hla (by simp)
   refine hcall.mono fun r w' hr=>?_
   obtain⟨rfl,q1,q2,q3,q4,q5,q6,cur',q7,q8,q9⟩:=hr
   refine fin _ _ (Gw h hE hbs he (t:=t) (hget _).2.2 hlt (v:=.slice (some ⟨g',0,none⟩) (f []).length cap) ?_ q2 q3 q4 q5 (.inr ⟨g',cap,cur',rfl,hob g' rfl,q1,hcm,q6,q7,q8,q9⟩))
   rcases hts with⟨rfl,hfl⟩|⟨rfl,hR⟩
   ·rw[(hget _).1,hfl];rfl
   ·rw[(hget _).2.1,hR]
 | slice _ b off cap m sz vals hz0 hcap hg hm hszs hc hv =>
  rw[Hn]at hpv
  cases hpv
  obtain⟨k,xs,⟨hx1,hx2⟩,hx3⟩:=hown
  rcases hx2 with⟨hx2,_⟩|⟨g',cap',cur,hx2,_,hheap,hkc,hcm,hcs,htake⟩
  ·cases hx2
  ·cases hx2
   rw[he,vcD]at hcs htake
   have hlen:es.length=l.length:=by rw[<-hes];simp
   have hrow:cur.toList.take l.length=l.map fun s=>Value.string ⟨s.toArray⟩:=by
    refine vbk fun i=>?_
    by_cases hi:i<l.length
    ·rw[vao hi]
     simp only[va0,vaB,vab hi,vaj]
     have hx:es[i]? =some (cS l[i]):=by rw[<-hes];simp[hi]
     have hs1:sz=1:=by have:=hszs i _ hx;simp[cS]at this;exact this.symm
     subst hs1
     have e1:=hc i _ 0 (.str l[i]) hx rfl
     have e2:=hv i _ 0 (.str l[i]) hx rfl
     rw[show 0+i * 1+0=i by omega,cell_of_row w b i cur e _ hheap]at e1
     rw[e1]
     generalize vals i 0=q at e2
     cases e2
     rfl
    ·rw[vau (by simp;omega),vau (by simp;omega)]
   have hcall:=hI.row w b cap cur l hheap hcs (by omega) hcm hla hrow
   rw[<-hlen]at hcall
   refine hcall.mono fun r w' hr=>?_
   obtain⟨rfl,q1,q2,q3,q4,q5,q6,cur',q7,q8,q9⟩:=hr
   refine fin _ _ (Gw h hE hbs he (t:=t) (hget _).2.2 hlt (v:=.slice (some ⟨b,0,none⟩) (f l).length cap) ?_ q2 q3 q4 q5 (.inr ⟨b,cap,cur',rfl,hob b rfl,q1,hcm,q6,q7,q8,q9⟩))
   rcases hts with⟨rfl,hfl⟩|⟨rfl,hR⟩
   ·rw[(hget _).1,hfl,hlen]
   ·rw[(hget _).2.1,hR]
section
variable{g:FuncId}{e:TypeId}{f:List ag->List ag}{R:Option Addr->Nat->Nat->Value}{id:Nat}{o1 o2 o3:Oper}{n t d1 d2 d3 ts:Nat}{l:List ag}{tys:Array TypeId}
theorem aT.inplace(hI:Vi P g e (fun s=>Value.string ⟨s.toArray⟩) f R)(he:P.cellsOf e=1)(hla:l.length<=ee)
  (h1:o1.op=.move (.tmp t)) (h1d:o1.dst=some d1) (h1g:o1.guard=none) (h2:o2.op=.call {callee:=.value (.func g),args:=#[.tmp d1],argTypes:=tys}) (h2d:o2.dst=some d2) (h2g:o2.guard=none)
  (hn:t<n/\d1<n/\d2<n/\t≠d1/\t≠d2/\d1≠d2) (hts:(ts=t/\(f l).length=l.length)\/(ts=d2/\∀x k c,R x k c=.slice x k c)):
  aT P GE 0 (.region id #[o1,o2] false) (EX .normal (gJ n ts (f l) e)) (gJ n t l e):=by
 intro ro E bs0 a w hE hb hR
 have hb0:bs0=[]:=vas hb
 subst hb0
 refine Dr (by simp[fD,h1,h2]) (by rintro⟨_,_,_,_,_,h,_⟩;cases h) ?_
 show wpOps P #[o1,o2] _ [0,1] a w
 refine EP (ts:=ts) hI he hla rfl rfl h1 h1d h1g h2 h2d h2g hn hts hE hR fun a' w' hd hS=>?_
 obtain⟨Γ',ow',hS⟩:=hS
 exact⟨hd,_,⟨Γ',[],ow',hS,fun i hi=>absurd hi (vaQ _)⟩,rfl,rfl⟩
theorem aT.inplace3(hI:Vi P g e (fun s=>Value.string ⟨s.toArray⟩) f R)(he:P.cellsOf e=1)(hla:l.length<=ee)
  (h1:o1.op=.move (.tmp t)) (h1d:o1.dst=some d1) (h1g:o1.guard=none) (h2:o2.op=.call {callee:=.value (.func g),args:=#[.tmp d1],argTypes:=tys}) (h2d:o2.dst=some d2) (h2g:o2.guard=none)
  (hn:t<n/\d1<n/\d2<n/\t≠d1/\t≠d2/\d1≠d2) (hR':∀x k c,R x k c=.slice x k c) (h3:o3.op=.assign (.tmp d2)) (h3d:o3.dst=some d3) (h3g:o3.guard=none) (hn3:d3<n) (hdd:d3≠d2):
  aT P GE 0 (.region id #[o1,o2,o3] false) (EX .normal (gJ n d3 (f l) e)) (gJ n t l e):=by
 intro ro E bs0 a w hE hb hR
 have hb0:bs0=[]:=vas hb
 subst hb0
 refine Dr (by simp[fD,h1,h2,h3]) (by rintro⟨_,_,_,_,_,h,_⟩;cases h) ?_
 show wpOps P #[o1,o2,o3] _ [0,1,2] a w
 refine EP (ts:=d2) hI he hla rfl rfl h1 h1d h1g h2 h2d h2g hn (.inr ⟨rfl,hR'⟩) hE hR fun a' w' hd hS=>?_
 obtain⟨Γ',ow',hS⟩:=hS
 rw[wpOps_cons]
 unfold wpOp
 rw[show(#[o1,o2,o3]:Array Oper)[2]? =some o3 from rfl]
 simp only
 rw[vak (by simp[Region.wanted,h3g])]
 refine .inl ?_
 refine Oper.wp_mono (fun a2 w2 hA=>?_) (yB (id:=0) (bs:=[]) (K:=fun st=>sC P 0 st (gJ n d3 (f l) e)) hS (.inl h3) h3d (by simpa[gJ]using hn3) ?_ _)
 ·obtain⟨hd2,Γ2,bs2,ow2,st2,hS2,hW,hbs2⟩:=hA
  have:bs2=[]:=by
   rcases hbs2 with rfl|⟨hm,_⟩
   ·rfl
   ·simp[h3,aH]at hm
  subst this
  have hrel:=hW E [] a2 w2 rfl ⟨Γ2,[],ow2,hS2,fun i hi=>absurd hi (vaQ _)⟩
  exact⟨hd2.trans hd,_,hrel,rfl,rfl⟩
 ·have hg:(gJ n d2 (f l) e).tmps.getD d2 .undef=sl cS (f l):=by
   simp[gJ,vac,hn.2.2.1]
  rw[hg]
  refine sC.trans (sC.forget (gJ n d3 (f l) e).tmps [] [((d3,0),e)] ?_) ?_
  ·intro x hx
   simp at hx
   subst hx
   simp[gJ,iq,cd,Ne.symm hdd]
  ·have hfg:Iu ((gJ n d2 (f l) e).tmps.set d3 (sl cS (f l))) (gJ n d3 (f l) e).tmps=(gJ n d3 (f l) e).tmps:=by
    refine VY (by simp[gJ]) fun i q hq=>?_
    rcases KG hq with rfl|⟨rfl,rfl⟩
    ·exact .inl rfl
    ·exact .inr (by simp[gJ,hn3])
   show sC P 0 ⟨Iu ((gJ n d2 (f l) e).tmps.set d3 (sl cS (f l))) (gJ n d3 (f l) e).tmps,Oq [] [],_⟩ _
   rw[hfg]
   exact .refl _
end
end
open Go Go.RowKit Go.WideShapes Go.ChangeShapes Go.ChangeAt
def yi(W:World):ba:=fun b=>match W.heap[b]? with
 |some (.cells c _ _)=>some c.size
 |_=>none
theorem Mv{W:World}{b:Nat}{c:Array Value}{t:TypeId}{fr:Nat×Nat}(h:W.heap[b]? =some (.cells c t fr)):yi W b=some c.size:=by unfold yi;rw[h]
def qbU(W:World)(x:Nat×List PVal):Prop:=ig 0 x.2/\∃c t fr,W.heap[x.1]? =some (.cells c t fr)/\c.size=x.2.length/\∀(i:Nat) p v,x.2[i]? =some p->c[i]? =some v->VR (yi W) [] W p v
section
variable{P:Program}{GE:List (Nat×List PVal)}
theorem Q1{k:FuncId}{pargs:List PVal}{args:Array Value}{W:World}{b:Bool}(hC:C P GE k pargs [] [] (.bool b) [] [])(hl:args.size=pargs.length)
  (hv:∀(i:Nat) p v,pargs[i]? =some p->args[i]? =some v->VR (yi W) [] W p v) (hG:∀x∈GE,qbU W x):Calls P k args W fun e W'=>e=.returned (.bool b)/\Below W.heap.size W W':=by
 have hS:SR P ⟨GE,yi W,W,bY [] fun _=>none⟩ (yi W) [] (fun _=>none) W args ⟨pargs,[],[]⟩:={
  wi:=fun b n hb=>by
   unfold yi at hb
   split at hb
   ·rename_i c t fr hh;cases hb;exact⟨c,t,fr,hh,vah _⟩
   ·cases hb
  sz:=hl
  tm:=hv
  bl:=rfl
  bx:=fun i b B hi=>by simp at hi
  inj:=fun i j b hi=>by simp at hi
  bn:=fun i b hi=>by simp at hi
  on:=fun b L hL=>by cases hL
  ot:=fun t k e he=>by simp at he
  ob:=fun i j e cs own b hB=>by simp at hB
  gl:=fun g cs hg=>by
   obtain⟨_,c,t,fr,h1,h2,h3⟩:=hG _ hg
   refine .eptr cs g 0 c.size (fun k=>c.getD k undef) (Mv h1) (by simp only at h2;omega) (fun k p hp=>?_) (fun k p hp=>?_)
   ·have hk:k<c.size:=by have:=am hp;simp only at h2;omega
    rw[vaK,cell_of_row W g k c t fr h1]
    simp[vay,hk]
   ·have hk:k<c.size:=by have:=am hp;simp only at h2;omega
    exact h3 k p _ hp (by simp[vay,hk])
  gc:=fun g cs hg=>(hG _ hg).1
  gx:=fun g cs hg=>by
   obtain⟨_,c,t,fr,h1,h2,_⟩:=hG _ hg
   refine⟨(vaq.1 h1).1,fun hT=>?_,c,t,fr,h1,h2⟩
   rcases hT with⟨i,hi⟩|hT
   ·simp at hi
   ·exact hT rfl
  step:=.refl _ _ _ _}
 refine(hC.2 (yi W) [] (fun _=>none) W args hS).mono fun e W' he=>?_
 obtain⟨v,Γ',ow',rfl,hS'⟩:=he
 have hv':=hS'.tm 0 (.bool b) v rfl rfl
 cases hv'
 refine⟨rfl,hS'.step.os,hS'.step.tape,hS'.step.output,hS'.step.size,fun k hk=>(hS'.step.keep k hk fun hT=>?_).1⟩
 rcases hT with⟨i,hi⟩|hT
 ·simp at hi
 ·exact hT rfl
end
section
variable{H:Type}{enc:TypeId×Value->H}{P:Program}{w:World}{base:Nat}{spare:Nat->Bool}{held:Bool}{t:TypeId}{fuel:Nat}
theorem Mj{f:Func}{s:ChangeSpec}{apart fresh handsOn again:Bool}{W W':World}{args:Array Value}{v:Value}{ds gs:List (DataW H)}{before pa pv:List MemPlace}
    (hW:DataW.Whole enc P f.params.toList s.vars apart W args.toList ds gs before)
    (hres:∀(b:Nat) (sp:Nat->Bool) (hd:Bool),DataW.TrodAll enc P W' b sp hd f.resultTypes.toList (v.resultList f.resultTypes.size) (s.fn H (ds++gs)).results [])
    (hargs:∀sp:Nat->Bool,(∀p∈before,sp p.block=true)->DataW.TrodAll enc P W' 0 sp true f.params.toList args.toList (s.fn H (ds++gs)).args pa)
    (hvars:∀sp:Nat->Bool,(∀p∈before,sp p.block=true)->DataW.TrodVars enc P W' sp s.vars (s.fn H (ds++gs)).vars pv)
    (hps:before=pa++pv) (hb:Below W.heap.size W W')
    (hok:∀(j:Nat) (t:TypeId) (r:Value),f.resultTypes[j]? =some t->(v.resultList f.resultTypes.size)[j]? =some r->Value.okWide P W' .any 0 t r):
    s.post enc P f apart fresh handsOn again W args v W':=by
  have hlt:∀p∈before,p.block<W.heap.size:=fun p hp=>hW.lt p hp
  have hold:∀p∈before,(fun b=>decide (b<W.heap.size)) p.block=true:=fun p hp=>by simpa using hlt p hp
  refine⟨ds,gs,before,[],pa,pv,hW,hres _ _ _,hargs _ hold,hvars _ hold,World.keptBut_mono (fun p hp=>⟨hp,?_⟩) (hb.frame (·∈before)),fun _=>?_⟩
  · rw [hps,vaE] at hp
    exact Or.inr hp
  · obtain ⟨_,_,_,_,_,hz,hn⟩:=hW
    refine⟨hok,_,_,([]++pa)++pv,⟨[]++pa,pv,trodAll_append (hargs _ (fun _ _=>rfl)) (hres _ _ _),hvars _ (fun _ _=>rfl),rfl,?_,?_⟩,?_⟩
    · intro b off hp
      have hin:MemPlace.cell b off∈before:=by rw[hps];simpa using hp
      rw[hb.frozen (hlt _ hin)]
      exact hz b off hin
    · intro ha
      have:=hn ha
      rw[hps]at this
      simpa using this
    · intro p hp _
      rw[hps]
      simpa using hp
theorem My(hl:laidOutB P=true){W W':World}(hb:Below W.heap.size W W'){sp:Nat->Bool}:∀{ts:List TypeId} {vs:List Value} {ds:List (DataW H)} {ps:List MemPlace},(∀t∈ts,P.readableRec t=true/\t<P.types.size)->
  DataW.TrodAll enc P W 0 (fun _=>true) true ts vs ds ps->(∀p∈ps,p.block<W.heap.size)->(∀p∈ps,sp p.block=true)->DataW.TrodAll enc P W' 0 sp true ts vs ds ps
 |[],[],[],_,_,h,_,_=>h
 | t :: _,_ :: _,_ :: _,_,ht,⟨p,q,h1,h2,e⟩,hlt,hs =>
  ⟨p,q,WideElems.Trod_stays hl (ht t (by simp)).1 (ht t (by simp)).2 h1 (fun x hx=>hb.same (hlt x (by rw[e];exact vaR _ hx))) (fun x hx=>hs x (by rw[e];exact vaR _ hx)),
   My hl hb (fun t ht'=>ht t (by simp[ht'])) h2 (fun x hx=>hlt x (by rw[e];exact vba _ hx)) (fun x hx=>hs x (by rw[e];exact vba _ hx)),e⟩
theorem Wg{f:Func}{s:ChangeSpec}{W W':World}{args:Array Value}{ds gs:List (DataW H)}{before:List MemPlace}(hl:laidOutB P=true)(hr:f.resultTypes=#[t])(hbt:P.underlying t=some .bool)(hsv:s.vars=[])
  (hfn:(s.fn H (ds++gs)).results=[.lit (.bool true)]/\(s.fn H (ds++gs)).args=ds/\(s.fn H (ds++gs)).vars=[]) (hts:∀t∈f.params.toList,P.readableRec t=true/\t<P.types.size)
  (hW:DataW.Whole enc P f.params.toList s.vars false W args.toList ds gs before) (hb:Below W.heap.size W W'):s.post enc P f false true false false W args (.bool true) W':=by
 have hW':=hW
 obtain⟨p,q,hA,hV,rfl,_,_⟩:=hW
 rw[hsv]at hV
 obtain⟨rfl,rfl⟩:=trodVars_none hV
 have hlt:∀x∈p,x.block<W.heap.size:=fun x hx=>hW'.lt x (by simpa using hx)
 refine Mj (pa:=p) (pv:=[]) hW' (fun b sp hd=>?_) (fun sp hs=>?_) (fun sp _=>?_) rfl hb (fun j t' r hj hv=>?_)
 ·rw[hr,hfn.1]
  exact trodAll_cons_mk (shut_bool hbt _) trodAll_mk0
 ·rw[hfn.2.1]
  exact My hl hb hts hA hlt (fun x hx=>hs x (by simpa using hx))
 ·rw[hsv,hfn.2.2];rfl
 ·exact ok_one hr rfl (okWide_bool_mk hbt _) j t' r hj hv
theorem PE(a:Addr)(i:Nat)(h:a.spot=none):a.add i=⟨a.block,a.off+i,none⟩:=by
 obtain⟨b,o,sp⟩:=a
 simp only at h
 subst h
 unfold Addr.add
 split
 ·rename_i hi;subst hi;rfl
 ·rfl
end
section
variable{P:Program}{W:World}
theorem Qa:∀{laid:List (String×DataW Unit)} {ps:List MemPlace} {name:String} {d:DataW Unit},DataW.LaidVars P W laid ps->(name,d)∈laid->
  ∃g t cs fuel p,P.globalNamed name=some g/\(P.globals[g]?).map (·.type)=some t/\W.var? P name=some cs/\DataW.trod (fun _=>()) P W 0 (fun _=>true) false fuel t cs.toList=some (d,p)
 |[],_,_,_,_,hm=>by cases hm
 |(n,d')::r,ps,name,d,⟨g,t,cs,fuel,p,q,h1,h2,h3,h4,h5,_⟩,hm=>by
  cases hm with
  |head=>exact⟨g,t,cs,fuel,p,h1,h2,h3,h4⟩
  |tail _ hm=>exact Qa h5 hm
theorem Xe{name:String}{g:Nat}{cs:Array Value}(hg:P.globalNamed name=some g)(h:W.var? P name=some cs):∃t fr,W.heap[g]? =some (.cells cs t fr):=by
 unfold World.var? at h
 rw[hg]at h
 simp only[vaa]at h
 split at h
 ·rename_i c t fr hh
  cases h
  exact⟨t,fr,hh⟩
 ·cases h
theorem ZR{x:Nat}{pv:List PVal}{cs:Array Value}{t:TypeId}{fr:Nat×Nat}(hh:W.heap[x]? =some (.cells cs t fr))(hcl:ig 0 pv)(hs:cs.size=pv.length)(hv:∀(i:Nat) p v,pv[i]? =some p->cs[i]? =some v->VR (yi W) [] W p v):qbU W (x,pv):=
 ⟨hcl,cs,t,fr,hh,hs,hv⟩
theorem Kj{laid:List (String×DataW Unit)}{name:String}{d:DataW Unit}{g:Nat}{t e:TypeId}{n:Nat}{k:IntKind}{zs:List Int}(hL:laidMet P laid W)(hm:(name,d)∈laid)(hd:d=Lib.tabData k zs)
  (hg:P.globalNamed name=some g) (hty:(P.globals[g]?).map (·.type)=some t) (ht:P.underlying t=some (.array n e)) (he:P.underlying e=some (.int k)) (hce:P.cellsOf e=1) (hct:P.cellsOf t=n):qbU W (g,zs.map (PVal.int k)):=by
 obtain⟨ps,hV,_⟩:=hL
 obtain⟨g',t',cs,fuel,p,h1,h2,h3,h4⟩:=Qa hV hm
 obtain rfl:=vbB (hg.symm.trans h1)
 obtain rfl:=vbB (hty.symm.trans h2)
 subst hd
 have hc:=Lib.cells_of_tab ht he hce hct h4
 obtain⟨ty,fr,hh⟩:=Xe hg h3
 refine ZR hh (VK fun q hq=>?_) (by simpa using vbr List.length hc) (fun i q v hq hv=>?_)
 ·obtain⟨z,_,rfl⟩:=vap.1 hq
  simp[PVal.cl]
 ·rw[<-va0,hc]at hv
  simp only[vaB,vaX]at hq hv
  obtain⟨z,hz,rfl⟩:=hq
  obtain⟨z',hz',rfl⟩:=hv
  cases hz.symm.trans hz'
  exact .int _ _
end
def qbs(w:World)(l:List (Nat×Array Value)):World:={w with heap:=l.foldl (fun h x=>h.modify x.1 fun|.cells _ t fr=>.cells x.2 t fr|o=>o) w.heap}
def qem:PVal->Value
 |.int k n=>.int k n
 |.str s=>.string ⟨s.toArray⟩
 |.bool b=>.bool b
 |_=>undef
def qab(l:List (Nat×List PVal)):List (Nat×Array Value):=l.map fun x=>(x.1,(x.2.map qem).toArray)
set_option linter.unusedVariables false
mutual
def pm:PVal->Nat
 |.str s=>s.length+1
 |.slice es=>bM es+1
 |.int _ _=>1
 |.bool _=>1
 |_=>0
def fx:List PVal->Nat
 |[]=>0
 |p::l=>pm p+fx l
def bM:List (List PVal)->Nat
 |[]=>0
 |x::r=>fx x+bM r
end
theorem dT:∀(a b:List PVal),fx (a++b)=fx a+fx b
 |[],b=>by simp[fx]
 |p::a,b=>by simp only[vaF,fx,dT a b];omega
def qcs(P:Program)(S:TypeId->List PVal->Prop):List Field->List PVal->Prop
 |[],l=>l=[]
 |f::fs,l=>∃a b,l=a++b/\a.length=P.cellsOf f.type/\S f.type a/\qcs P S fs b
def Sh(P:Program):Nat->TypeId->List PVal->Prop
 |0,_,_=>False
 |n+1,t,l=>match P.underlying t with
  |some .bool=>∃b,l=[.bool b]
  |some (.int k)=>∃i,l=[.int k i]/\(Lit.int k i).wf=true
  |some .string=>∃s:ag,l=[.str s]/\s.length<=maxLen
  |some (.slice e)=>∃es,l=[.slice es]/\es.length<=maxLen/\∀x∈es,Sh P n e x
  |some (.struct fs)=>qcs P (Sh P n) fs.toList l
  |_=>True
def BJ(P:Program):Nat->List Field->Nat->Bool
 |o,[],n=>decide (o=n)
 |o,f::fs,n=>decide (f.offset=o)&&BJ P (o+P.cellsOf f.type) fs n
theorem Tb{α:Type}{Q:Nat->α->Prop}:∀{n:Nat},(∀i,i<n->∃x,Q i x)->∃l:List α,l.length=n/\∀(i:Nat) x,l[i]? =some x->Q i x
 |0,_=>⟨[],rfl,fun i x h=>by simp at h⟩
 | n + 1,h => by
  obtain⟨l,hl,hq⟩:=Tb (n:=n) fun i hi=>h i (by omega)
  obtain⟨x,hx⟩:=h n (by omega)
  refine⟨l++[x],by simp[hl],fun i y hy=>?_⟩
  by_cases hi:i<l.length
  ·rw[vad hi]at hy;exact hq i y hy
  ·have hlt:=am hy
   simp at hlt
   have:i=l.length:=by omega
   subst this
   rw[vaf (vah _)]at hy
   simp at hy;subst hy;rw[hl];exact hx
theorem SM{H:Type}:∀{es:List (List PVal)} {ds:List (DataW H)},es.length=ds.length->(∀(i:Nat) x d,es[i]? =some x->ds[i]? =some d->fx x<=Rows.uptoBulk d)->bM es<=Rows.uptoBulkAll ds
 |[],[],_,_=>by simp[bM,Rows.uptoBulkAll]
 |x::es,d::ds,hl,h=>by
  have h1:=h 0 x d rfl rfl
  have h2:=SM (es:=es) (ds:=ds) (by simpa using hl) fun i x d hx hd=>h (i+1) x d (by simpa using hx) (by simpa using hd)
  simp only[bM,Rows.uptoBulkAll];omega
section
variable{H:Type}{enc:TypeId×Value->H}{P:Program}{W:World}{base:Nat}{sp:Nat->Bool}{held:Bool}
def qaO(P:Program)(W:World)(n:Nat)(t:TypeId)(cs:List Value)(b:Nat):Prop:=
 ∃l:List PVal,l.length=cs.length/\(∀(i:Nat) p v,l[i]? =some p->cs[i]? =some v->VR (yi W) [] W p v)/\Sh P n t l/\fx l<=b
theorem qaO.one{n:Nat}{t:TypeId}{p:PVal}{v:Value}{b:Nat}(h:VR (yi W) [] W p v)(hs:Sh P n t [p])(hb:pm p<=b):qaO P W n t [v] b:=
 ⟨[p],rfl,fun i q u hq hu=>by
  cases i with
  |zero=>simp at hq hu;subst hq;subst hu;exact h
  |succ i=>simp at hq,hs,by simp only[fx];omega⟩
theorem MS{L:List TypeId}{fuel:Nat}(ih:∀(t:TypeId),t∈L->∀(cs:List Value) (d:DataW H) (p:List MemPlace),DataW.trod enc P W base sp held fuel t cs=some (d,p)->qaO P W fuel t cs (Rows.uptoBulk d)){cs:List Value}:∀{fs:List Field} {o n:Nat} {xs:List (DataW H×List MemPlace)},(∀f∈fs,f.type∈L)->n<=cs.length->BJ P o fs n=true->fs.mapM (fun f=>DataW.trod enc P W base sp held fuel f.type ((cs.drop f.offset).take (P.cellsOf f.type)))=some xs->
   o<=n/\∃l:List PVal,l.length=n - o/\(∀(i:Nat) p v,l[i]? =some p->cs[o+i]? =some v->VR (yi W) [] W p v)/\qcs P (Sh P fuel) fs l/\fx l<=Rows.uptoBulkAll (xs.map (·.1))
 |[],o,n,xs,_,hn,hc,h=>by
  unfold BJ at hc
  have:o=n:=by simpa using hc
  subst this
  exact⟨vah _,[],by simp,fun i p v hp=>by simp at hp,rfl,by simp[fx]⟩
 | f :: fs,o,n,xs,hL,hn,hc,h => by
  unfold BJ at hc
  simp only[vag,vam]at hc
  obtain⟨hfo,hc⟩:=hc
  simp only[vbR,Option.bind_eq_bind,vbl,Option.pure_def,vav]at h
  obtain⟨⟨d,p⟩,hd,xs',hxs,rfl⟩:=h
  obtain⟨ho,l2,k1,k2,k3,k4⟩:=MS ih (fun g hg=>hL g (vaZ _ hg)) hn hc hxs
  obtain⟨l1,q1,q2,q3,q4⟩:=ih _ (hL f (by simp)) _ _ _ hd
  have hl1:l1.length=P.cellsOf f.type:=by rw[q1,vaM,vaV,hfo];omega
  refine⟨by omega,l1++l2,by simp[hl1,k1];omega,fun i q v hq hv=>?_,⟨l1,l2,rfl,hl1,q3,k3⟩,by rw[dT];simp only[vax,Rows.uptoBulkAll];omega⟩
  by_cases hi:i<l1.length
  ·rw[vad hi]at hq
   refine q2 i q v hq ?_
   rw[vao (by omega),vbf,hfo]
   exact hv
  ·rw[vaf (by omega)]at hq
   refine k2 (i - l1.length) q v hq ?_
   rw[<-hv,hl1]
   congr 1
   rw[hl1]at hi
   omega
theorem Yy{fuel:Nat}{t:TypeId}{cs:List Value}{x:DataW H×List MemPlace}(ht:P.underlying t=some .bool)(h:DataW.trod enc P W base sp held (fuel+1) t cs=some x):∃b,cs=[.bool b]/\x.1=.lit (.bool b):=by
 unfold DataW.trod at h
 rw[ht]at h
 split at h<;>simp_all
 exact h▸rfl
theorem qac{fuel:Nat}{t:TypeId}{cs:List Value}{k:IntKind}{x:DataW H×List MemPlace}(ht:P.underlying t=some (.int k))(h:DataW.trod enc P W base sp held (fuel+1) t cs=some x):∃n,cs=[.int k n]/\(Lit.int k n).wf=true/\x.1=.lit (.int k n):=by
 unfold DataW.trod at h
 rw[ht]at h
 cases cs with
 |nil=>simp at h
 | cons v r =>
  cases r with
  |cons _ _=>simp at h
  |nil=>
   cases v<;>simp at h
   obtain⟨⟨rfl,h1⟩,rfl⟩:=h
   exact⟨_,rfl,h1,rfl⟩
theorem U8{fuel:Nat}{t:TypeId}{cs:List Value}{x:DataW H×List MemPlace}(ht:P.underlying t=some .string)(h:DataW.trod enc P W base sp held (fuel+1) t cs=some x):∃s:ByteArray,cs=[.string s]/\s.size<=maxLen/\x.1=.lit (.string s.data.toList):=by
 unfold DataW.trod at h
 rw[ht]at h
 split at h<;>simp_all
 exact h.2▸rfl
theorem W9{fuel:Nat}{t e:TypeId}{cs:List Value}{x:DataW H×List MemPlace}(ht:P.underlying t=some (.slice e))(h:DataW.trod enc P W base sp held (fuel+1) t cs=some x):(cs=[.slice none 0 0]/\x.1=.nil)\/∃a len cap elems rest,cs=[.slice (some a) len cap]/\len<=cap/\cap<=maxLen/\x.1=.slice (elems.map (·.1)) rest/\
   (List.range len).mapM (fun i=>(W.cells? base (a.add (i * P.cellsOf e)) (P.cellsOf e)).bind (DataW.trod enc P W base sp held fuel e))=some elems:=by
 unfold DataW.trod at h
 rw[ht]at h
 cases cs with
 |nil=>simp at h
 | cons v r =>
  cases r with
  |cons _ _=>simp at h
  | nil =>
   cases v<;>try (simp at h;done)
   rename_i ad len cap
   cases ad with
   |none=>
    left
    match len,cap,h with
    |0,0,h=>simp at h;exact⟨rfl,h▸rfl⟩
    |0,c+1,h=>simp at h
    |n+1,c,h=>simp at h
   | some a =>
    right
    simp only at h
    split at h
    ·rename_i hc
     obtain⟨elems,h1,h2⟩:=vbl.1 h
     obtain⟨rest,h3,h4⟩:=vaX.1 h2
     exact⟨a,len,cap,elems,rest.map (·.1),rfl,hc.2.1,hc.2.2,by rw[<-h4],h1⟩
    ·cases h
theorem U9{fuel:Nat}{t:TypeId}{cs:List Value}{fs:Array Field}{x:DataW H×List MemPlace}(ht:P.underlying t=some (.struct fs))(h:DataW.trod enc P W base sp held (fuel+1) t cs=some x):cs.length=P.cellsOf t/\∃xs,fs.toList.mapM (fun f=>DataW.trod enc P W base sp held fuel f.type ((cs.drop f.offset).take (P.cellsOf f.type)))=some xs/\x.1=.agg (xs.map (·.1)):=by
 unfold DataW.trod at h
 rw[ht]at h
 simp only at h
 split at h
 ·rename_i hl
  obtain⟨xs,h1,h2⟩:=vaX.1 h
  exact⟨hl,xs,h1,by rw[<-h2]⟩
 ·cases h
theorem PF(a:Addr):a.add 0=a:=by unfold Addr.add;simp
theorem U3{w:World}{a:Addr}{v:Value}(h:w.cell? a=some v):a.spot=none:=by
 unfold World.cell? at h
 split at h
 ·split at h
  ·cases h
  ·rename_i hs;simpa using hs
 ·cases h
structure TO(P:Program)(L:List TypeId):Prop where
 st:∀t∈L,∀fs,P.underlying t=some (.struct fs)->BJ P 0 fs.toList (P.cellsOf t)=true/\∀f∈fs.toList,f.type∈L
 sl:∀t∈L,∀e,P.underlying t=some (.slice e)->0<P.cellsOf e/\e∈L
def V0(P:Program)(L:List TypeId)(t:TypeId):Bool:=match P.underlying t with
 |some (.struct fs)=>BJ P 0 fs.toList (P.cellsOf t)&&fs.toList.all fun f=>L.contains f.type
 |some (.slice e)=>decide (0<P.cellsOf e)&&L.contains e
 |_=>true
theorem XS{L:List TypeId}(h:L.all (V0 P L)=true):TO P L:=by
 refine⟨fun t ht fs hu=>?_,fun t ht e hu=>?_⟩
 ·have:=vaw.1 h t ht
  unfold V0 at this
  rw[hu]at this
  simp only[vag,vaw,vbz]at this
  exact this
 ·have:=vaw.1 h t ht
  unfold V0 at this
  rw[hu]at this
  simpa using this
theorem RV{L:List TypeId}(hF:TO P L):∀(fuel:Nat) (t:TypeId),t∈L->∀(cs:List Value) (d:DataW H) (p:List MemPlace),DataW.trod enc P W base sp held fuel t cs=some (d,p)->qaO P W fuel t cs (Rows.uptoBulk d)
 |0,t,_,cs,d,p,h=>by simp[DataW.trod]at h
 | fuel + 1,t,htL,cs,d,p,h => by
  have ih:=RV hF fuel
  have other:(∀l,Sh P (fuel+1) t l)->qaO P W (fuel+1) t cs (Rows.uptoBulk d):=fun hs=>by
   refine⟨cs.map .val,by simp,fun i q v hq hv=>?_,hs _,?_⟩
   ·simp only[vaB,hv,vaj,vav]at hq
    subst hq;exact .val v
   ·have:∀cs:List Value,fx (cs.map .val)=0:=by
     intro cs
     induction cs with
     |nil=>rfl
     |cons c cs ih=>simp only[vax,fx,ih,pm]
    rw[this];exact vaO _
  cases hu:P.underlying t with
  |none=>exact other fun l=>by unfold Sh;rw[hu];trivial
  | some u =>
   cases u with
   |bool=>
    obtain⟨b,rfl,hx⟩:=Yy hu h
    simp only at hx;subst hx
    exact .one (.bool b) (by unfold Sh;rw[hu];exact⟨b,rfl⟩) (by simp[pm,Rows.uptoBulk])
   |int k=>
    obtain⟨n,rfl,hw,hx⟩:=qac hu h
    simp only at hx;subst hx
    exact .one (.int k n) (by unfold Sh;rw[hu];exact⟨n,rfl,hw⟩) (by simp[pm,Rows.uptoBulk])
   |string=>
    obtain⟨s,rfl,hl,hx⟩:=U8 hu h
    simp only at hx;subst hx
    exact .one (.str s.data.toList) (by unfold Sh;rw[hu];exact⟨s.data.toList,rfl,by rw[Array.length_toList];exact hl⟩) (by simp[pm,Rows.uptoBulk])
   |struct fs=>
    obtain⟨hl,xs,hxs,hx⟩:=U9 hu h
    simp only at hx;subst hx
    obtain⟨_,l,k1,k2,k3,k4⟩:=MS ih (hF.st t htL fs hu).2 (by omega) (hF.st t htL fs hu).1 hxs
    refine⟨l,by omega,fun i q v hq hv=>k2 i q v hq (by rw[vaK];exact hv),by unfold Sh;rw[hu];exact k3,by simp only[Rows.uptoBulk];omega⟩
   | slice e =>
    obtain⟨hz,heL⟩:=hF.sl t htL e hu
    rcases W9 hu h with⟨rfl,hx⟩|⟨a,len,cap,elems,rest,rfl,hlc,hcm,hx,hm⟩
    ·simp only at hx;subst hx
     exact .one .sliceNil (by unfold Sh;rw[hu];exact⟨[],rfl,by simp,by simp⟩) (by simp[pm,bM,Rows.uptoBulk])
    simp only at hx;subst hx
    have hel:elems.length=len:=by simpa using Lib.mapM_length hm
    have hat:∀i,i<len->∃x:List PVal,∃ci y,elems[i]? =some y/\W.cells? base (a.add (i * P.cellsOf e)) (P.cellsOf e)=some ci/\x.length=ci.length/\(∀(k:Nat) q v,x[k]? =some q->ci[k]? =some v->VR (yi W) [] W q v)/\Sh P fuel e x/\fx x<=Rows.uptoBulk y.1:=fun i hi=>by
     obtain⟨y,hy,hb⟩:=Lib.mapM_at hm i i (by simp[hi])
     obtain⟨ci,hci,hd⟩:=vbl.1 hb
     obtain⟨x,k1,k2,k3,k4⟩:=ih e heL ci y.1 y.2 hd
     exact⟨x,ci,y,hy,hci,k1,k2,k3,k4⟩
    obtain⟨es,hes,hq⟩:=Tb hat
    have hbulk:bM es<=Rows.uptoBulkAll (elems.map (·.1)):=SM (by simp[hes,hel]) fun i x d hx hd=>by
     obtain⟨ci,y,hy,_,_,_,_,hle⟩:=hq i x hx
     simp only[vaB,hy,vaj,vav]at hd
     subst hd;exact hle
    have hsh:Sh P (fuel+1) t [.slice es]:=by
     unfold Sh;rw[hu]
     refine⟨es,rfl,by omega,fun x hx=>?_⟩
     obtain⟨i,hi⟩:=vbg.1 hx
     obtain⟨_,_,_,_,_,_,hs,_⟩:=hq i x hi
     exact hs
    refine .one ?_ hsh (by simp only[pm,Rows.uptoBulk];omega)
    by_cases h0:len=0
    ·subst h0
     obtain rfl:es=[]:=vas hes
     exact .sliceE a cap
    ·have hcell:∀i,i<len->∀k,k<P.cellsOf e->∃(x:List PVal) (ci:List Value),es[i]? =some x/\W.cell? ((a.add (i * P.cellsOf e)).add k)=ci[k]?/\ci.length=P.cellsOf e/\x.length=ci.length/\(∀(k:Nat) q v,x[k]? =some q->ci[k]? =some v->VR (yi W) [] W q v):=fun i hi k hk=>by
      have hx:es[i]? =some es[i]:=vab (by omega)
      obtain⟨ci,y,hy,hc,hl,hv,_,_⟩:=hq i _ hx
      obtain⟨_,hcl,hcc⟩:=World.cells?_some hc
      exact⟨_,ci,hx,hcc k hk,hcl,hl,hv⟩
     have hspot:a.spot=none:=by
      obtain⟨x,ci,_,h2,h3,_,_⟩:=hcell 0 (by omega) 0 hz
      rw[vct,PF,PF,vab (by omega)]at h2
      exact U3 h2
     obtain⟨ab,ao,asp⟩:=a
     simp only at hspot;subst hspot
     have hadd:∀i k,((⟨ab,ao,none⟩:Addr).add (i * P.cellsOf e)).add k=⟨ab,ao+i * P.cellsOf e+k,none⟩:=fun i k=>by
      rw[PE ⟨ab,ao,none⟩ _ rfl,PE _ _ rfl]
     have hcl:∀(i:Nat) x (k:Nat) q,es[i]? =some x->x[k]? =some q->∃v,W.cell? ⟨ab,ao+i * P.cellsOf e+k,none⟩=some v/\VR (yi W) [] W q v:=fun i x k q hx hqk=>by
      have hi:i<len:=by have:=am hx;omega
      obtain⟨ci,y,hy,hc,hl,hv,_,_⟩:=hq i x hx
      obtain⟨_,hcl,hcc⟩:=World.cells?_some hc
      have hk:k<P.cellsOf e:=by have:=am hqk;omega
      have hck:ci[k]? =some ci[k]:=vab (by omega)
      refine⟨ci[k],?_,hv k q _ hqk hck⟩
      rw[<-hadd,hcc k hk,hck]
     have hlen:∀(i:Nat) x,es[i]? =some x->x.length=P.cellsOf e:=fun i x hx=>by
      obtain⟨ci,y,hy,hc,hl,_,_,_⟩:=hq i x hx
      exact hl.trans (World.cells?_some hc).2.1
     obtain⟨c,ty,fr,hh⟩:∃c ty fr,W.heap[ab]? =some (.cells c ty fr):=by
      obtain⟨x,ci,h1,h2,h3,h4,_⟩:=hcell 0 (by omega) 0 hz
      rw[hadd,vab (by omega)]at h2
      unfold World.cell? at h2
      split at h2
      ·rename_i c ty fr hh;exact⟨c,ty,fr,hh⟩
      ·cases h2
     have hin:ao+es.length * P.cellsOf e<=c.size:=by
      obtain⟨x,ci,h1,h2,h3,h4,_⟩:=hcell (len - 1) (by omega) (P.cellsOf e - 1) (by omega)
      rw[hadd,vab (by omega),cell_of_row W _ _ c ty fr hh]at h2
      have:=(vaq.1 h2).1
      have e1:(len - 1) * P.cellsOf e+P.cellsOf e=len * P.cellsOf e:=by
       have:len=(len - 1)+1:=by omega
       conv=>rhs;rw[this,va8,vbF]
      rw[hes];omega
     have:=VR.slice (Γ:=yi W) (bs:=[]) (w:=W) es ab ao cap c.size (P.cellsOf e) (fun i k=>(W.cell? ⟨ab,ao+i * P.cellsOf e+k,none⟩).getD undef) hz (by omega) (Mv hh) hin hlen
      (fun i x k q hx hqk=>by obtain⟨v,h1,_⟩:=hcl i x k q hx hqk;rw[h1];rfl)
      (fun i x k q hx hqk=>by obtain⟨v,h1,h2⟩:=hcl i x k q hx hqk;rw[h1];exact h2)
     rw[hes]at this
     exact this
   |_=>exact other fun l=>by unfold Sh;rw[hu];trivial
end
end Go.Proofs.YtbaamopmfmpfaaaGreatDoor
namespace Go.Proofs.YtbaamopmfmpfaaaGreatDoor
open Go
set_option linter.unusedVariables false
abbrev In(P:Program)(t:TypeId){α:Type}(c:α->List PVal):Prop:=∀n l,Sh P n t l->∃x,l=c x
section
variable{P:Program}{t e:TypeId}{α:Type}{c:α->List PVal}
theorem RW{k:IntKind}(hu:P.underlying t=some (.int k)):In P t (cI k):=fun n l h=>by
 cases n with
 |zero=>exact h.elim
 |succ n=>
  unfold Sh at h
  rw[hu]at h
  obtain⟨i,rfl,_⟩:=h
  exact⟨i,rfl⟩
theorem qcO(hu:P.underlying t=some .bool):In P t cB:=fun n l h=>by
 cases n with
 |zero=>exact h.elim
 |succ n=>
  unfold Sh at h
  rw[hu]at h
  obtain⟨i,rfl⟩:=h
  exact⟨i,rfl⟩
theorem mK(hu:P.underlying t=some .string):In P t cS:=fun n l h=>by
 cases n with
 |zero=>exact h.elim
 |succ n=>
  unfold Sh at h
  rw[hu]at h
  obtain⟨i,rfl,_⟩:=h
  exact⟨i,rfl⟩
theorem Qi:∀{es:List (List PVal)},(∀x∈es,∃y,x=c y)->∃ys:List α,es=ys.map c
 |[],_=>⟨[],rfl⟩
 |x::es,h=>by
  obtain⟨y,rfl⟩:=h x (by simp)
  obtain⟨ys,rfl⟩:=Qi fun z hz=>h z (vaZ _ hz)
  exact⟨y::ys,rfl⟩
theorem P3(hu:P.underlying t=some (.slice e)){n:Nat}(hE:∀m,m<n->∀l,Sh P m e l->∃x,l=c x)(l:List PVal)(h:Sh P n t l):∃xs,l=cL c xs:=by
 cases n with
 |zero=>exact h.elim
 |succ n=>
  unfold Sh at h
  rw[hu]at h
  obtain⟨es,rfl,_,h⟩:=h
  obtain⟨ys,rfl⟩:=Qi fun x hx=>hE n (vco n) x (h x hx)
  exact⟨ys,rfl⟩
theorem nV(hu:P.underlying t=some (.slice e))(hE:In P e c):In P t (cL c):=fun n l h=>P3 hu (fun m _=>hE m) l h
theorem QB:∀(es:List (List PVal)),(∀x∈es,1<=fx x)->es.length<=bM es
 |[],_=>by simp[bM]
 |x::es,h=>by
  have h1:=h x (by simp)
  have h2:=QB es fun y hy=>h y (vaZ _ hy)
  simp only[bM,vaN];omega
theorem ua:∀{es:List (List PVal)} {x:List PVal},x∈es->fx x<=bM es
 | y :: es,x,h => by
  simp only[bM]
  rcases vaA.1 h with rfl|h
  ·omega
  ·have:=ua h;omega
end
section
variable{H:Type}{enc:TypeId×Value->H}{P:Program}{W:World}{base b0:Nat}{sp:Nat->Bool}{held:Bool}{t e:TypeId}{v:Value}{d:DataW H}{p:List MemPlace}{L:List TypeId}
theorem MT(hF:TO P L)(hL:t∈L){fs:Array Field}(hu:P.underlying t=some (.struct fs))(h:DataW.Trod enc P W base sp held t v d p)(hv:Value.okWide P W .any b0 t v):∃n l,VR (yi W) [] W (.agg l) v/\Sh P n t l/\fx l<=Rows.uptoBulk d:=by
 obtain⟨n,h⟩:=h
 unfold Value.okWide at hv
 rw[hu]at hv
 obtain⟨cs,rfl,_,_⟩:=hv
 obtain⟨l,h1,h2,h3,h4⟩:=RV hF n t hL _ d p h
 refine⟨n,l,.agg l cs ?_ fun i q u hq hu'=>h2 i q u hq ?_,h3,h4⟩
 ·have:(Value.agg cs).cells.toList.length=cs.size:=by simp[Value.cells]
  omega
 ·show cs.toList[i]? =some u
  rw[va0];exact hu'
theorem ZS(hF:TO P L)(hL:t∈L)(hc:v.cells.toList=[v])(h:DataW.Trod enc P W base sp held t v d p):∃n q,VR (yi W) [] W q v/\Sh P n t [q]/\pm q<=Rows.uptoBulk d:=by
 obtain⟨n,h⟩:=h
 rw[hc]at h
 obtain⟨l,h1,h2,h3,h4⟩:=RV hF n t hL _ d p h
 match l,h1 with
 |[q],_=>exact⟨n,q,h2 0 q v rfl rfl,h3,by simpa[fx]using h4⟩
theorem V7(hF:TO P L)(hL:t∈L)(hu:P.underlying t=some (.slice e))(h:DataW.Trod enc P W base sp held t v d p)(hv:Value.okWide P W .any b0 t v):∃n q,VR (yi W) [] W q v/\Sh P n t [q]/\pm q<=Rows.uptoBulk d:=by
 unfold Value.okWide at hv
 rw[hu]at hv
 have hv':Cell.okWide P W .any b0 t v:=hv
 unfold Cell.okWide at hv'
 refine ZS hF hL ?_ h
 cases v<;>simp[hu,Cell.ok]at hv'<;>rfl
theorem Z0{α:Type}{c:α->List PVal}{f:α->PVal}{q:PVal}{x:α}(hc:c x=[f x])(h:[q]=c x):q=f x:=by
 rw[hc]at h
 exact List.head_eq_of_cons_eq h
end
def qa9(n:Nat):aG->Prop
 |.dead=>True
 |.cells cs _=>ig n cs
 |.map es=>∀x∈es,x.1.cl n/\x.2.cl n
def Ob(n:Nat):List aG->Prop
 |[]=>True
 |B::l=>qa9 n B/\Ob n l
theorem PV{k:Nat}:∀{ps qs:List PVal},Iu ps qs=qs->ig k qs->ul k ps qs
 |[],[],_,_=>trivial
 |[],_::_,h,_=>by simp[Iu]at h
 |p::ps,[],h,_=>by simp[Iu]at h
 |p::ps,q::qs,h,hc=>by
  obtain⟨hc1,hc2⟩:=hc
  cases q<;>simp only[Iu,vbu]at h<;>refine⟨?_,PV h.2 hc2⟩<;>first|exact .inl rfl|exact .inr ⟨h.1,hc1⟩
theorem Ue{k:Nat}{p q:aG}(h:L3 p q=q)(hc:qa9 k q):ql k p q:=by
 cases q with
 |dead=>cases p<;>simp[ql]
 | cells cs own =>
  cases p with
  | cells cs0 own0 =>
   simp only[L3,aG.cells.injEq]at h
   obtain⟨rfl,h⟩:=h
   refine⟨rfl,hc,fun x hx=>?_⟩
   split at h
   ·rename_i ha
    simpa using vaw.1 ha x hx
   ·rw[h];exact hx
  |map es=>simp[L3]at h
  |dead=>simp[L3]at h
 |map es=>
  have h':p=.map es:=by cases p<;>simp[L3]at h ⊢<;>exact h
  subst h'
  exact⟨rfl,hc⟩
theorem EK{k:Nat}:∀{ps qs:List aG},Oq (ps.take qs.length) qs=qs->Ob k qs->dc k ps qs
 |_,[],_,_=>by unfold dc;trivial
 |[],_::_,h,_=>by simp[Oq]at h
 |p::ps,q::qs,h,hc=>by
  obtain⟨hc1,hc2⟩:=hc
  rw[vaN,List.take_succ_cons]at h
  simp only[Oq,vbu]at h
  exact⟨Ue h.1 hc1,EK h.2 hc2⟩
def qcq(m:Nat)(st st0:az):Prop:=Iu st.tmps st0.tmps=st0.tmps/\Oq (st.boxes.take st0.boxes.length) st0.boxes=st0.boxes/\(st0.own.all fun x=>decide (x∈st.own))=true/\decide (m % 1000<=st0.boxes.length)=true/\
 ig st0.boxes.length st0.tmps/\Ob st0.boxes.length st0.boxes
theorem qcq.weak{P:Program}{m:Nat}{st st0:az}(h:qcq m st st0):sC P m st st0:=by
 obtain⟨h1,h2,h3,h4,h5,h6⟩:=h
 exact .of_less ⟨PV h1 h5,EK h2 h6,fun x hx=>by simpa using vaw.1 h3 x hx⟩ (by simpa using h4)
def qaL(m:Nat)(e0:Exit)(st0:az):Exit->List It->az->Prop:=fun e _ st=>e0=e/\qcq m st st0
section
variable{P:Program}{GE:List (Nat×List PVal)}{A:List Nat}{m:Nat}
theorem WL(hf:P.follows .mixedOrders=true){c:Code}{e0:Exit}{st0 st:az}(sc:List It)(h:xx P GE A m c sc st (qaL m e0 st0)):aT P GE m c (EX e0 st0) st:=
 (gP hf c sc st _ h).mono fun _ _ hx=>by
  obtain⟨_,hx⟩:=hx
  exact⟨st0,hx.2.weak,hx.1.symm,rfl⟩
theorem qbv(hf:P.follows .mixedOrders=true){σ X:Type}{S:σ->az}{ex:X->Exit}{so:X->az}{c:Code}{s:σ}{st:az}(sc:List It)(h:xx P GE A m c sc st (qaL m .normal (S s))):aT P GE m c (LQ S ex so (.inl s)) st:=
 (WL hf sc h).imp fun _ _ hx=>⟨hx.1,hx.2⟩
theorem qby(hf:P.follows .mixedOrders=true){σ X:Type}{S:σ->az}{ex:X->Exit}{so:X->az}{c:Code}{x:X}{st:az}(sc:List It)(hn:ex x≠.normal)(h:xx P GE A m c sc st (qaL m (ex x) (so x))):aT P GE m c (LQ S ex so (.inr x)) st:=
 (WL hf sc h).imp fun _ _ hx=>⟨by rw[hx.1];exact hn,hx.1,hx.2⟩
end
mutual
theorem SO{n m:Nat}(hnm:n<=m):∀(p:PVal),p.cl n->p.cl m
 |.undef,_=>by simp[PVal.cl]
 |.int _ _,_=>by simp[PVal.cl]
 |.bool _,_=>by simp[PVal.cl]
 |.str _,_=>by simp[PVal.cl]
 |.val _,_=>by simp[PVal.cl]
 |.agg cs,h=>by simp only[PVal.cl]at h ⊢;exact qJ hnm cs h
 |.tuple cs,h=>by simp only[PVal.cl]at h ⊢;exact qJ hnm cs h
 |.slice es,h=>by simp only[PVal.cl]at h ⊢;exact MD hnm es h
 |.eptr cs,h=>by simp only[PVal.cl]at h ⊢;exact qJ hnm cs h
 |.bptr i _,h=>by simp only[PVal.cl]at h ⊢;omega
 |.bsl i _ _,h=>by simp only[PVal.cl]at h ⊢;omega
 |.mapr i,h=>by simp only[PVal.cl]at h ⊢;omega
 |.func _ f c,h=>by simp only[PVal.cl]at h ⊢;exact⟨qJ hnm f h.1,qJ hnm c h.2⟩
theorem qJ{n m:Nat}(hnm:n<=m):∀(l:List PVal),ig n l->ig m l
 |[],_=>by simp[ig]
 |p::l,h=>by simp only[ig]at h ⊢;exact⟨SO hnm p h.1,qJ hnm l h.2⟩
theorem MD{n m:Nat}(hnm:n<=m):∀(l:List (List PVal)),sE n l->sE m l
 |[],_=>by simp[sE]
 |p::l,h=>by simp only[sE]at h ⊢;exact⟨qJ hnm p h.1,MD hnm l h.2⟩
end
theorem oA{n:Nat}{l:List PVal}(h:ig 0 l):ig n l:=qJ (vaO n) l h
theorem up{n:Nat}{p:PVal}(h:p.cl 0):p.cl n:=SO (vaO n) p h
theorem d6{i n:Nat}(h:decide (i<n)=true):i<n:=vaC h
theorem qd3(m:Nat)(st:az)(h4:decide (m % 1000<=st.boxes.length)=true)(h5:ig st.boxes.length st.tmps)(h6:Ob st.boxes.length st.boxes):st.tmps=st.tmps/\st.boxes=st.boxes/\true=true/\decide (m % 1000<=st.boxes.length)=true/\ig st.boxes.length st.tmps/\Ob st.boxes.length st.boxes:=⟨rfl,rfl,rfl,h4,h5,h6⟩
def qaS:TypeDesc->Bool
 |.struct _=>true
 |.array _ _=>true
 |_=>false
theorem kR{P:Program}{t:TypeId}{l r:List PVal}(h:(P.underlying t).any qaS=true)(hc:P.cellsOf t=l.length):aU P t (l++r)=some (.agg l):=by
 unfold aU
 split
 ·rw[vak (by rw[hc];simp),hc,vcb]
 ·rw[vak (by rw[hc];simp),hc,vcb]
 ·rename_i d h1 h2 hd
  rw[hd]at h
  cases d<;>simp_all[qaS]
 ·rename_i hd;rw[hd]at h;cases h
theorem CD{k:Nat}{B:aG}:∀{ps qs:List aG} {i:Nat},qs.length<=i->dc k ps qs->dc k (ps.set i B) qs
 |_,[],_,_,_=>by unfold dc;trivial
 |[],_::_,_,_,h=>by simpa using h
 |p::ps,q::qs,0,hi,_=>by simp at hi
 |p::ps,q::qs,i+1,hi,h=>by
  simp only[List.set_cons_succ]
  exact⟨h.1,CD (by simpa using hi) h.2⟩
def K0(P:Program)(rs:List ResultVar)(r:PVal)(ro:List (Nat×TypeId))(H':List aG)(st:az):Prop:=
 ∃(t:Tmp) (ty:TypeId) (i off:Nat) (cs:List PVal) (own:List (Nat×TypeId)) (l:List PVal),rs=[.cell t ty]/\(∃fs,P.underlying ty=some (.struct fs))/\st.tmps.getD t .undef=.bptr i off/\st.boxes[i]? =some (.cells cs own)/\
  r=.agg l/\aU P ty (cs.drop off)=some (.agg l)/\r.cl H'.length/\H'.length<=i/\dc H'.length st.boxes H'/\(∀x∈ro,(off+x.1,x.2)∈own/\x.1<l.length)/\(ro.map (·.1)).Nodup
def WY(P:Program)(rs:List ResultVar)(r:PVal)(ro:List (Nat×TypeId))(H':List aG)(e:Exit)(st:az):Prop:=
 qbB P rs r ro H' e st\/((e=.normal\/e=.ret)/\K0 P rs r ro H' st)
section
variable{P:Program}{E:rh}{Γ:ba}{bs:bI}{ow:Nat->Option lK}{w:World}{a:Array Value}{st:az}
theorem SR.finishCellG(h:SR P E Γ bs ow w a st){fn:Func}{r:PVal}{ro:List (Nat×TypeId)}{H':List aG}(hr:K0 P fn.results.toList r ro H' st):∃v ow',(results fn a).run P w=.ok v w/\SR P E Γ (bs.take H'.length) ow' w #[v] ⟨[r],H',ro.map fun x=>((0,x.1),x.2)⟩:=by
 obtain⟨t,ty,i,off,cs,own,l,hrs,⟨fs,hfs⟩,ht,hB,rfl,hp,hcl,hi,hbl,hro,hnd⟩:=hr
 have hrv:Fp P st fn.results.toList=some (.agg l):=by
  rw[hrs]
  show lG P ty (st.tmps.getD t .undef) st.boxes=_
  rw[ht]
  simp only[lG,hB,hp]
 obtain⟨v,e1,e2,_⟩:=uf h hrv
 have hvt:=h.getD t
 rw[ht]at hvt
 generalize hva:a.getD t undef=vt at hvt
 cases hvt with
 |bptr _ _ b hb=>
 obtain⟨v2,q1,q2,q3⟩:=DC h hb hB hp
 have hvv:v2=v:=by
  have hres:fn.results=#[.cell t ty]:=by
   have:fn.results=fn.results.toList.toArray:=by simp
   rw[this,hrs]
  have hrun:(results fn a).run P w=.ok v2 w:=by
   simp[results,hres,asAddr]
   have hva':a[t]?.getD undef=.pointer (some ⟨b,off,none⟩):=by rw[<-vay];exact hva
   rw[hva']
   simp[q1]
  rw[e1]at hrun
  cases hrun
  rfl
 subst hvv
 have g1:=h.pushed e2
 obtain⟨ow',g2⟩:=SR.takeOwns (off:=off) (d:=a.size) (u:=v2) hb (by simp) ro g1 hB (fun x hx=>(hro x hx).1) hnd fun x hx=>by
  have:=q3 ⟨_,hfs,trivial⟩ x.1 (hro x hx).2
  obtain⟨v',z1,_⟩:=h.ob i (off+x.1) x.2 cs own b hB (hro x hx).1 hb
  exact⟨v',this.trans z1,z1⟩
 refine⟨v2,CQ (fun k=>(a.size,k)) ro ow',e1,?_⟩
 exact g2.finish (H':=H') (src:=fun k=>(a.size,k)) (ro:=ro) e2 hcl (CD hi hbl) (fun x hx=>⟨vaR _ (vbX.2 (vap.2 ⟨x,hx,rfl⟩)),fun u v' hu hv'=>by simp at hu;subst hu;exact hv'⟩) (fun x _ y _ e=>by simpa using e)
end
theorem C.ofSatG{P:Program}{GE:List (Nat×List PVal)}{m:Nat}{f:FuncId}{fn:Func}{c:Code}{args:List PVal}{oa:List ((Nat×Nat)×TypeId)}{H:List aG}{r:PVal}{ro:List (Nat×TypeId)}{H':List aG}(hm:m % 1000=H.length)(hm0:m≠0)
  (hcall:∀vs w,(callFunc f vs).run P w=.ok (.enter f vs) w) (hfn:P.funcs[f]? =some fn) (hb:fn.body=some c) (hH:H'.length=H.length)
  (hp:aT P GE m c (WY P fn.results.toList r ro H') ⟨args++List.replicate (fn.ntmps - args.length) .undef,H,oa⟩):C P GE f args oa H r ro H':=by
 refine⟨hcall,fun Γ bs ow w vs h=>calls_of_wp hfn hb ?_⟩
 have hbl:bs.length=H.length:=h.bl
 have h0:SR P ⟨GE,Γ,w,bY bs ow⟩ Γ bs ow w (vs++Array.replicate (fn.ntmps - vs.size) undef) ⟨args++List.replicate (fn.ntmps - args.length) .undef,H,oa⟩:=by
  have hsz:vs.size=args.length:=h.sz
  exact{h with
   sz:=by simp[hsz]
   tm:=fun t p v hp hv=>by
    simp only at hp
    by_cases ht:t<args.length
    ·rw[vad ht]at hp
     rw[vaP (by omega)]at hv
     exact h.tm t p v hp hv
    ·rw[vaf (by omega),vaW]at hp
     split at hp<;>cases hp
     exact .undef v
   ot:=fun t k e he=>by
    obtain⟨u,v,h1,h2⟩:=h.ot t k e he
    exact⟨u,v,by rw[vaP (vaq.1 h1).1];exact h1,h2⟩}
 have hE:D4 GE m ⟨GE,Γ,w,bY bs ow⟩:={
  ge:=rfl
  low:=fun b n hb=>h.lt_of_ghost hb
  nt:=fun h0=>absurd h0 hm0
  gl:=fun g cs hg=>(h.gl g cs hg).restrict (n:=0) (by simp only[PVal.cl];exact h.gc g cs hg) (fun i b hi _=>absurd hi (vaQ _))}
 have hwp:=hp none ⟨GE,Γ,w,bY bs ow⟩ bs ⟨vs++Array.replicate (fn.ntmps - vs.size) undef,[]⟩ w hE (by rw[hbl,hm]) ⟨Γ,bs,ow,h0,fun i _=>rfl⟩
 refine wp_mono hwp fun e a w' hq=>?_
 obtain⟨hd,st,⟨Γ1,bs1,ow1,hS,hk⟩,hQ⟩:=hq
 have htake:H'.length<=bs1.length->bs1.take H'.length=bs:=by
  intro hl1
  refine vbk fun i=>?_
  by_cases hi:i<H'.length
  ·rw[vao hi];exact hk i (by omega)
  ·rw[vb4 (by omega),vau (by omega)]
 have hlen:∀{B:List aG},dc H'.length B H'->B.length=bs1.length->H'.length<=bs1.length:=fun hB he=>by
  obtain⟨hl,_⟩:=mH hB;omega
 have key:(Fp P st fn.results.toList=some r/\r.cl H'.length/\dc H'.length st.boxes H'/\(∀x∈ro,(dV fn.results.toList x.1,x.2)∈st.own/\qy st fn.results.toList x.1)/\
   (∀x∈ro,∀y∈ro,dV fn.results.toList x.1=dV fn.results.toList y.1->x.1=y.1))->
   a.defers=[]/\∃v,(results fn a.tmps).run P w'=.ok v w'/\∃v' Γ' ow',Ending.returned v=.returned v'/\SR P ⟨GE,Γ,w,bY bs ow⟩ Γ' bs ow' w' #[v'] ⟨[r],H',ro.map fun x=>((0,x.1),x.2)⟩:=by
  rintro⟨k1,k2,k3,k4,k5⟩
  obtain⟨v,e1,e2,e3⟩:=uf hS k1
  refine⟨hd,v,e1,v,Γ1,CQ (dV fn.results.toList) ro ow1,rfl,?_⟩
  have hf:=hS.finish (H':=H') (src:=dV fn.results.toList) (ro:=ro) e2 k2 k3 (fun x hx=>⟨(k4 x hx).1,fun u v'=>e3 x.1 u v' (k4 x hx).2⟩) k5
  rw[htake (hlen k3 hS.bl.symm)]at hf
  exact hf
 have key2:K0 P fn.results.toList r ro H' st->
   a.defers=[]/\∃v,(results fn a.tmps).run P w'=.ok v w'/\∃v' Γ' ow',Ending.returned v=.returned v'/\SR P ⟨GE,Γ,w,bY bs ow⟩ Γ' bs ow' w' #[v'] ⟨[r],H',ro.map fun x=>((0,x.1),x.2)⟩:=by
  intro hc
  obtain⟨v,ow',e1,e2⟩:=hS.finishCellG hc
  obtain⟨_,_,_,_,_,_,_,_,_,_,_,_,_,_,_,hbl2,_,_⟩:=hc
  rw[htake (hlen hbl2 hS.bl.symm)]at e2
  exact⟨hd,v,e1,v,Γ1,ow',rfl,e2⟩
 rcases hQ with hQ|⟨he,hQ⟩
 ·cases e with
  |normal=>exact key hQ
  |ret=>exact key hQ
  |exit id=>exact hQ.elim
  |goto l=>exact hQ.elim
  |panic c=>exact hQ.elim
  |outgrown=>exact hQ.elim
 ·rcases he with rfl|rfl
  ·exact key2 hQ
  ·exact key2 hQ
def QQ(P:Program)(rs:List ResultVar)(ro:List (Nat×TypeId))(n:Nat)(st:az):Bool:=match rs with
 | [.cell t ty] => match P.underlying ty with
  | some (.struct _) => match st.tmps.getD t .undef with
   |.bptr i off=>decide (n<=i)&&match st.boxes[i]? with
    |some (.cells _ own)=>ro.all (fun x=>decide ((off+x.1,x.2)∈own)&&decide (x.1<P.cellsOf ty))&&tW (ro.map (·.1))
    |_=>false
   |_=>false
  |_=>false
 |_=>false
def Vh(P:Program)(rs:List ResultVar)(r:PVal)(ro:List (Nat×TypeId))(H':List aG)(st:az):Prop:=match BX rs ro st with
 |true=>match Fp P st rs with
  |some p=>p=r/\r.cl H'.length/\Oq (st.boxes.take H'.length) H'=H'/\Ob H'.length H'
  |none=>False
 | false => match QQ P rs ro H'.length st with
  |true=>match Fp P st rs with
   |some p=>p=r/\r.cl H'.length/\Oq (st.boxes.take H'.length) H'=H'/\Ob H'.length H'/\r.isAgg=true
   |none=>False
  |false=>False
def qaM(P:Program)(rs:List ResultVar)(r:PVal)(ro:List (Nat×TypeId))(H':List aG):Exit->List It->az->Prop:=fun e _ st=>match e with
 |.normal=>Vh P rs r ro H' st
 |.ret=>Vh P rs r ro H' st
 |_=>False
theorem O7{rs:List ResultVar}{ro:List (Nat×TypeId)}{st:az}(hc:BX rs ro st=true):(∀x∈ro,(dV rs x.1,x.2)∈st.own/\qy st rs x.1)/\(∀x∈ro,∀y∈ro,dV rs x.1=dV rs y.1->x.1=y.1):=by
 have:=K2 (r:=.undef) (P:=default) (rs:=rs) (ro:=ro) (st:=⟨st.tmps,st.boxes,st.own⟩) hc
 by_cases hr:Fp default st rs=some .undef
 ·exact(this hr trivial).2.2.2
 ·clear this
  unfold BX at hc
  rw[vag]at hc
  obtain⟨c1,c2⟩:=hc
  refine⟨fun x hx=>?_,fun x hx y hy hxy=>?_⟩
  ·have:=vaw.1 c1 x hx
   rw[vag]at this
   refine⟨by simpa using this.1,?_⟩
   have h2:=this.2
   clear this c1 c2 hr
   rcases rs with _|⟨y,_|⟨z,rs⟩⟩
   ·simp at h2
   ·cases y with
    |tmp t=>trivial
    |cell t ty=>cases h2
   ·have key:∀o:Option ResultVar,(match o with
     |some (.tmp t)=>(st.tmps.getD t .undef).isSlice
     |_=>false)=true->(match o with
     |some (.tmp t)=>(st.tmps.getD t .undef).isSlice=true
     |_=>False):=by
     intro o
     cases o with
     |none=>intro h;cases h
     |some q=>cases q<;>intro h<;>first|exact h|cases h
    cases y with
    |tmp t=>exact key _ h2
    |cell t ty=>exact key _ h2
  ·have:=vaw.1 (vaw.1 c2 x hx) y hy
   simpa[hxy]using this
theorem Vh.to{P:Program}{rs:List ResultVar}{r:PVal}{ro:List (Nat×TypeId)}{H':List aG}{st:az}{e:Exit}(he:e=.normal\/e=.ret)(h:Vh P rs r ro H' st):WY P rs r ro H' e st:=by
 unfold Vh at h
 split at h
 ·rename_i hc
  split at h
  ·rename_i p hp
   obtain⟨rfl,hcl,hfg,hcb⟩:=h
   obtain⟨s1,s2⟩:=O7 hc
   have:Fp P st rs=some p/\p.cl H'.length/\dc H'.length st.boxes H'/\_/\_:=⟨hp,hcl,EK hfg hcb,s1,s2⟩
   rcases he with rfl|rfl<;>exact .inl this
  ·exact h.elim
 ·split at h
  ·rename_i hc
   split at h
   ·rename_i p hp
    obtain⟨rfl,hcl,hfg,hcb,hagg⟩:=h
    refine .inr ⟨he,?_⟩
    unfold QQ at hc
    split at hc
    ·rename_i t ty _
     split at hc
     ·rename_i fs hfs
      split at hc
      ·rename_i i off ht
       rw[vag,vam]at hc
       obtain⟨hi,hc⟩:=hc
       split at hc
       ·rename_i cs own hB
        rw[vag]at hc
        obtain⟨c1,c2⟩:=hc
        have hpl:aU P ty (cs.drop off)=some p:=by
         have hp':lG P ty (st.tmps.getD t .undef) st.boxes=some p:=hp
         rw[ht]at hp'
         simpa only[lG,hB]using hp'
        cases p<;>simp only[PVal.isAgg]at hagg<;>first|(cases hagg;done)|skip
        rename_i l
        have hlen:l.length=P.cellsOf ty:=by
         have hq:=hpl
         unfold aU at hq
         rw[hfs]at hq
         simp only at hq
         split at hq
         ·rename_i hh;cases hq;rw[vaM];omega
         ·cases hq
        refine⟨t,ty,i,off,cs,own,l,rfl,⟨fs,hfs⟩,ht,hB,rfl,hpl,hcl,hi,EK hfg hcb,fun x hx=>?_,nN c2⟩
        have:=vaw.1 c1 x hx
        simp only[vag,vam]at this
        exact⟨this.1,by rw[hlen];exact this.2⟩
       ·cases hc
      ·cases hc
     ·cases hc
    ·cases hc
   ·exact h.elim
  ·exact h.elim
theorem qaM.to{P:Program}{rs:List ResultVar}{r:PVal}{ro:List (Nat×TypeId)}{H':List aG}{e:Exit}{sc:List It}{st:az}(h:qaM P rs r ro H' e sc st):WY P rs r ro H' e st:=by
 unfold qaM at h
 split at h
 ·exact h.to (.inl rfl)
 ·exact h.to (.inr rfl)
 ·exact h.elim
theorem C.evG{P:Program}{GE:List (Nat×List PVal)}{A:List Nat}(hf:P.follows .mixedOrders=true){m:Nat}{f:FuncId}{fn:Func}{c:Code}{args:List PVal}{oa:List ((Nat×Nat)×TypeId)}{H:List aG}{r:PVal}{ro:List (Nat×TypeId)}{H':List aG}
  (hm:decide (m % 1000=H.length)&&decide (m≠0)&&decide (H'.length=H.length)=true) (hcall:∀vs w,(callFunc f vs).run P w=.ok (.enter f vs) w) (hfn:P.funcs[f]? =some fn) (hb:fn.body=some c) (sc:List It)
  (h:xx P GE A m c sc ⟨args++List.replicate (fn.ntmps - args.length) .undef,H,oa⟩ (qaM P fn.results.toList r ro H')):C P GE f args oa H r ro H':=by
 simp only[vag,vam]at hm
 exact C.ofSatG hm.1.1 hm.1.2 hcall hfn hb hm.2 ((gP hf c sc _ _ h).imp fun e st hx=>by obtain⟨sc',hx⟩:=hx;exact hx.to)
section
variable{X Y:Type}
def qbr(F:(X->Option Y)->X->Option Y):Nat->X->Option Y
 |0,_=>none
 |n+1,x=>F (qbr F n) x
end
theorem rT:true=true:=rfl
theorem rL(l:List aG):l=l:=rfl
theorem xR(ρ:List Nat)(p:PVal)(h:p.cl 0):FB ρ p p:=.refl p h
theorem Hd{a a':PVal}{l l':List PVal}(h:a=a')(h':l=l'):a::l=a'::l':=by rw[h,h']
end Go.Proofs.YtbaamopmfmpfaaaGreatDoor
