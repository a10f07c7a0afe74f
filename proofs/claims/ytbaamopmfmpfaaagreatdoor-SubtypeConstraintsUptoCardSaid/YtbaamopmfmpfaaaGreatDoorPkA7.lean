/- PROVED: a part of the proof. Conditions: none. -/
import Derived.Test.YtbaamopmfmpfaaaGreatDoorPkA6
import Derived.Deep.Draws
import Derived.Sort.Grow
import Derived.Lib.LaidTab
import Derived.WalkKit
import Derived.ProofKit
import Derived.OpenShut
import Derived.Below
import Derived.ChangeSame
import Derived.SliceStrings
import Derived.ChangeMaps5
import Derived.WideKeyArgs
import Derived.LaidLaws
import Derived.Test.YtbaamopmfmpfaaaGreatDoorRows
noncomputable section
namespace Go.Proofs.YtbaamopmfmpfaaaGreatDoor
open Go
def FG(st st0:aA):Prop:=NR st.tmps st0.tmps=st0.tmps/\U3 st.boxes st0.boxes=st0.boxes/\(st0.own.all fun x=>decide (x∈st.own))=true
theorem fr(st:aA):st.tmps=st.tmps/\st.boxes=st.boxes/\true=true:=⟨rfl,rfl,rfl⟩
theorem FG.weak{P:Program}{m:Nat}{st st0:aA}(h:FG st st0):vU P m st st0:=by
 obtain⟨h1,h2,h3⟩:=h
 have:=vU.forget (P:=P) (m:=m) (st:=st) st0.tmps st0.boxes st0.own (fun x hx=>by simpa using vax.1 h3 x hx)
 rw[h1,h2]at this
 exact this
def A5(P:Program)(GE:List (Nat×List PVal))(A:List Nat)(m:Nat):Code->List It->aA->(Exit->List It->aA->Prop)->Prop
 |.skip,sc,st,K=>K .normal sc st
 |.label _,sc,st,K=>K .normal sc st
 | .region _ ops draw,sc,st,K => match draw with
  |false=>match ops.toList.all gq with
   |true=>UI st.boxes (gM P ops.toList) fun H=>PZ P GE A ops (K .normal) ops.toList 0 st.boxes.length sc ⟨st.tmps,H,st.own⟩
   |false=>False
  |true=>match sc with
   |.dr an::sc'=>UY P GE A ops an [] [] [] (K .normal) sc' st
   |.dx an X br rw::sc'=>UY P GE A ops an X br rw (K .normal) sc' st
   |_=>False
 | .seq a b,sc,st,K =>
  let after (e:Exit) (sc:List It) (st:aA):Prop:=match e with
   |.normal=>qb1 m sc st fun sc st=>A5 P GE A m b sc st K
   |e=>K e sc st
  match sc with
  |.pa 0::.pc st0 e st1::sc'=>FG st st0/\aU P GE m a (EX e st1) st0/\after e sc' st1
  |.pa (n+1)::sc'=>A5 P GE A m a (.pa n::sc') st after
  |sc=>A5 P GE A m a sc st after
 | .cond c a b,sc,st,K => qy GE st.tmps c fun v => match v with
  | .bool t => match sc with
   |.k::sc'=>match t with
    |true=>qb1 m sc' st fun sc st=>A5 P GE A m a sc st K
    |false=>qb1 m sc' st fun sc st=>A5 P GE A m b sc st K
   |.g _ x::sc'=>t=x/\match x with
    |true=>qb1 m sc' st fun sc st=>A5 P GE A m a sc st K
    |false=>qb1 m sc' st fun sc st=>A5 P GE A m b sc st K
   |_=>False
  |_=>False
 |.block id c,sc,st,K=>A5 P GE A m c sc st fun e sc st=>match e with
  |.exit id'=>if id'=id then K .normal sc st else K (.exit id') sc st
  |e=>K e sc st
 |.exit id,sc,st,K=>K (.exit id) sc st
 |.ret,sc,st,K=>K .ret sc st
 |.loop c,sc,st,K=>match sc with
  |.pc st0 e st1::sc'=>FG st st0/\aU P GE m (.loop c) (EX e st1) st0/\K e sc' st1
  |_=>False
 |_,_,_,_=>False
section
variable{P:Program}{GE:List (Nat×List PVal)}{A:List Nat}{m:Nat}
theorem iI(hf:P.follows .mixedOrders=true):∀(c:Code) (sc:List It) (st:aA) (K:Exit->List It->aA->Prop),A5 P GE A m c sc st K->aU P GE m c (fun e st'=>∃sc',K e sc' st') st
 |.skip,sc,st,K,h=>aU.skip ⟨sc,h⟩
 |.label _,sc,st,K,h=>aU.label ⟨sc,h⟩
 | .region id ops draw,sc,st,K,h => by
  simp only[A5]at h
  cases draw with
  | false =>
   simp only at h
   split at h
   ·rename_i hd
    simp only[UI,bk]at h
    exact aU.text hd (Cl _ _ _ _ _ h)
   ·exact h.elim
  | true =>
   simp only at h
   split at h
   ·exact JJ hf (fun st hx=>hx) h
   ·exact JJ hf (fun st hx=>hx) h
   ·exact h.elim
 | .seq a b,sc,st,K,h => by
  have aft:∀(e:Exit) (sc':List It) (st':aA),(match e with|.normal=>qb1 m sc' st' (fun sc st=>A5 P GE A m b sc st K)|e=>K e sc' st')->(match e with|.normal=>aU P GE m b (fun e st'=>∃sc',K e sc' st') st'|e=>∃sc',K e sc' st'):=by
   intro e sc' st' hx
   cases e with
   |normal=>
    obtain⟨sc2,st2,hw,hx⟩:=U7 (P:=P) hx
    exact aU.weak hw (iI hf b sc2 st2 K hx)
   |exit id=>exact⟨_,hx⟩
   |goto l=>exact⟨_,hx⟩
   |ret=>exact⟨_,hx⟩
   |panic c=>exact⟨_,hx⟩
   |outgrown=>exact⟨_,hx⟩
  simp only[A5]at h
  refine aU.seq ?_
  split at h
  ·rename_i st0 e st1 sc'
   obtain⟨h1,h2,h3⟩:=h
   refine aU.weak h1.weak (EX.of h2 ?_)
   have:=aft e sc' st1 h3
   cases e<;>exact this
  ·exact(iI hf a _ st _ h).imp fun e st' hx=>by
    obtain⟨sc',hx⟩:=hx
    have:=aft e sc' st' hx
    cases e<;>exact this
  ·exact(iI hf a _ st _ h).imp fun e st' hx=>by
    obtain⟨sc',hx⟩:=hx
    have:=aft e sc' st' hx
    cases e<;>exact this
 | .cond c a b,sc,st,K,h => by
  simp only[A5,cC]at h
  have go:∀{x:Code} (hx:∀(sc:List It) (st:aA),A5 P GE A m x sc st K->aU P GE m x (fun e st'=>∃sc',K e sc' st') st) {sc:List It},qb1 m sc st (fun sc st=>A5 P GE A m x sc st K)->aU P GE m x (fun e st'=>∃sc',K e sc' st') st:=by
   intro x hx sc h
   obtain⟨sc2,st2,hw,h⟩:=U7 (P:=P) h
   exact aU.weak hw (hx sc2 st2 h)
  split at h
  ·rename_i t ht
   split at h
   ·rename_i sc'
    refine aU.cond ht (fun h1=>?_) (fun h1=>?_)
    ·subst h1;exact go (fun sc st=>iI hf a sc st K) h
    ·subst h1;exact go (fun sc st=>iI hf b sc st K) h
   ·rename_i j x sc'
    obtain⟨rfl,h⟩:=h
    refine aU.cond ht (fun h1=>?_) (fun h1=>?_)
    ·subst h1;exact go (fun sc st=>iI hf a sc st K) h
    ·subst h1;exact go (fun sc st=>iI hf b sc st K) h
   ·exact h.elim
  ·exact h.elim
 | .block id c,sc,st,K,h => by
  simp only[A5]at h
  refine aU.block ((iI hf c _ st _ h).imp fun e st' hx=>?_)
  obtain⟨sc',hx⟩:=hx
  cases e with
  | exit id' =>
   simp only[Yn]
   simp only at hx
   split at hx
   ·rename_i hid;rw[vad hid];exact⟨sc',hx⟩
   ·rename_i hid;rw[vae hid];exact⟨sc',hx⟩
  |normal=>exact⟨sc',hx⟩
  |goto l=>exact⟨sc',hx⟩
  |ret=>exact⟨sc',hx⟩
  |panic c=>exact⟨sc',hx⟩
  |outgrown=>exact⟨sc',hx⟩
 |.exit id,sc,st,K,h=>aU.exit ⟨sc,h⟩
 |.ret,sc,st,K,h=>aU.ret ⟨sc,h⟩
 | .loop c,sc,st,K,h => by
  simp only[A5]at h
  split at h
  ·rename_i st0 e st1 sc'
   obtain⟨h1,h2,h3⟩:=h
   exact aU.weak h1.weak (EX.of h2 ⟨sc',h3⟩)
  ·exact h.elim
 |.rangeFunc ..,_,_,_,h=>by simp[A5]at h
 |.scope _,_,_,_,h=>by simp[A5]at h
 |.goto _,_,_,_,h=>by simp[A5]at h
 |.refuse _,_,_,_,h=>by simp[A5]at h
def FN(e0:Exit)(st0:aA):Exit->List It->aA->Prop:=fun e _ st=>e0=e/\FG st st0
theorem piece(hf:P.follows .mixedOrders=true){c:Code}{e0:Exit}{st0 st:aA}(sc:List It)(h:A5 P GE A m c sc st (FN e0 st0)):aU P GE m c (EX e0 st0) st:=
 (iI hf c sc st _ h).mono fun _ _ hx=>by
  obtain⟨_,hx⟩:=hx
  exact⟨st0,hx.2.weak,hx.1.symm,rfl⟩
theorem pj(hf:P.follows .mixedOrders=true){σ X:Type}{S:σ->aA}{ex:X->Exit}{so:X->aA}{c:Code}{s:σ}{st:aA}(sc:List It)(h:A5 P GE A m c sc st (FN .normal (S s))):aU P GE m c (LQ S ex so (.inl s)) st:=
 (piece hf sc h).imp fun _ _ hx=>⟨hx.1,hx.2⟩
theorem qkj(hf:P.follows .mixedOrders=true){σ X:Type}{S:σ->aA}{ex:X->Exit}{so:X->aA}{c:Code}{x:X}{st:aA}(sc:List It)(hn:ex x≠.normal)(h:A5 P GE A m c sc st (FN (ex x) (so x))):aU P GE m c (LQ S ex so (.inr x)) st:=
 (piece hf sc h).imp fun _ _ hx=>⟨by rw[hx.1];exact hn,hx.1,hx.2⟩
def Gi(rs:List ResultVar)(ro:List (Nat×TypeId))(st:aA):Bool:=
 ro.all (fun x=>decide ((eI rs x.1,x.2)∈st.own)&&(match rs with
  |[.tmp _]=>true
  |[_]=>false
  |rs=>match rs[x.1]? with
   |some (.tmp t)=>(st.tmps.getD t .undef).isSlice
   |_=>false))&&ro.all (fun x=>ro.all fun y=>!decide (eI rs x.1=eI rs y.1)||decide (x.1=y.1))
def PVal.isAgg:PVal->Bool
 |.agg _=>true
 |_=>false
def VG(P:Program)(rs:List ResultVar)(r:PVal)(ro:List (Nat×TypeId))(st:aA):Prop:=
 ∃(t:Tmp) (ty:TypeId) (i off:Nat) (cs:List PVal) (own:List (Nat×TypeId)) (l:List PVal),rs=[.cell t ty]/\(∃fs,P.underlying ty=some (.struct fs))/\st.tmps.getD t .undef=.bptr i off/\st.boxes[i]? =some (.cells cs own)/\
  r=.agg l/\bm P ty (cs.drop off)=some (.agg l)/\r.cl 0/\(∀x∈ro,(off+x.1,x.2)∈own/\x.1<l.length)/\(ro.map (·.1)).Nodup
def qdS(P:Program)(rs:List ResultVar)(r:PVal)(ro:List (Nat×TypeId))(e:Exit)(st:aA):Prop:=
 qiK P rs r ro [] e st\/((e=.normal\/e=.ret)/\VG P rs r ro st)
def qag(P:Program)(rs:List ResultVar)(ro:List (Nat×TypeId))(st:aA):Bool:=match rs with
 | [.cell t ty] => match P.underlying ty with
  | some (.struct _) => match st.tmps.getD t .undef with
   |.bptr i off=>match st.boxes[i]? with
    |some (.cells _ own)=>ro.all (fun x=>decide ((off+x.1,x.2)∈own)&&decide (x.1<P.cellsOf ty))&&xN (ro.map (·.1))
    |_=>false
   |_=>false
  |_=>false
 |_=>false
section
variable{P:Program}{E:uy}{Γ:bw}{bs:bR}{ow:Nat->Option nM}{w:World}{a:Array Value}{st:aA}
theorem SR.pushed(h:SR P E Γ bs ow w a st){v:Value}{p:PVal}(hv:VR Γ bs w p v):SR P E Γ bs ow w (a.push v) {st with tmps:=st.tmps++[p]}:=
 { h with
  sz:=by simp[h.sz]
  tm:=fun t q u hq hu=>by
   by_cases ht:t<a.size
   ·rw[vcv ht]at hu
    simp only at hq
    rw[vaf (by rw[<-h.sz];exact ht)]at hq
    exact h.tm t q u hq (by rw[<-hu];simp[ht])
   ·have hlt:t<(a.push v).size:=(var.1 hu).1
    have ht2:t=a.size:=by simp at hlt;omega
    subst ht2
    simp only at hq
    rw[vai (by rw[h.sz];exact vah _),h.sz]at hq
    simp at hq hu
    subst hq;subst hu;exact hv
  ot:=fun t k e he=>by
   obtain⟨u,v',h1,h2,h3,h4⟩:=h.ot t k e he
   have hlt:t<a.size:=(var.1 h1).1
   exact⟨u,v',by rw[vcv hlt,<-h1];simp[hlt],h2,h3,h4⟩}
theorem SR.finishCell(h:SR P E Γ bs ow w a st){fn:Func}{r:PVal}{ro:List (Nat×TypeId)}(hr:VG P fn.results.toList r ro st):∃v ow',(results fn a).run P w=.ok v w/\SR P E Γ [] ow' w #[v] ⟨[r],[],ro.map fun x=>((0,x.1),x.2)⟩:=by
 obtain⟨t,ty,i,off,cs,own,l,hrs,⟨fs,hfs⟩,ht,hB,rfl,hp,hcl,hro,hnd⟩:=hr
 have hrv:Kw P st fn.results.toList=some (.agg l):=by
  rw[hrs]
  show nH P ty (st.tmps.getD t .undef) st.boxes=_
  rw[ht]
  simp only[nH,hB,hp]
 obtain⟨v,e1,e2,_⟩:=xX h hrv
 have hvt:=h.getD t
 rw[ht]at hvt
 generalize hva:a.getD t undef=vt at hvt
 cases hvt with
 |bptr _ _ b hb=>
 obtain⟨v2,q1,q2,q3⟩:=Ik h hb hB hp
 have hvv:v2=v:=by
  have hres:fn.results=#[.cell t ty]:=by
   have:fn.results=fn.results.toList.toArray:=by simp
   rw[this,hrs]
  have hrun:(results fn a).run P w=.ok v2 w:=by
   simp[results,hres,asAddr]
   have hva':a[t]?.getD undef=.pointer (some ⟨b,off,none⟩):=by rw[<-vaz];exact hva
   rw[hva']
   simp[q1]
  rw[e1]at hrun
  cases hrun
  rfl
 subst hvv
 have g1:=h.pushed e2
 obtain⟨ow',g2⟩:=SR.takeOwns (off:=off) (d:=a.size) (u:=v2) hb (by simp) ro g1 hB (fun x hx=>(hro x hx).1) hnd fun x hx=>by
  have:=q3 ⟨_,hfs,trivial⟩ x.1 (hro x hx).2
  obtain⟨v',z1,_⟩:=h.ob i (off+x.1) x.2 cs own b hB (hro x hx).1 hb
  exact⟨v',this.trans z1,z1⟩
 refine⟨v2,Hf (fun k=>(a.size,k)) ro ow',e1,?_⟩
 have hf:=g2.finish (H':=[]) (src:=fun k=>(a.size,k)) (ro:=ro) e2 hcl (by unfold dO;trivial) (fun x hx=>⟨?_,fun u v' hu hv'=>?_⟩) (fun x _ y _ e=>by simpa using e)
 ·simpa using hf
 ·exact vbf _ (vb0.2 (vaq.2 ⟨x,hx,rfl⟩))
 ·simp at hu;subst hu;exact hv'
end
def qhT(P:Program)(rs:List ResultVar)(r:PVal)(ro:List (Nat×TypeId))(st:aA):Prop:=match Gi rs ro st with
 |true=>match Kw P st rs with
  |some p=>p=r/\r.cl 0
  |none=>False
 | false => match qag P rs ro st with
  |true=>match Kw P st rs with
   |some p=>p=r/\r.cl 0/\r.isAgg=true
   |none=>False
  |false=>False
def FR(P:Program)(rs:List ResultVar)(r:PVal)(ro:List (Nat×TypeId)):Exit->List It->aA->Prop:=fun e _ st=>match e with
 |.normal=>qhT P rs r ro st
 |.ret=>qhT P rs r ro st
 |_=>False
theorem C.ofSat{f:FuncId}{fn:Func}{c:Code}{args:List PVal}{r:PVal}{ro:List (Nat×TypeId)}
  (hcall:∀vs w,(callFunc f vs).run P w=.ok (.enter f vs) w) (hfn:P.funcs[f]? =some fn) (hb:fn.body=some c)
  (hp:aU P GE 0 c (qdS P fn.results.toList r ro) ⟨args++List.replicate (fn.ntmps - args.length) .undef,[],[]⟩):C P GE f args [] [] r ro []:=by
 refine⟨hcall,fun Γ bs ow w vs h=>calls_of_wp hfn hb ?_⟩
 have hbl:bs.length=0:=h.bl
 obtain rfl:bs=[]:=vau hbl
 have h0:SR P ⟨GE,Γ,w,fun _=>False⟩ Γ [] (fun _=>none) w (vs++Array.replicate (fn.ntmps - vs.size) undef) ⟨args++List.replicate (fn.ntmps - args.length) .undef,[],[]⟩:=by
  have hsz:vs.size=args.length:=h.sz
  exact{
   wi:=h.wi
   sz:=by simp[hsz]
   tm:=fun t p v hp hv=>by
    simp only at hp
    by_cases ht:t<args.length
    ·rw[vaf ht]at hp
     rw[vaQ (by omega)]at hv
     exact h.tm t p v hp hv
    ·rw[vai (by omega),vaU]at hp
     split at hp<;>cases hp
     exact .undef v
   bl:=rfl
   bx:=fun i b B hi=>by simp at hi
   inj:=fun i j b hi=>by simp at hi
   bn:=fun i b hi=>by simp at hi
   on:=fun b L hL=>by cases hL
   ot:=fun t k e he=>by simp at he
   ob:=fun i j e cs own b hB=>by simp at hB
   gl:=h.gl
   gc:=h.gc
   gx:=fun g cs hg=>⟨(h.gx g cs hg).1,fun hx=>hx,(h.gx g cs hg).2.2⟩
   step:=.refl _ _ _ _}
 have hE:IP GE 0 ⟨GE,Γ,w,fun _=>False⟩:={
  ge:=rfl
  low:=fun b n hb=>h.lt_of_ghost hb
  nt:=fun _ _ hx=>hx
  gl:=h.gl}
 have hwp:=hp none ⟨GE,Γ,w,fun _=>False⟩ [] ⟨vs++Array.replicate (fn.ntmps - vs.size) undef,[]⟩ w hE rfl ⟨Γ,[],_,h0,fun i _=>rfl⟩
 refine wp_mono hwp fun e a w' hq=>?_
 obtain⟨hd,st,⟨Γ1,bs1,ow1,hS0,hk⟩,hQ⟩:=hq
 have hS:SR P ⟨GE,Γ,w,cr [] ow⟩ Γ1 bs1 ow1 w' a.tmps st:={hS0 with
  bn:=fun i b hb=>(hS0.bn i b hb).elim False.elim .inr
  on:=fun b L hL=>⟨(hS0.on b L hL).1,(hS0.on b L hL).2.elim False.elim .inr⟩
  gx:=h.gx
  step:={hS0.step with keep:=fun b hb _=>hS0.step.keep b hb (fun hx=>hx)}}
 have key:(Kw P st fn.results.toList=some r/\r.cl 0/\dO 0 st.boxes []/\(∀x∈ro,(eI fn.results.toList x.1,x.2)∈st.own/\tO st fn.results.toList x.1)/\
   (∀x∈ro,∀y∈ro,eI fn.results.toList x.1=eI fn.results.toList y.1->x.1=y.1))->
   a.defers=[]/\∃v,(results fn a.tmps).run P w'=.ok v w'/\∃v' Γ' ow',Ending.returned v=.returned v'/\SR P ⟨GE,Γ,w,cr [] ow⟩ Γ' [] ow' w' #[v'] ⟨[r],[],ro.map fun x=>((0,x.1),x.2)⟩:=by
  rintro⟨k1,k2,k3,k4,k5⟩
  obtain⟨v,e1,e2,e3⟩:=xX hS k1
  refine⟨hd,v,e1,v,Γ1,Hf (eI fn.results.toList) ro ow1,rfl,?_⟩
  have hf:=hS.finish (H':=[]) (src:=eI fn.results.toList) (ro:=ro) e2 k2 k3 (fun x hx=>⟨(k4 x hx).1,fun u v'=>e3 x.1 u v' (k4 x hx).2⟩) k5
  simpa using hf
 have key2:VG P fn.results.toList r ro st->
   a.defers=[]/\∃v,(results fn a.tmps).run P w'=.ok v w'/\∃v' Γ' ow',Ending.returned v=.returned v'/\SR P ⟨GE,Γ,w,cr [] ow⟩ Γ' [] ow' w' #[v'] ⟨[r],[],ro.map fun x=>((0,x.1),x.2)⟩:=by
  intro hc
  obtain⟨v,ow',e1,e2⟩:=hS.finishCell hc
  exact⟨hd,v,e1,v,Γ1,ow',rfl,e2⟩
 rcases hQ with hQ|⟨he,hQ⟩
 ·cases e with
  |normal=>exact key hQ
  |ret=>exact key hQ
  |exit id=>exact hQ.elim
  |goto l=>exact hQ.elim
  |panic c=>exact hQ.elim
  |outgrown=>exact hQ.elim
 ·rcases he with rfl|rfl
  ·exact key2 hQ
  ·exact key2 hQ
theorem Q5{rs:List ResultVar}{r:PVal}{ro:List (Nat×TypeId)}{st:aA}(hc:Gi rs ro st=true)(hp:Kw P st rs=some r)(hcl:r.cl 0):Kw P st rs=some r/\r.cl 0/\dO 0 st.boxes []/\(∀x∈ro,(eI rs x.1,x.2)∈st.own/\tO st rs x.1)/\
      (∀x∈ro,∀y∈ro,eI rs x.1=eI rs y.1->x.1=y.1):=by
  unfold Gi at hc
  rw[vaj]at hc
  obtain⟨c1,c2⟩:=hc
  refine⟨hp,hcl,by unfold dO;cases st.boxes<;>trivial,fun x hx=>?_,fun x hx y hy hxy=>?_⟩
  · have:=vax.1 c1 x hx
    rw[vaj]at this
    refine⟨by simpa using this.1,?_⟩
    have h2:=this.2
    clear hp this c1 c2
    rcases rs with _|⟨y,_|⟨z,rs⟩⟩
    ·simp at h2
    · cases y with
      |tmp t=>trivial
      |cell t ty=>cases h2
    · have key:∀ o:Option ResultVar,(match o with
        |some (.tmp t)=>(st.tmps.getD t .undef).isSlice
        |_=>false)=true->(match o with
        |some (.tmp t)=>(st.tmps.getD t .undef).isSlice=true
        |_=>False):=by
        intro o
        cases o with
        |none=>intro h;cases h
        |some q=>cases q<;>intro h<;>first|exact h|cases h
      cases y with
      |tmp t=>exact key _ h2
      |cell t ty=>exact key _ h2
  · have:=vax.1 (vax.1 c2 x hx) y hy
    simpa[hxy]using this
theorem qhT.to{rs:List ResultVar}{r:PVal}{ro:List (Nat×TypeId)}{st:aA}{e:Exit}(he:e=.normal\/e=.ret)(h:qhT P rs r ro st):qdS P rs r ro e st:=by
 unfold qhT at h
 split at h
 ·rename_i hc
  split at h
  ·rename_i p hp
   obtain⟨rfl,hcl⟩:=h
   have:=Q5 hc hp hcl
   rcases he with rfl|rfl<;>exact .inl this
  ·exact h.elim
 ·split at h
  ·rename_i hc
   split at h
   ·rename_i p hp
    obtain⟨rfl,hcl,hagg⟩:=h
    refine .inr ⟨he,?_⟩
    unfold qag at hc
    split at hc
    ·rename_i t ty _
     split at hc
     ·rename_i fs hfs
      split at hc
      ·rename_i i off ht
       split at hc
       ·rename_i cs own hB
        rw[vaj]at hc
        obtain⟨c1,c2⟩:=hc
        have hpl:bm P ty (cs.drop off)=some p:=by
         have hp':nH P ty (st.tmps.getD t .undef) st.boxes=some p:=hp
         rw[ht]at hp'
         simpa only[nH,hB]using hp'
        cases p<;>simp only[PVal.isAgg]at hagg<;>first|(cases hagg;done)|skip
        rename_i l
        have hlen:l.length=P.cellsOf ty:=by
         have hq:=hpl
         unfold bm at hq
         rw[hfs]at hq
         simp only at hq
         split at hq
         ·rename_i hh;cases hq;rw[vaO];omega
         ·cases hq
        refine⟨t,ty,i,off,cs,own,l,rfl,⟨fs,hfs⟩,ht,hB,rfl,hpl,hcl,fun x hx=>?_,qn c2⟩
        have:=vax.1 c1 x hx
        simp only[vaj,vao]at this
        exact⟨this.1,by rw[hlen];exact this.2⟩
       ·cases hc
      ·cases hc
     ·cases hc
    ·cases hc
   ·exact h.elim
  ·exact h.elim
theorem FR.to{rs:List ResultVar}{r:PVal}{ro:List (Nat×TypeId)}{e:Exit}{sc:List It}{st:aA}(h:FR P rs r ro e sc st):qdS P rs r ro e st:=by
 unfold FR at h
 split at h
 ·exact h.to (.inl rfl)
 ·exact h.to (.inr rfl)
 ·exact h.elim
theorem C.ev(hf:P.follows .mixedOrders=true){f:FuncId}{fn:Func}{c:Code}{args:List PVal}{r:PVal}{ro:List (Nat×TypeId)}
  (hcall:∀vs w,(callFunc f vs).run P w=.ok (.enter f vs) w) (hfn:P.funcs[f]? =some fn) (hb:fn.body=some c) (hcl:iy 0 args) (sc:List It)
  (h:A5 P GE A 0 c sc ⟨args++List.replicate (fn.ntmps - args.length) .undef,[],[]⟩ (FR P fn.results.toList r ro)):CC P GE f args r ro:=
 ⟨hcl,C.ofSat hcall hfn hb ((iI hf c sc _ _ h).imp fun e st hx=>by obtain⟨sc',hx⟩:=hx;exact hx.to)⟩
end
abbrev ag:=List UInt8
abbrev aR(n:Int):Int:=IntKind.i64.wrap n
def cS(s:ag):List PVal:=[.str s]
def cI(k:IntKind)(n:Int):List PVal:=[.int k n]
def cB(b:Bool):List PVal:=[.bool b]
def sl{α:Type}(c:α->List PVal)(l:List α):PVal:=.slice (l.map c)
def cL{α:Type}(c:α->List PVal)(l:List α):List PVal:=[sl c l]
def vZ(s:ag)(i:Int):Option Int:=(cz s i).map fun c=>(c.toNat:Int)
def bd:Option Int->Nat->Option Nat
 |none,d=>some d
 |some i,_=>if 0<=i then some i.toNat else none
def N2{α:Type}(l:List α)(lo hi:Option Int):Option (List α):=
 match bd lo 0,bd hi l.length with
 |some a,some b=>if a<=b/\b<=l.length then some ((l.take b).drop a)else none
 |_,_=>none
def app{α:Type}(l r:List α):Option (List α):=if l.length+r.length<=eY then some (l++r)else none
def qgH(a b:ag):Option ag:=if a.length+b.length<=YS then some (a++b)else none
def qu(k:IntKind)(a b:Int):Option Int:=if b=0 then none else some (k.wrap (a.tdiv b))
def re(a b:Int):Option Int:=if b=0 then none else some (a.tmod b)
def Do{α:Type}(m:List (ag×α))(k:ag):Option α:=(m.find? fun e=>k==e.1).map (·.2)
def J7{α:Type}(m:List (ag×α))(k:ag)(v:α):List (ag×α):=
 match m with
 |[]=>[(k,v)]
 |e::r=>if k==e.1 then(k,v)::r else e::J7 r k v
def Ic{α:Type}(f:α->PVal)(m:List (ag×α)):List (PVal×PVal):=m.map fun e=>(.str e.1,f e.2)
def qf1:TypeDesc->Bool
 |.struct _=>false
 |.array _ _=>false
 |_=>true
theorem dH{P:Program}{t:TypeId}(h:(P.underlying t).any qf1=true)(p:PVal)(r:List PVal):bm P t (p::r)=some p:=by
 unfold bm
 split
 ·rename_i hu;rw[hu]at h;cases h
 ·rename_i hu;rw[hu]at h;cases h
 ·rfl
 ·rename_i hu;rw[hu]at h;cases h
structure qg{α:Type}(P:Program)(T e:TypeId)(c:α->List PVal):Prop where
 hu:P.underlying T=some (.slice e)
 hc:∀x,(c x).length=P.cellsOf e
 hi:(P.info? e).isSome=true
 hp:0<P.cellsOf e
 hz:(kb P e).map (·.length)=some (P.cellsOf e)
 hb:P.bytesOf e<=65536
 ho:∀x,∀q∈c x,q.one=true
 cl:∀x,iy 0 (c x)
theorem aj{α:Type}{c:α->List PVal}(h:∀x,iy 0 (c x))(l:List α):(sl c l).cl 0:=by
 unfold sl
 simp only[PVal.cl]
 exact UR fun p hp=>by obtain⟨x,_,rfl⟩:=vaq.1 hp;exact h x
theorem dQ(s:ag):iy 0 (cS s):=⟨trivial,trivial⟩
theorem qlE(k:IntKind)(n:Int):iy 0 (cI k n):=⟨trivial,trivial⟩
theorem Qf{α:Type}{l:List α}{i:Int}{x:α}(h:cz l i=some x):0<=i/\l[i.toNat]? =some x:=by
 unfold cz at h
 split at h
 ·exact⟨‹_›,h⟩
 ·cases h
theorem aI{a b:Prop}(h:a)(h':b):a/\b:=⟨h,h'⟩
theorem rP(p:PVal):p=p:=rfl
theorem lf{β:Type}{a r:β}(h:some a=some r):a=r:=vbC h
abbrev u:PVal:=.undef
theorem E8(x:ag):bK (.str x)=some (cS x):=rfl
theorem qlR(k:IntKind)(x:Int):bK (.int k x)=some (cI k x):=rfl
theorem qlQ(l:List PVal):bK (.agg l)=some l:=rfl
theorem qki(x:ag):∀q∈cS x,q.one=true:=by intro q hq;simp[cS]at hq;subst hq;rfl
theorem qkh(k:IntKind)(x:Int):∀q∈cI k x,q.one=true:=by intro q hq;simp[cI]at hq;subst hq;rfl
def gz:Code->List Bool->Code
 |c,[]=>c
 |.seq a b,x::l=>match x with|false=>gz a l|true=>gz b l
 |.cond _ a b,x::l=>match x with|false=>gz a l|true=>gz b l
 |.block _ c,_::l=>gz c l
 |.loop c,_::l=>gz c l
 |c,_=>c
section
variable{P:Program}{T e:TypeId}{α:Type}{c:α->List PVal}
theorem qg.ia(s:qg P T e c){l:List α}{i:Int}{k:IntKind}{x:α}(h:cz l i=some x):jn P T (sl c l) (.int k i)=some (.eptr (c x)):=by
 obtain⟨h0,h1⟩:=Qf h
 unfold sl jn
 simp only[s.hu,vad h0,vaB,h1,vam]
 rw[vad ⟨s.hc x,s.hi⟩]
theorem qg.ln(s:qg P T e c)(l:List α):∀H,Fd P T (sl c l) H=some (.int .i64 (l.length:Int)):=fun H=>by
 unfold sl Fd;simp only[s.hu,vaF]
theorem Ob{o:Option Int}{d n:Nat}{k:IntKind}(h:bd o d=some n):LV (o.map (PVal.int k)) d=some n:=by
 cases o with
 |none=>exact h
 |some i=>exact h
theorem qg.sc(s:qg P T e c){l r:List α}{lo hi:Option Int}(h:N2 l lo hi=some r):Ac P T (sl c l) (lo.map (PVal.int .i64)) (hi.map (PVal.int .i64)) none=some (sl c r):=by
 unfold N2 at h
 split at h
 ·rename_i a b h1 h2
  split at h
  ·rename_i hb
   cases h
   unfold sl Ac
   simp only[s.hu,Ob h1]
   rw[show(l.map c).length=l.length by simp,Ob h2]
   simp only
   have hx:∀x∈(l.map c).take 1,x.length=P.cellsOf e:=fun x hx=>by
    obtain⟨y,_,rfl⟩:=vaq.1 (List.mem_of_mem_take hx)
    exact s.hc y
   rw[vad ⟨hb.1,hb.2,s.hi,hx⟩,List.map_drop,List.map_take]
  ·cases h
 ·cases h
theorem qg.ap(s:qg P T e c){l r z:List α}(h:app l r=some z):lW P T (l.map c) (r.map c)=some (sl c z):=by
 unfold app at h
 split at h
 ·cases h
  unfold lW sl
  simp only[s.hu,vaF]
  have h1:∀x∈l.map c,x.length=P.cellsOf e:=fun x hx=>by obtain⟨y,_,rfl⟩:=vaq.1 hx;exact s.hc y
  have h2:∀x∈r.map c,x.length=P.cellsOf e/\∀q∈x,q.one=true:=fun x hx=>by obtain⟨y,_,rfl⟩:=vaq.1 hx;exact⟨s.hc y,s.ho y⟩
  rw[vad ⟨‹_›,s.hb,s.hp,s.hz,h1,h2⟩,vbH]
 ·cases h
theorem Tv{v:α->PVal}{sz:Nat}(hv:∀x,bK (v x)=some (c x))(hc:∀x,(c x).length=sz):∀(l:List α) (i:Nat),Fa sz i ((l.map v).zipIdx i|>.map fun x=>(x.2,x.1))=some (l.map c)
 |[],i=>by simp[Fa]
 |x::l,i=>by
  have ih:=Tv hv hc l (i+1)
  simp only[vay,List.zipIdx_cons,Fa,hv x]
  simp[ih,hc x]
theorem qg.mk'(s:qg P T e c){v:α->PVal}(hv:∀x,bK (v x)=some (c x))(l:List α)(n:Nat)(hn:(decide (l.length=n)&&decide (n * P.cellsOf e<=16777216))=true):gd P T n ((l.map v).zipIdx 0|>.map fun x=>(x.2,x.1))=some (sl c l):=by
 simp only[vaj,vao]at hn
 unfold gd sl
 simp only[s.hu,Tv hv s.hc]
 have hz:(kb P e).isSome=true:=by
  cases h:kb P e with
  |none=>have:=s.hz;rw[h]at this;cases this
  |some z=>rfl
 rw[vad ⟨by simpa using hn.1,hz,s.hp,hn.2,s.hz⟩]
theorem sk{t:TypeId}(h:P.underlying t=some .string){s:ag}{i:Int}{k:IntKind}{x:Int}(hx:vZ s i=some x):LS P t (.str s) (.int k i)=some (.int .u8 x):=by
 unfold vZ at hx
 cases hi:cz s i with
 |none=>rw[hi]at hx;cases hx
 |some b=>
  rw[hi]at hx;cases hx
  obtain⟨h0,h1⟩:=Qf hi
  unfold LS
  simp only[h,vad h0,h1,vam]
theorem iz{t:TypeId}(h:P.underlying t=some .string)(s:ag):∀H,Fd P t (.str s) H=some (.int .i64 (s.length:Int)):=fun H=>by unfold Fd;simp only[h]
theorem qf3{t:TypeId}(ht:P.underlying t=some .string){l r:ag}{lo hi:Option Int}(h:N2 l lo hi=some r):Ac P t (.str l) (lo.map (PVal.int .i64)) (hi.map (PVal.int .i64)) none=some (.str r):=by
 unfold N2 at h
 split at h
 ·rename_i a b h1 h2
  split at h
  ·rename_i hb
   cases h
   unfold Ac
   simp only[ht,Ob h1,Ob h2]
   rw[vad hb]
  ·cases h
 ·cases h
theorem VS{t:TypeId}{a b z:ag}(h:qgH a b=some z):QH P .add t (.str a) (.str b)=some (.str z):=by
 unfold qgH at h
 unfold QH qfc
 split at h
 ·cases h;simp only;rw[vad ‹_›]
 ·cases h
theorem Ax{t:TypeId}{k:IntKind}{a b z:Int}(h:qu k a b=some z):QH P .quo t (.int k a) (.int k b)=some (.int k z):=by
 unfold qu at h
 split at h
 ·cases h
 ·rename_i hb;cases h;simp only[QH,qdB,if_true,vae hb]
theorem qig{t:TypeId}{k:IntKind}{a b z:Int}(h:re a b=some z):QH P .rem t (.int k a) (.int k b)=some (.int k z):=by
 unfold re at h
 split at h
 ·cases h
 ·rename_i hb;cases h;simp only[QH,qdB,if_true,vae hb]
theorem qlG{s d:TypeId}{k k':IntKind}(h1:P.underlying s=some (.int k))(h2:P.underlying d=some (.int k'))(n:Int):Mv P s d (.int k n)=some (.int k' (k'.wrap n)):=by simp only[Mv,h1,h2]
def xB:List Int->Option ag
 |[]=>some []
 |n::r=>if 0<=n/\n<256 then(xB r).map (UInt8.ofNat n.toNat::·)else none
theorem QJ:∀(l:List Int),CB (l.map (cI .u8))=xB l
 |[]=>rfl
 |n::r=>by simp only[vay,cI,CB,xB];rw[<-QJ r]
theorem qlF{s d e:TypeId}(h1:P.underlying s=some (.slice e))(h2:P.underlying d=some .string)(h3:P.underlying e=some (.int .u8)){l:List Int}{r:ag}(h:xB l=some r):Mv P s d (sl (cI .u8) l)=some (.str r):=by
 unfold sl Mv
 simp only[h1,h2,h3,QJ,h,vam]
theorem Is{f:α->PVal}(k:ag):∀(m:List (ag×α)) (i:Nat),Fb (.str k) (Ic f m) i=some (match Do m k with
  |none=>none
  |some v=>some (i+(m.findIdx fun e=>k==e.1),f v))
 |[],i=>by simp[Ic,Fb,Do]
 | e :: m,i => by
  have ih:=Is (f:=f) k m (i+1)
  unfold Ic at ih ⊢
  simp only[vay,Fb,VA]
  unfold Do at ih ⊢
  by_cases h:(k==e.1)=true
  ·simp[h,vbR]
  ·have h':(k==e.1)=false:=by simpa using h
   simp only[h',List.find?_cons,ih,vbR]
   cases hm:(List.find? (fun e=>k==e.1) m)with
   |none=>simp
   |some v=>simp;omega
theorem qda{t kt et:TypeId}{f:α->PVal}(h1:P.underlying t=some (.map kt et))(h2:P.underlying kt=some .string){z:α}(hz:LY P et=some (f z))(m:List (ag×α))(k:ag):QQ P t (Ic f m) (.str k) false=some (f ((Do m k).getD z)):=by
 unfold QQ
 simp only[h1,h2,pG,if_true,Is]
 cases Do m k with
 |none=>simp[hz]
 |some v=>simp
theorem Z1(f:α->PVal)(k:ag)(v:α):∀(m:List (ag×α)),Ic f (J7 m k v)=match Do m k with
  |none=>Ic f m++[(.str k,f v)]
  |some _=>(Ic f m).set (m.findIdx fun e=>k==e.1) (.str k,f v)
 |[]=>by simp[J7,Do,Ic]
 | e :: m => by
  have ih:=Z1 f k v m
  unfold Do at ih ⊢
  unfold Ic at ih ⊢
  by_cases h:(k==e.1)=true
  ·simp[J7,h,vbR]
  ·have h':(k==e.1)=false:=by simpa using h
   simp only[J7,h',List.find?_cons,vbR,vay]
   simp only[va6,if_false,vay,ih]
   cases(List.find? (fun e=>k==e.1) m)with
   |none=>simp
   |some v=>simp
theorem qgQ{t kt et:TypeId}{f:α->PVal}(h1:P.underlying t=some (.map kt et))(h2:P.underlying kt=some .string)(m:List (ag×α))(k:ag)(v:α):TB P t (Ic f m) (.str k) (f v)=some (Ic f (J7 m k v)):=by
 unfold TB
 simp only[h1,h2,pG,if_true,Is,Z1]
 cases Do m k with
 |none=>simp
 |some w=>simp
end
structure qgk(w w':World):Prop where
 os:w'.os=w.os
 tape:w'.tape=w.tape
 output:w'.output=w.output
 size:w.heap.size<=w'.heap.size
 keep:∀b,b<w.heap.size->w'.heap[b]? =w.heap[b]?
theorem qgk.of_grow(w:World)(k:Nat)(os:Array Obj):qgk w (Sort.grow (w.drewN k) os):={
 os:=rfl
 tape:=rfl
 output:=rfl
 size:=by show w.heap.size<=(w.heap++os).size;simp
 keep:=fun b hb=>by show(w.heap++os)[b]? =_;rw[vaQ hb]}
section
variable{P:Program}{GE:List (Nat×List PVal)}
theorem qg3{E:uy}{Γ:bw}{bs:bR}{ow:Nat->Option nM}{w:World}{a:Array Value}{st:aA}(h:SR P E Γ bs ow w a st){g:Nat}{k:IntKind}{zs:List Int}{name:String}
  (hg:(g,zs.map (PVal.int k))∈E.GE) (hn:P.globalNamed name=some g):Lib.TabIs P w name k zs:=by
 obtain⟨_,_,_,c,t,fr,h1,h2⟩:=h.gnow hg
 have hv:=h.gl g _ hg
 unfold Lib.TabIs World.var?
 rw[hn]
 simp only[vaa,h1]
 congr 1
 refine Array.ext_getElem? fun i=>?_
 generalize hcs:zs.map (PVal.int k)=cs at hv
 cases hv with
 |eptrE _ _=>
  have hz:zs=[]:=by simpa using hcs
  subst hz
  have h3:c.size=0:=h2
  rw[vbE (by omega),vbE (by simp)]
 | eptr _ _ _ n vals hg' hn' hc hvv =>
  subst hcs
  by_cases hi:i<zs.length
  ·have h3:=hc i _ (by simp[hi]:(zs.map (PVal.int k))[i]? =some (.int k zs[i]))
   have h4:=hvv i _ (by simp[hi]:(zs.map (PVal.int k))[i]? =some (.int k zs[i]))
   rw[vaK]at h3
   have h5:w.cell? ⟨g,i,none⟩=c[i]?:=cell_of_row w g i c t fr h1
   rw[h5]at h3
   rw[h3]
   generalize vals i=vi at h4
   cases h4
   simp[hi]
  ·rw[vaF]at h2
   rw[vbE (by omega),vbE (by simp;omega)]
theorem CC.grownIS{f:FuncId}{n:Int}{s:ag}{k:IntKind}(hcall:∀vs w,(callFunc f vs).run P w=.ok (.enter f vs) w)
  (h:∀E Γ bs ow w a st,E.GE=GE->SR P E Γ bs ow w a st->Calls P f #[.int k n] w fun e w'=>e=.returned (.string ⟨s.toArray⟩)/\qgk w w'):CC P GE f [.int k n] (.str s) []:=by
 refine⟨⟨trivial,trivial⟩,hcall,fun Γ bs ow w vs hS=>?_⟩
 have hvs:vs=#[.int k n]:=by
  have h1:=hS.sz
  simp at h1
  have h2:vs[0]? =some vs[0]:=by simp[h1]
  have h3:=hS.tm 0 _ _ rfl h2
  refine Array.ext (by simp[h1]) fun i hi hi2=>?_
  have:i=0:=by simp at hi2;omega
  subst this
  generalize vs[0]=v at h3
  cases h3
  rfl
 subst hvs
 refine(h _ Γ bs ow w _ _ rfl hS).mono fun e w' he=>?_
 obtain⟨rfl,hg⟩:=he
 have hbl:bs.length=0:=hS.bl
 obtain rfl:bs=[]:=vau hbl
 have hW:=hS.world (Γ':=Γ) (w':=w') (fun _=>False) (fun b m hb _=>⟨m,hb,vah _,fun o _=>cw (hg.keep b (hS.lt_of_ghost hb)) o⟩)
  (fun b m hb=>by
   obtain⟨c,t,fr,h1,h2⟩:=hS.wi b m hb
   exact⟨c,t,fr,(hg.keep b (hS.lt_of_ghost hb)).trans h1,h2⟩) hg.os hg.tape hg.output hg.size (fun b hb _=>⟨hg.keep b hb,rfl⟩) (fun _ hx=>hx.elim) (fun _ _ _ hx=>hx) (fun _ _ _ hx=>hx)
 refine⟨_,Γ,ow,rfl,{hW with
  sz:=rfl
  tm:=fun t p v hp hv=>by
   cases t with
   |zero=>simp at hp hv;subst hp;subst hv;exact .str s
   |succ t=>simp at hp
  ot:=fun t k e he=>by simp at he}⟩
structure qb9(P:Program)(g:FuncId)(e:TypeId)(enc:ag->Value)(f:List ag->List ag)(R:Option Addr->Nat->Nat->Value):Prop where
 call:∀vs w,(callFunc g vs).run P w=.ok (.enter g vs) w
 row:∀(w:World) (b cap:Nat) (cur:Array Value) (l:List ag),w.heap[b]? =some (.cells cur e (0,0))->cur.size=cap->l.length<=cap->cap<=maxLen->l.length<=eY->cur.toList.take l.length=l.map enc->
  Calls P g #[.slice (some ⟨b,0,none⟩) l.length cap] w fun r w'=>r=.returned (R (some ⟨b,0,none⟩) (f l).length cap)/\(f l).length<=cap/\w'.os=w.os/\w'.tape=w.tape/\w'.output=w.output/\w.heap.size<=w'.heap.size/\
   (∀b',b'<w.heap.size->b'≠b->w'.heap[b']? =w.heap[b']?)/\∃cur',w'.heap[b]? =some (.cells cur' e (0,0))/\cur'.size=cap/\cur'.toList.take (f l).length=(f l).map enc
 none:∀w:World,f []=[]/\Calls P g #[.slice none 0 0] w fun r w'=>r=.returned (R none 0 0)/\w'=w
theorem qcH:∀{l l':List PVal},l.length=l'.length->(∀(i:Nat) q,l'[i]? =some q->q=.undef\/l[i]? =some q)->NR l l'=l'
 |[],[],_,_=>rfl
 |[],_::_,h,_=>by simp at h
 |_::_,[],h,_=>by simp at h
 | p :: l,q :: l',h,hq => by
  have ih:=qcH (l:=l) (l':=l') (by simpa using h) fun i x hx=>by simpa using hq (i+1) x (by simpa using hx)
  have h0:=hq 0 q rfl
  simp only[List.getElem?_cons_zero,vav]at h0
  rcases h0 with rfl|rfl
  ·simp only[NR,ih]
  ·cases p<;>simp only[NR,ih]
def iB(n t:Nat)(l:List ag)(e:TypeId):aA:=⟨(List.replicate n .undef).set t (sl cS l),[],[((t,0),e)]⟩
theorem QF{n t:Nat}{p:PVal}{i:Nat}{l:List ag}(h:((List.replicate n .undef).set t (sl cS l))[i]? =some p):p=.undef\/(i=t/\p=sl cS l):=by
 rw[vbI]at h
 split at h
 ·rename_i hti
  split at h
  ·cases h;exact .inr ⟨hti.symm,rfl⟩
  ·cases h
 ·rw[vaU]at h
  split at h
  ·cases h;exact .inl rfl
  ·cases h
theorem LO{E:uy}{Γ:bw}{bs:bR}{ow:Nat->Option nM}{w w':World}{a:Array Value}{st:aA}(h:SR P E Γ bs ow w a st)(hE:IP GE 0 E)(hbs:bs=[]){e:TypeId}(he:P.cellsOf e=1){n t ts:Nat}{a':Array Value}(hn:a'.size=n)(hts:ts<n)
  {f:List ag} {v:Value} (hv:a'[ts]? =some v) (hos:w'.os=w.os) (htp:w'.tape=w.tape) (hout:w'.output=w.output) (hsz:w.heap.size<=w'.heap.size)
  (hval:(v=.slice none 0 0/\f=[]/\w'=w)\/∃b cap cur',v=.slice (some ⟨b,0,none⟩) f.length cap/\ow b=some (.tmp t 0)/\f.length<=cap/\cap<=maxLen/\(∀b',b'<w.heap.size->b'≠b->w'.heap[b']? =w.heap[b']?)/\w'.heap[b]? =some (.cells cur' e (0,0))/\cur'.size=cap/\cur'.toList.take f.length=f.map fun s=>Value.string ⟨s.toArray⟩):
  ∃Γ' ow',SR P E Γ' [] ow' w' a' (iB n ts f e):=by
 subst hbs
 rcases hval with⟨rfl,rfl,rfl⟩|⟨b,cap,cur',rfl,hob,hfc,hcm,hkeep,hcur,hcs,htake⟩
 ·refine⟨Γ,fun _=>.none,{h with
   sz:=by simp[iB,hn]
   tm:=fun i p u hp hu=>by
    rcases QF hp with rfl|⟨rfl,rfl⟩
    ·exact .undef u
    ·rw[hv]at hu;cases hu;exact .sliceNil
   bl:=rfl
   bx:=fun i b B hi=>by simp at hi
   inj:=fun i j b hi=>by simp at hi
   bn:=fun i b hi=>by simp at hi
   on:=fun b L hL=>by cases hL
   ot:=fun t' k e' he'=>by
    simp[iB]at he'
    obtain⟨⟨rfl,rfl⟩,rfl⟩:=he'
    exact⟨_,_,hv,rfl,⟨0,[],World.ownsRow_nil _ _ _ _,fun b hb=>by simp[Value.ownBlock]at hb⟩,fun b hb=>by simp[Value.ownBlock]at hb⟩
   ob:=fun i j e' cs own b hB=>by simp[iB]at hB}⟩
 ·have hlo:=(h.on b _ hob)
  have hblt:=hlo.1
  have hbe:E.w.heap.size<=b:=hlo.2.resolve_left (hE.nt rfl b)
  have hlen:cur'.toList.length=cap:=by simpa using hcs
  have hget:∀i,i<f.length->cur'[i]? =some (.string ⟨(f[i]!).toArray⟩):=by
   intro i hi
   have h1:(cur'.toList.take f.length)[i]? =(f.map fun s=>Value.string ⟨s.toArray⟩)[i]?:=by rw[htake]
   rw[vap hi]at h1
   simp only[va2,vaB]at h1
   rw[h1]
   simp[hi]
  have hle:E.Γ.Le E.w (Γ.put b f.length) w':=fun x m hx hm0=>by
   obtain⟨m',h1,h2,h3⟩:=h.step.le x m hx hm0
   have hne:x≠b:=fun hxb=>by have:=hE.low x m hx;omega
   refine⟨m',(Γ.put_other hne).trans h1,h2,fun o ho=>?_⟩
   rw[<-h3 o ho]
   exact cw (hkeep x (h.lt_of_ghost h1) hne) o
  refine⟨Γ.put b f.length,fun x=>if x=b then some (.tmp ts 0)else Option.none,{
   wi:=fun x m hx=>by
    by_cases hxb:x=b
    ·subst hxb;rw[Γ.put_same]at hx;cases hx;exact⟨cur',e,(0,0),hcur,by omega⟩
    ·rw[Γ.put_other hxb]at hx
     obtain⟨c,t',fr,h1,h2⟩:=h.wi x m hx
     exact⟨c,t',fr,(hkeep x (h.lt_of_ghost hx) hxb).trans h1,h2⟩
   sz:=by simp[iB,hn]
   tm:=fun i p u hp hu=>by
    rcases QF hp with rfl|⟨rfl,rfl⟩
    ·exact .undef u
    ·rw [hv] at hu; cases hu
     have:=VR.slice (Γ:=Γ.put b f.length) (bs:=[]) (w:=w') (f.map cS) b 0 cap f.length 1 (fun i _=>.string ⟨(f[i]!).toArray⟩) (by decide) (by simpa using hfc) (Γ.put_same _ _) (by simp)
      (fun i x hx=>by rw[vaB]at hx;cases hf:f[i]? with
       |none=>rw[hf]at hx;cases hx
       |some s=>rw[hf]at hx;cases hx;rfl)
      (fun i x k q hx hq=>by
       rw[vaB]at hx
       cases hf:f[i]? with
       |none=>rw[hf]at hx;cases hx
       |some s=>
        rw[hf]at hx;cases hx
        have hil:=av hf
        have hk:k=0:=by have:=av hq;simp[cS]at this;exact this
        subst hk
        rw[show 0+i * 1+0=i by omega,cell_of_row w' b i cur' e _ hcur]
        exact hget i hil)
      (fun i x k q hx hq=>by
       rw[vaB]at hx
       cases hf:f[i]? with
       |none=>rw[hf]at hx;cases hx
       |some s=>
        rw[hf]at hx;cases hx
        have hk:k=0:=by have:=av hq;simp[cS]at this;exact this
        subst hk
        simp[cS]at hq;subst hq
        have:f[i]! =s:=by rw[List.getElem!_eq_getElem?_getD,hf];rfl
        rw[this]
        exact .str s)
     rw[vaF]at this
     exact this
   bl:=rfl
   bx:=fun i b B hi=>by simp at hi
   inj:=fun i j b hi=>by simp at hi
   bn:=fun i b hi=>by simp at hi
   on:=fun x L hL=>by
    split at hL
    ·rename_i hxb;subst hxb;exact⟨vaJ hblt hsz,.inr hbe⟩
    ·cases hL
   ot:=fun t' k e' he'=>by
    simp[iB]at he'
    obtain⟨⟨rfl,rfl⟩,rfl⟩:=he'
    refine⟨_,_,hv,rfl,⟨f.length,f.map fun s=>Value.string ⟨s.toArray⟩,⟨by simp[he],.inr ⟨b,cap,cur',rfl,vaN _,hcur,hfc,hcm,by rw[he];omega,by rw[he,vcJ];exact htake⟩⟩,fun x hx=>?_⟩,fun x hx=>?_⟩
    ·simp[Value.ownBlock]at hx;subst hx;rw[he,vcJ];exact Γ.put_same _ _
    ·simp[Value.ownBlock]at hx;subst hx;simp
   ob:=fun i j e' cs own b hB=>by simp[iB]at hB
   gl:=fun g cs hg=>(hE.gl g cs (by rw[<-hE.ge];exact hg)).mono hle (.refl _)
   gc:=h.gc
   gx:=h.gx
   step:={
    os:=hos.trans h.step.os
    tape:=htp.trans h.step.tape
    output:=hout.trans h.step.output
    size:=vaI h.step.size hsz
    keep:=fun x hx hT=>by
     have hne:x≠b:=fun hxb=>by omega
     obtain⟨k1,k2⟩:=h.step.keep x hx hT
     exact⟨(hkeep x (vaJ hx h.step.size) hne).trans k1,(Γ.put_other hne).trans k2⟩
    le:=hle}}⟩
theorem Mu(x:Option Addr)(n c:Nat):kQ (.slice x n c) 0=some (.slice x n c):=rfl
theorem JW{g:FuncId}{e:TypeId}{f:List ag->List ag}{R:Option Addr->Nat->Nat->Value}(hI:qb9 P g e (fun s=>Value.string ⟨s.toArray⟩) f R)(he:P.cellsOf e=1){ops:Array Oper}{rest:List Nat}{o1 o2:Oper}{n t d1 d2 ts:Nat}{l:List ag}{tys:Array TypeId}
  (hla:l.length<=eY) (ho1:ops[0]? =some o1) (ho2:ops[1]? =some o2)
  (h1:o1.op=.move (.tmp t)) (h1d:o1.dst=some d1) (h1g:o1.guard=none) (h2:o2.op=.call {callee:=.value (.func g),args:=#[.tmp d1],argTypes:=tys}) (h2d:o2.dst=some d2) (h2g:o2.guard=none)
  (hn:t<n/\d1<n/\d2<n/\t≠d1/\t≠d2/\d1≠d2) (hts:(ts=t/\(f l).length=l.length)\/(ts=d2/\∀x k c,R x k c=.slice x k c))
  {E:uy} {a:Act} {w:World} {Q:Exit->Act->World->Prop} (hE:IP GE 0 E) (hR:V4 P E [] (iB n t l e) a w)
  (hfin:∀a' w',a'.defers=a.defers->(∃Γ' ow',SR P E Γ' [] ow' w' a'.tmps (iB n ts (f l) e))->wpOps P ops Q rest a' w'):wpOps P ops Q (0::1::rest) a w:=by
 obtain⟨n1,n2,n3,n4,n5,n6⟩:=hn
 obtain⟨Γ,bs,ow,h,hk⟩:=hR
 have hbs:bs=[]:=vau h.bl
 have hsz:a.tmps.size=n:=by rw[h.sz];simp[iB]
 obtain⟨u,v,hu,hpv,hown,hob⟩:=h.ot t 0 e (by simp[iB])
 have hvr:=h.tm t (sl cS l) u (by simp[iB,n1]) hu
 have hu0:a.eval (.tmp t)=u:=oX hu
 rw[wpOps_cons]
 unfold wpOp
 rw[ho1]
 simp only
 rw[vad (by simp[Region.wanted,h1g])]
 refine .inl ?_
 unfold Oper.wp
 rw[show(execOp a.eval o1).run P w=.ok (.value u) w by simp[execOp,h1,hu0],Oper.upon_value]
 rw[wpOps_cons]
 unfold wpOp
 rw[ho2]
 simp only
 rw[vad (by simp[Region.wanted,h2g])]
 refine .inl ?_
 unfold Oper.wp
 have hu1:(a.put o1.dst u).eval (.tmp d1)=u:=by
  refine oX ?_
  rw[h1d]
  show(a.tmps.setIfInBounds d1 u)[d1]? =some u
  simp[hsz,n2]
 rw[show(execOp (a.put o1.dst u).eval o2).run P w=.ok (.enter g #[u]) w by
  simp only[execOp,h2]
  simp[resolve,Act.eval,Deferred.ofValue,invoke,hI.call]
  have hu2:(a.put o1.dst u).tmps.getD d1 undef=u:=hu1
  rw[vaz]at hu2
  exact hu2,Oper.upon_enter]
 have hget:∀r:Value,(((a.put o1.dst u).put o2.dst r).tmps)[t]? =some u/\(((a.put o1.dst u).put o2.dst r).tmps)[d2]? =some r/\(((a.put o1.dst u).put o2.dst r).tmps).size=n:=by
  intro r
  rw[h1d,h2d]
  show((a.tmps.setIfInBounds d1 u).setIfInBounds d2 r)[t]? =some u/\((a.tmps.setIfInBounds d1 u).setIfInBounds d2 r)[d2]? =some r/\((a.tmps.setIfInBounds d1 u).setIfInBounds d2 r).size=n
  refine⟨?_,?_,by simp[hsz]⟩
  ·rw[vaT n5.symm,vaT n4.symm];exact hu
  ·rw[Array.getElem?_setIfInBounds_self_of_lt (by simp[hsz,n3])]
 have hdef:∀r:Value,((a.put o1.dst u).put o2.dst r).defers=a.defers:=fun r=>(dz _ _ _).trans (dz _ _ _)
 have fin:∀(r:Value) (w':World),(∃Γ' ow',SR P E Γ' [] ow' w' ((a.put o1.dst u).put o2.dst r).tmps (iB n ts (f l) e))->wpOps P ops Q rest ((a.put o1.dst u).put o2.dst r) w':=
  fun r w' hS=>hfin _ _ (hdef r) hS
 have hlt:ts<n:=by rcases hts with⟨rfl,_⟩|⟨rfl,_⟩<;>assumption
 unfold sl at hvr
 generalize hes:l.map cS=es at hvr
 cases hvr with
 | sliceNil =>
  have hl:l=[]:=by cases l with
   |nil=>rfl
   |cons x l=>simp at hes
  subst hl
  refine(hI.none w).2.mono fun r w' hr=>?_
  obtain⟨rfl,rfl⟩:=hr
  refine fin _ _ (LO h hE hbs he (t:=t) (hget _).2.2 hlt (v:=.slice none 0 0) ?_ rfl rfl rfl (vah _) (.inl ⟨rfl,(hI.none w').1,rfl⟩))
  rcases hts with⟨rfl,_⟩|⟨rfl,hR⟩
  ·exact(hget _).1
  ·rw[(hget _).2.1,hR]
 | sliceE x cap =>
  have hl:l=[]:=by cases l with
   |nil=>rfl
   |cons x l=>simp at hes
  subst hl
  rw[Mu]at hpv
  cases hpv
  obtain⟨k,xs,⟨hx1,hx2⟩,hx3⟩:=hown
  rcases hx2 with⟨hx2,_⟩|⟨g',cap',cur,hx2,_,hheap,hkc,hcm,hcs,htake⟩
  ·cases hx2
  ·cases hx2
   rw[he,vcJ]at hcs
   have hcall:=hI.row w g' cap cur [] hheap hcs (vaN _) hcm hla (by simp)
   refine hcall.mono fun r w' hr=>?_
   obtain⟨rfl,q1,q2,q3,q4,q5,q6,cur',q7,q8,q9⟩:=hr
   refine fin _ _ (LO h hE hbs he (t:=t) (hget _).2.2 hlt (v:=.slice (some ⟨g',0,none⟩) (f []).length cap) ?_ q2 q3 q4 q5 (.inr ⟨g',cap,cur',rfl,hob g' rfl,q1,hcm,q6,q7,q8,q9⟩))
   rcases hts with⟨rfl,hfl⟩|⟨rfl,hR⟩
   ·rw[(hget _).1,hfl];rfl
   ·rw[(hget _).2.1,hR]
 | slice _ b off cap m sz vals hz0 hcap hg hm hszs hc hv =>
  rw[Mu]at hpv
  cases hpv
  obtain⟨k,xs,⟨hx1,hx2⟩,hx3⟩:=hown
  rcases hx2 with⟨hx2,_⟩|⟨g',cap',cur,hx2,_,hheap,hkc,hcm,hcs,htake⟩
  ·cases hx2
  ·cases hx2
   rw[he,vcJ]at hcs htake
   have hlen:es.length=l.length:=by rw[<-hes];simp
   have hrow:cur.toList.take l.length=l.map fun s=>Value.string ⟨s.toArray⟩:=by
    refine vbn fun i=>?_
    by_cases hi:i<l.length
    ·rw[vap hi]
     simp only[va2,vaB,vab hi,vam]
     have hx:es[i]? =some (cS l[i]):=by rw[<-hes];simp[hi]
     have hs1:sz=1:=by have:=hszs i _ hx;simp[cS]at this;exact this.symm
     subst hs1
     have e1:=hc i _ 0 (.str l[i]) hx rfl
     have e2:=hv i _ 0 (.str l[i]) hx rfl
     rw[show 0+i * 1+0=i by omega,cell_of_row w b i cur e _ hheap]at e1
     rw[e1]
     generalize vals i 0=q at e2
     cases e2
     rfl
    ·rw[vat (by simp;omega),vat (by simp;omega)]
   have hcall:=hI.row w b cap cur l hheap hcs (by omega) hcm hla hrow
   rw[<-hlen]at hcall
   refine hcall.mono fun r w' hr=>?_
   obtain⟨rfl,q1,q2,q3,q4,q5,q6,cur',q7,q8,q9⟩:=hr
   refine fin _ _ (LO h hE hbs he (t:=t) (hget _).2.2 hlt (v:=.slice (some ⟨b,0,none⟩) (f l).length cap) ?_ q2 q3 q4 q5 (.inr ⟨b,cap,cur',rfl,hob b rfl,q1,hcm,q6,q7,q8,q9⟩))
   rcases hts with⟨rfl,hfl⟩|⟨rfl,hR⟩
   ·rw[(hget _).1,hfl,hlen]
   ·rw[(hget _).2.1,hR]
section
variable{g:FuncId}{e:TypeId}{f:List ag->List ag}{R:Option Addr->Nat->Nat->Value}{id:Nat}{o1 o2 o3:Oper}{n t d1 d2 d3 ts:Nat}{l:List ag}{tys:Array TypeId}
theorem aU.inplace(hI:qb9 P g e (fun s=>Value.string ⟨s.toArray⟩) f R)(he:P.cellsOf e=1)(hla:l.length<=eY)
  (h1:o1.op=.move (.tmp t)) (h1d:o1.dst=some d1) (h1g:o1.guard=none) (h2:o2.op=.call {callee:=.value (.func g),args:=#[.tmp d1],argTypes:=tys}) (h2d:o2.dst=some d2) (h2g:o2.guard=none)
  (hn:t<n/\d1<n/\d2<n/\t≠d1/\t≠d2/\d1≠d2) (hts:(ts=t/\(f l).length=l.length)\/(ts=d2/\∀x k c,R x k c=.slice x k c)):
  aU P GE 0 (.region id #[o1,o2] false) (EX .normal (iB n ts (f l) e)) (iB n t l e):=by
 intro ro E bs0 a w hE hb hR
 have hb0:bs0=[]:=vau hb
 subst hb0
 refine H8 (by simp[gq,h1,h2]) (by rintro⟨_,_,_,_,_,h,_⟩;cases h) ?_
 show wpOps P #[o1,o2] _ [0,1] a w
 refine JW (ts:=ts) hI he hla rfl rfl h1 h1d h1g h2 h2d h2g hn hts hE hR fun a' w' hd hS=>?_
 obtain⟨Γ',ow',hS⟩:=hS
 exact⟨hd,_,⟨Γ',[],ow',hS,fun i hi=>absurd hi (vaS _)⟩,rfl,rfl⟩
theorem aU.inplace3(hI:qb9 P g e (fun s=>Value.string ⟨s.toArray⟩) f R)(he:P.cellsOf e=1)(hla:l.length<=eY)
  (h1:o1.op=.move (.tmp t)) (h1d:o1.dst=some d1) (h1g:o1.guard=none) (h2:o2.op=.call {callee:=.value (.func g),args:=#[.tmp d1],argTypes:=tys}) (h2d:o2.dst=some d2) (h2g:o2.guard=none)
  (hn:t<n/\d1<n/\d2<n/\t≠d1/\t≠d2/\d1≠d2) (hR':∀x k c,R x k c=.slice x k c) (h3:o3.op=.assign (.tmp d2)) (h3d:o3.dst=some d3) (h3g:o3.guard=none) (hn3:d3<n) (hdd:d3≠d2):
  aU P GE 0 (.region id #[o1,o2,o3] false) (EX .normal (iB n d3 (f l) e)) (iB n t l e):=by
 intro ro E bs0 a w hE hb hR
 have hb0:bs0=[]:=vau hb
 subst hb0
 refine H8 (by simp[gq,h1,h2,h3]) (by rintro⟨_,_,_,_,_,h,_⟩;cases h) ?_
 show wpOps P #[o1,o2,o3] _ [0,1,2] a w
 refine JW (ts:=d2) hI he hla rfl rfl h1 h1d h1g h2 h2d h2g hn (.inr ⟨rfl,hR'⟩) hE hR fun a' w' hd hS=>?_
 obtain⟨Γ',ow',hS⟩:=hS
 rw[wpOps_cons]
 unfold wpOp
 rw[show(#[o1,o2,o3]:Array Oper)[2]? =some o3 from rfl]
 simp only
 rw[vad (by simp[Region.wanted,h3g])]
 refine .inl ?_
 refine Oper.wp_mono (fun a2 w2 hA=>?_) (Cw (id:=0) (bs:=[]) (K:=fun st=>vU P 0 st (iB n d3 (f l) e)) hS (.inl h3) h3d (by simpa[iB]using hn3) ?_ _)
 ·obtain⟨hd2,Γ2,bs2,ow2,st2,hS2,hW,hbs2⟩:=hA
  have:bs2=[]:=by
   rcases hbs2 with rfl|⟨hm,_⟩
   ·rfl
   ·simp[h3,aS]at hm
  subst this
  have hrel:=hW E [] a2 w2 rfl ⟨Γ2,[],ow2,hS2,fun i hi=>absurd hi (vaS _)⟩
  exact⟨hd2.trans hd,_,hrel,rfl,rfl⟩
 ·have hg:(iB n d2 (f l) e).tmps.getD d2 .undef=sl cS (f l):=by
   simp[iB,vac,hn.2.2.1]
  rw[hg]
  refine vU.trans (vU.forget (iB n d3 (f l) e).tmps [] [((d3,0),e)] ?_) ?_
  ·intro x hx
   simp at hx
   subst hx
   simp[iB,jq,cx,Ne.symm hdd]
  ·have hfg:NR ((iB n d2 (f l) e).tmps.set d3 (sl cS (f l))) (iB n d3 (f l) e).tmps=(iB n d3 (f l) e).tmps:=by
    refine qcH (by simp[iB]) fun i q hq=>?_
    rcases QF hq with rfl|⟨rfl,rfl⟩
    ·exact .inl rfl
    ·exact .inr (by simp[iB,hn3])
   show vU P 0 ⟨NR ((iB n d2 (f l) e).tmps.set d3 (sl cS (f l))) (iB n d3 (f l) e).tmps,U3 [] [],_⟩ _
   rw[hfg]
   exact .refl _
end
end
open Go Go.RowKit Go.WideShapes Go.ChangeShapes Go.ChangeAt
def Ca(W:World):bw:=fun b=>match W.heap[b]? with
 |some (.cells c _ _)=>some c.size
 |_=>none
theorem ST{W:World}{b:Nat}{c:Array Value}{t:TypeId}{fr:Nat×Nat}(h:W.heap[b]? =some (.cells c t fr)):Ca W b=some c.size:=by unfold Ca;rw[h]
def qi7(W:World)(x:Nat×List PVal):Prop:=iy 0 x.2/\∃c t fr,W.heap[x.1]? =some (.cells c t fr)/\c.size=x.2.length/\∀(i:Nat) p v,x.2[i]? =some p->c[i]? =some v->VR (Ca W) [] W p v
section
variable{P:Program}{GE:List (Nat×List PVal)}
theorem XZ{k:FuncId}{pargs:List PVal}{args:Array Value}{W:World}{b:Bool}(hC:C P GE k pargs [] [] (.bool b) [] [])(hl:args.size=pargs.length)
  (hv:∀(i:Nat) p v,pargs[i]? =some p->args[i]? =some v->VR (Ca W) [] W p v) (hG:∀x∈GE,qi7 W x):Calls P k args W fun e W'=>e=.returned (.bool b)/\Below W.heap.size W W':=by
 have hS:SR P ⟨GE,Ca W,W,cr [] fun _=>none⟩ (Ca W) [] (fun _=>none) W args ⟨pargs,[],[]⟩:={
  wi:=fun b n hb=>by
   unfold Ca at hb
   split at hb
   ·rename_i c t fr hh;cases hb;exact⟨c,t,fr,hh,vah _⟩
   ·cases hb
  sz:=hl
  tm:=hv
  bl:=rfl
  bx:=fun i b B hi=>by simp at hi
  inj:=fun i j b hi=>by simp at hi
  bn:=fun i b hi=>by simp at hi
  on:=fun b L hL=>by cases hL
  ot:=fun t k e he=>by simp at he
  ob:=fun i j e cs own b hB=>by simp at hB
  gl:=fun g cs hg=>by
   obtain⟨_,c,t,fr,h1,h2,h3⟩:=hG _ hg
   refine .eptr cs g 0 c.size (fun k=>c.getD k undef) (ST h1) (by simp only at h2;omega) (fun k p hp=>?_) (fun k p hp=>?_)
   ·have hk:k<c.size:=by have:=av hp;simp only at h2;omega
    rw[vaK,cell_of_row W g k c t fr h1]
    simp[vaz,hk]
   ·have hk:k<c.size:=by have:=av hp;simp only at h2;omega
    exact h3 k p _ hp (by simp[vaz,hk])
  gc:=fun g cs hg=>(hG _ hg).1
  gx:=fun g cs hg=>by
   obtain⟨_,c,t,fr,h1,h2,_⟩:=hG _ hg
   refine⟨(var.1 h1).1,fun hT=>?_,c,t,fr,h1,h2⟩
   rcases hT with⟨i,hi⟩|hT
   ·simp at hi
   ·exact hT rfl
  step:=.refl _ _ _ _}
 refine(hC.2 (Ca W) [] (fun _=>none) W args hS).mono fun e W' he=>?_
 obtain⟨v,Γ',ow',rfl,hS'⟩:=he
 have hv':=hS'.tm 0 (.bool b) v rfl rfl
 cases hv'
 refine⟨rfl,hS'.step.os,hS'.step.tape,hS'.step.output,hS'.step.size,fun k hk=>(hS'.step.keep k hk fun hT=>?_).1⟩
 rcases hT with⟨i,hi⟩|hT
 ·simp at hi
 ·exact hT rfl
end
section
variable{H:Type}{enc:TypeId×Value->H}{P:Program}{w:World}{base:Nat}{spare:Nat->Bool}{held:Bool}{t:TypeId}{fuel:Nat}
theorem SG{f:Func}{s:ChangeSpec}{apart fresh handsOn again:Bool}{W W':World}{args:Array Value}{v:Value}{ds gs:List (DataW H)}{before pa pv:List MemPlace}
    (hW:DataW.Whole enc P f.params.toList s.vars apart W args.toList ds gs before)
    (hres:∀(b:Nat) (sp:Nat->Bool) (hd:Bool),DataW.TrodAll enc P W' b sp hd f.resultTypes.toList (v.resultList f.resultTypes.size) (s.fn H (ds++gs)).results [])
    (hargs:∀sp:Nat->Bool,(∀p∈before,sp p.block=true)->DataW.TrodAll enc P W' 0 sp true f.params.toList args.toList (s.fn H (ds++gs)).args pa)
    (hvars:∀sp:Nat->Bool,(∀p∈before,sp p.block=true)->DataW.TrodVars enc P W' sp s.vars (s.fn H (ds++gs)).vars pv)
    (hps:before=pa++pv) (hb:Below W.heap.size W W')
    (hok:∀(j:Nat) (t:TypeId) (r:Value),f.resultTypes[j]? =some t->(v.resultList f.resultTypes.size)[j]? =some r->Value.okWide P W' .any 0 t r):
    s.post enc P f apart fresh handsOn again W args v W':=by
  have hlt:∀p∈before,p.block<W.heap.size:=fun p hp=>hW.lt p hp
  have hold:∀p∈before,(fun b=>decide (b<W.heap.size)) p.block=true:=fun p hp=>by simpa using hlt p hp
  refine⟨ds,gs,before,[],pa,pv,hW,hres _ _ _,hargs _ hold,hvars _ hold,World.keptBut_mono (fun p hp=>⟨hp,?_⟩) (hb.frame (·∈before)),fun _=>?_⟩
  · rw [hps,vaE] at hp
    exact Or.inr hp
  · obtain ⟨_,_,_,_,_,hz,hn⟩:=hW
    refine⟨hok,_,_,([]++pa)++pv,⟨[]++pa,pv,trodAll_append (hargs _ (fun _ _=>rfl)) (hres _ _ _),hvars _ (fun _ _=>rfl),rfl,?_,?_⟩,?_⟩
    · intro b off hp
      have hin:MemPlace.cell b off∈before:=by rw[hps];simpa using hp
      rw[hb.frozen (hlt _ hin)]
      exact hz b off hin
    · intro ha
      have:=hn ha
      rw[hps]at this
      simpa using this
    · intro p hp _
      rw[hps]
      simpa using hp
theorem SW(hl:laidOutB P=true){W W':World}(hb:Below W.heap.size W W'){sp:Nat->Bool}:∀{ts:List TypeId} {vs:List Value} {ds:List (DataW H)} {ps:List MemPlace},(∀t∈ts,P.readableRec t=true/\t<P.types.size)->
  DataW.TrodAll enc P W 0 (fun _=>true) true ts vs ds ps->(∀p∈ps,p.block<W.heap.size)->(∀p∈ps,sp p.block=true)->DataW.TrodAll enc P W' 0 sp true ts vs ds ps
 |[],[],[],_,_,h,_,_=>h
 | t :: _,_ :: _,_ :: _,_,ht,⟨p,q,h1,h2,e⟩,hlt,hs =>
  ⟨p,q,WideElems.Trod_stays hl (ht t (by simp)).1 (ht t (by simp)).2 h1 (fun x hx=>hb.same (hlt x (by rw[e];exact vbf _ hx))) (fun x hx=>hs x (by rw[e];exact vbf _ hx)),
   SW hl hb (fun t ht'=>ht t (by simp[ht'])) h2 (fun x hx=>hlt x (by rw[e];exact vbj _ hx)) (fun x hx=>hs x (by rw[e];exact vbj _ hx)),e⟩
theorem qc2{f:Func}{s:ChangeSpec}{W W':World}{args:Array Value}{ds gs:List (DataW H)}{before:List MemPlace}(hl:laidOutB P=true)(hr:f.resultTypes=#[t])(hbt:P.underlying t=some .bool)(hsv:s.vars=[])
  (hfn:(s.fn H (ds++gs)).results=[.lit (.bool true)]/\(s.fn H (ds++gs)).args=ds/\(s.fn H (ds++gs)).vars=[]) (hts:∀t∈f.params.toList,P.readableRec t=true/\t<P.types.size)
  (hW:DataW.Whole enc P f.params.toList s.vars false W args.toList ds gs before) (hb:Below W.heap.size W W'):s.post enc P f false true false false W args (.bool true) W':=by
 have hW':=hW
 obtain⟨p,q,hA,hV,rfl,_,_⟩:=hW
 rw[hsv]at hV
 obtain⟨rfl,rfl⟩:=trodVars_none hV
 have hlt:∀x∈p,x.block<W.heap.size:=fun x hx=>hW'.lt x (by simpa using hx)
 refine SG (pa:=p) (pv:=[]) hW' (fun b sp hd=>?_) (fun sp hs=>?_) (fun sp _=>?_) rfl hb (fun j t' r hj hv=>?_)
 ·rw[hr,hfn.1]
  exact trodAll_cons_mk (shut_bool hbt _) trodAll_mk0
 ·rw[hfn.2.1]
  exact SW hl hb hts hA hlt (fun x hx=>hs x (by simpa using hx))
 ·rw[hsv,hfn.2.2];rfl
 ·exact ok_one hr rfl (okWide_bool_mk hbt _) j t' r hj hv
theorem Wx(a:Addr)(i:Nat)(h:a.spot=none):a.add i=⟨a.block,a.off+i,none⟩:=by
 obtain⟨b,o,sp⟩:=a
 simp only at h
 subst h
 unfold Addr.add
 split
 ·rename_i hi;subst hi;rfl
 ·rfl
end
section
variable{P:Program}{W:World}
theorem W6:∀{laid:List (String×DataW Unit)} {ps:List MemPlace} {name:String} {d:DataW Unit},DataW.LaidVars P W laid ps->(name,d)∈laid->
  ∃g t cs fuel p,P.globalNamed name=some g/\(P.globals[g]?).map (·.type)=some t/\W.var? P name=some cs/\DataW.trod (fun _=>()) P W 0 (fun _=>true) false fuel t cs.toList=some (d,p)
 |[],_,_,_,_,hm=>by cases hm
 |(n,d')::r,ps,name,d,⟨g,t,cs,fuel,p,q,h1,h2,h3,h4,h5,_⟩,hm=>by
  cases hm with
  |head=>exact⟨g,t,cs,fuel,p,h1,h2,h3,h4⟩
  |tail _ hm=>exact W6 h5 hm
theorem qd6{name:String}{g:Nat}{cs:Array Value}(hg:P.globalNamed name=some g)(h:W.var? P name=some cs):∃t fr,W.heap[g]? =some (.cells cs t fr):=by
 unfold World.var? at h
 rw[hg]at h
 simp only[vaa]at h
 split at h
 ·rename_i c t fr hh
  cases h
  exact⟨t,fr,hh⟩
 ·cases h
theorem qgM{x:Nat}{pv:List PVal}{cs:Array Value}{t:TypeId}{fr:Nat×Nat}(hh:W.heap[x]? =some (.cells cs t fr))(hcl:iy 0 pv)(hs:cs.size=pv.length)(hv:∀(i:Nat) p v,pv[i]? =some p->cs[i]? =some v->VR (Ca W) [] W p v):qi7 W (x,pv):=
 ⟨hcl,cs,t,fr,hh,hs,hv⟩
theorem Qc{laid:List (String×DataW Unit)}{name:String}{d:DataW Unit}{g:Nat}{t e:TypeId}{n:Nat}{k:IntKind}{zs:List Int}(hL:laidMet P laid W)(hm:(name,d)∈laid)(hd:d=Lib.tabData k zs)
  (hg:P.globalNamed name=some g) (hty:(P.globals[g]?).map (·.type)=some t) (ht:P.underlying t=some (.array n e)) (he:P.underlying e=some (.int k)) (hce:P.cellsOf e=1) (hct:P.cellsOf t=n):qi7 W (g,zs.map (PVal.int k)):=by
 obtain⟨ps,hV,_⟩:=hL
 obtain⟨g',t',cs,fuel,p,h1,h2,h3,h4⟩:=W6 hV hm
 obtain rfl:=vbC (hg.symm.trans h1)
 obtain rfl:=vbC (hty.symm.trans h2)
 subst hd
 have hc:=Lib.cells_of_tab ht he hce hct h4
 obtain⟨ty,fr,hh⟩:=qd6 hg h3
 refine qgM hh (qcu fun q hq=>?_) (by simpa using va9 List.length hc) (fun i q v hq hv=>?_)
 ·obtain⟨z,_,rfl⟩:=vaq.1 hq
  simp[PVal.cl]
 ·rw[<-va2,hc]at hv
  simp only[vaB,vaX]at hq hv
  obtain⟨z,hz,rfl⟩:=hq
  obtain⟨z',hz',rfl⟩:=hv
  cases hz.symm.trans hz'
  exact .int _ _
end
def qiC(w:World)(l:List (Nat×Array Value)):World:={w with heap:=l.foldl (fun h x=>h.modify x.1 fun|.cells _ t fr=>.cells x.2 t fr|o=>o) w.heap}
def ql3:PVal->Value
 |.int k n=>.int k n
 |.str s=>.string ⟨s.toArray⟩
 |.bool b=>.bool b
 |_=>undef
def qg4(l:List (Nat×List PVal)):List (Nat×Array Value):=l.map fun x=>(x.1,(x.2.map ql3).toArray)
set_option linter.unusedVariables false
mutual
def pm:PVal->Nat
 |.str s=>s.length+1
 |.slice es=>bZ es+1
 |.int _ _=>1
 |.bool _=>1
 |_=>0
def gf:List PVal->Nat
 |[]=>0
 |p::l=>pm p+gf l
def bZ:List (List PVal)->Nat
 |[]=>0
 |x::r=>gf x+bZ r
end
theorem eG:∀(a b:List PVal),gf (a++b)=gf a+gf b
 |[],b=>by simp[gf]
 |p::a,b=>by simp only[vaG,gf,eG a b];omega
def qjN(P:Program)(S:TypeId->List PVal->Prop):List Field->List PVal->Prop
 |[],l=>l=[]
 |f::fs,l=>∃a b,l=a++b/\a.length=P.cellsOf f.type/\S f.type a/\qjN P S fs b
def Sh(P:Program):Nat->TypeId->List PVal->Prop
 |0,_,_=>False
 |n+1,t,l=>match P.underlying t with
  |some .bool=>∃b,l=[.bool b]
  |some (.int k)=>∃i,l=[.int k i]/\(Lit.int k i).wf=true
  |some .string=>∃s:ag,l=[.str s]/\s.length<=maxLen
  |some (.slice e)=>∃es,l=[.slice es]/\es.length<=maxLen/\∀x∈es,Sh P n e x
  |some (.struct fs)=>qjN P (Sh P n) fs.toList l
  |_=>True
def F4(P:Program):Nat->List Field->Nat->Bool
 |o,[],n=>decide (o=n)
 |o,f::fs,n=>decide (f.offset=o)&&F4 P (o+P.cellsOf f.type) fs n
theorem Z0{α:Type}{Q:Nat->α->Prop}:∀{n:Nat},(∀i,i<n->∃x,Q i x)->∃l:List α,l.length=n/\∀(i:Nat) x,l[i]? =some x->Q i x
 |0,_=>⟨[],rfl,fun i x h=>by simp at h⟩
 | n + 1,h => by
  obtain⟨l,hl,hq⟩:=Z0 (n:=n) fun i hi=>h i (by omega)
  obtain⟨x,hx⟩:=h n (by omega)
  refine⟨l++[x],by simp[hl],fun i y hy=>?_⟩
  by_cases hi:i<l.length
  ·rw[vaf hi]at hy;exact hq i y hy
  ·have hlt:=av hy
   simp at hlt
   have:i=l.length:=by omega
   subst this
   rw[vai (vah _)]at hy
   simp at hy;subst hy;rw[hl];exact hx
theorem Zx{H:Type}:∀{es:List (List PVal)} {ds:List (DataW H)},es.length=ds.length->(∀(i:Nat) x d,es[i]? =some x->ds[i]? =some d->gf x<=Rows.uptoBulk d)->bZ es<=Rows.uptoBulkAll ds
 |[],[],_,_=>by simp[bZ,Rows.uptoBulkAll]
 |x::es,d::ds,hl,h=>by
  have h1:=h 0 x d rfl rfl
  have h2:=Zx (es:=es) (ds:=ds) (by simpa using hl) fun i x d hx hd=>h (i+1) x d (by simpa using hx) (by simpa using hd)
  simp only[bZ,Rows.uptoBulkAll];omega
section
variable{H:Type}{enc:TypeId×Value->H}{P:Program}{W:World}{base:Nat}{sp:Nat->Bool}{held:Bool}
def qhU(P:Program)(W:World)(n:Nat)(t:TypeId)(cs:List Value)(b:Nat):Prop:=
 ∃l:List PVal,l.length=cs.length/\(∀(i:Nat) p v,l[i]? =some p->cs[i]? =some v->VR (Ca W) [] W p v)/\Sh P n t l/\gf l<=b
theorem qhU.one{n:Nat}{t:TypeId}{p:PVal}{v:Value}{b:Nat}(h:VR (Ca W) [] W p v)(hs:Sh P n t [p])(hb:pm p<=b):qhU P W n t [v] b:=
 ⟨[p],rfl,fun i q u hq hu=>by
  cases i with
  |zero=>simp at hq hu;subst hq;subst hu;exact h
  |succ i=>simp at hq,hs,by simp only[gf];omega⟩
theorem Ti{L:List TypeId}{fuel:Nat}(ih:∀(t:TypeId),t∈L->∀(cs:List Value) (d:DataW H) (p:List MemPlace),DataW.trod enc P W base sp held fuel t cs=some (d,p)->qhU P W fuel t cs (Rows.uptoBulk d)){cs:List Value}:∀{fs:List Field} {o n:Nat} {xs:List (DataW H×List MemPlace)},(∀f∈fs,f.type∈L)->n<=cs.length->F4 P o fs n=true->fs.mapM (fun f=>DataW.trod enc P W base sp held fuel f.type ((cs.drop f.offset).take (P.cellsOf f.type)))=some xs->
   o<=n/\∃l:List PVal,l.length=n - o/\(∀(i:Nat) p v,l[i]? =some p->cs[o+i]? =some v->VR (Ca W) [] W p v)/\qjN P (Sh P fuel) fs l/\gf l<=Rows.uptoBulkAll (xs.map (·.1))
 |[],o,n,xs,_,hn,hc,h=>by
  unfold F4 at hc
  have:o=n:=by simpa using hc
  subst this
  exact⟨vah _,[],by simp,fun i p v hp=>by simp at hp,rfl,by simp[gf]⟩
 | f :: fs,o,n,xs,hL,hn,hc,h => by
  unfold F4 at hc
  simp only[vaj,vao]at hc
  obtain⟨hfo,hc⟩:=hc
  simp only[vbS,Option.bind_eq_bind,vbo,Option.pure_def,vav]at h
  obtain⟨⟨d,p⟩,hd,xs',hxs,rfl⟩:=h
  obtain⟨ho,l2,k1,k2,k3,k4⟩:=Ti ih (fun g hg=>hL g (va0 _ hg)) hn hc hxs
  obtain⟨l1,q1,q2,q3,q4⟩:=ih _ (hL f (by simp)) _ _ _ hd
  have hl1:l1.length=P.cellsOf f.type:=by rw[q1,vaO,vaY,hfo];omega
  refine⟨by omega,l1++l2,by simp[hl1,k1];omega,fun i q v hq hv=>?_,⟨l1,l2,rfl,hl1,q3,k3⟩,by rw[eG];simp only[vay,Rows.uptoBulkAll];omega⟩
  by_cases hi:i<l1.length
  ·rw[vaf hi]at hq
   refine q2 i q v hq ?_
   rw[vap (by omega),vbg,hfo]
   exact hv
  ·rw[vai (by omega)]at hq
   refine k2 (i - l1.length) q v hq ?_
   rw[<-hv,hl1]
   congr 1
   rw[hl1]at hi
   omega
theorem qfp{fuel:Nat}{t:TypeId}{cs:List Value}{x:DataW H×List MemPlace}(ht:P.underlying t=some .bool)(h:DataW.trod enc P W base sp held (fuel+1) t cs=some x):∃b,cs=[.bool b]/\x.1=.lit (.bool b):=by
 unfold DataW.trod at h
 rw[ht]at h
 split at h<;>simp_all
 exact h▸rfl
theorem qg5{fuel:Nat}{t:TypeId}{cs:List Value}{k:IntKind}{x:DataW H×List MemPlace}(ht:P.underlying t=some (.int k))(h:DataW.trod enc P W base sp held (fuel+1) t cs=some x):∃n,cs=[.int k n]/\(Lit.int k n).wf=true/\x.1=.lit (.int k n):=by
 unfold DataW.trod at h
 rw[ht]at h
 cases cs with
 |nil=>simp at h
 | cons v r =>
  cases r with
  |cons _ _=>simp at h
  |nil=>
   cases v<;>simp at h
   obtain⟨⟨rfl,h1⟩,rfl⟩:=h
   exact⟨_,rfl,h1,rfl⟩
theorem qbX{fuel:Nat}{t:TypeId}{cs:List Value}{x:DataW H×List MemPlace}(ht:P.underlying t=some .string)(h:DataW.trod enc P W base sp held (fuel+1) t cs=some x):∃s:ByteArray,cs=[.string s]/\s.size<=maxLen/\x.1=.lit (.string s.data.toList):=by
 unfold DataW.trod at h
 rw[ht]at h
 split at h<;>simp_all
 exact h.2▸rfl
theorem qd2{fuel:Nat}{t e:TypeId}{cs:List Value}{x:DataW H×List MemPlace}(ht:P.underlying t=some (.slice e))(h:DataW.trod enc P W base sp held (fuel+1) t cs=some x):(cs=[.slice none 0 0]/\x.1=.nil)\/∃a len cap elems rest,cs=[.slice (some a) len cap]/\len<=cap/\cap<=maxLen/\x.1=.slice (elems.map (·.1)) rest/\
   (List.range len).mapM (fun i=>(W.cells? base (a.add (i * P.cellsOf e)) (P.cellsOf e)).bind (DataW.trod enc P W base sp held fuel e))=some elems:=by
 unfold DataW.trod at h
 rw[ht]at h
 cases cs with
 |nil=>simp at h
 | cons v r =>
  cases r with
  |cons _ _=>simp at h
  | nil =>
   cases v<;>try (simp at h;done)
   rename_i ad len cap
   cases ad with
   |none=>
    left
    match len,cap,h with
    |0,0,h=>simp at h;exact⟨rfl,h▸rfl⟩
    |0,c+1,h=>simp at h
    |n+1,c,h=>simp at h
   | some a =>
    right
    simp only at h
    split at h
    ·rename_i hc
     obtain⟨elems,h1,h2⟩:=vbo.1 h
     obtain⟨rest,h3,h4⟩:=vaX.1 h2
     exact⟨a,len,cap,elems,rest.map (·.1),rfl,hc.2.1,hc.2.2,by rw[<-h4],h1⟩
    ·cases h
theorem qbY{fuel:Nat}{t:TypeId}{cs:List Value}{fs:Array Field}{x:DataW H×List MemPlace}(ht:P.underlying t=some (.struct fs))(h:DataW.trod enc P W base sp held (fuel+1) t cs=some x):cs.length=P.cellsOf t/\∃xs,fs.toList.mapM (fun f=>DataW.trod enc P W base sp held fuel f.type ((cs.drop f.offset).take (P.cellsOf f.type)))=some xs/\x.1=.agg (xs.map (·.1)):=by
 unfold DataW.trod at h
 rw[ht]at h
 simp only at h
 split at h
 ·rename_i hl
  obtain⟨xs,h1,h2⟩:=vaX.1 h
  exact⟨hl,xs,h1,by rw[<-h2]⟩
 ·cases h
theorem Wy(a:Addr):a.add 0=a:=by unfold Addr.add;simp
theorem qbS{w:World}{a:Addr}{v:Value}(h:w.cell? a=some v):a.spot=none:=by
 unfold World.cell? at h
 split at h
 ·split at h
  ·cases h
  ·rename_i hs;simpa using hs
 ·cases h
structure qaz(P:Program)(L:List TypeId):Prop where
 st:∀t∈L,∀fs,P.underlying t=some (.struct fs)->F4 P 0 fs.toList (P.cellsOf t)=true/\∀f∈fs.toList,f.type∈L
 sl:∀t∈L,∀e,P.underlying t=some (.slice e)->0<P.cellsOf e/\e∈L
def qcI(P:Program)(L:List TypeId)(t:TypeId):Bool:=match P.underlying t with
 |some (.struct fs)=>F4 P 0 fs.toList (P.cellsOf t)&&fs.toList.all fun f=>L.contains f.type
 |some (.slice e)=>decide (0<P.cellsOf e)&&L.contains e
 |_=>true
theorem qeQ{L:List TypeId}(h:L.all (qcI P L)=true):qaz P L:=by
 refine⟨fun t ht fs hu=>?_,fun t ht e hu=>?_⟩
 ·have:=vax.1 h t ht
  unfold qcI at this
  rw[hu]at this
  simp only[vaj,vax,vbz]at this
  exact this
 ·have:=vax.1 h t ht
  unfold qcI at this
  rw[hu]at this
  simpa using this
theorem YO{L:List TypeId}(hF:qaz P L):∀(fuel:Nat) (t:TypeId),t∈L->∀(cs:List Value) (d:DataW H) (p:List MemPlace),DataW.trod enc P W base sp held fuel t cs=some (d,p)->qhU P W fuel t cs (Rows.uptoBulk d)
 |0,t,_,cs,d,p,h=>by simp[DataW.trod]at h
 | fuel + 1,t,htL,cs,d,p,h => by
  have ih:=YO hF fuel
  have other:(∀l,Sh P (fuel+1) t l)->qhU P W (fuel+1) t cs (Rows.uptoBulk d):=fun hs=>by
   refine⟨cs.map .val,by simp,fun i q v hq hv=>?_,hs _,?_⟩
   ·simp only[vaB,hv,vam,vav]at hq
    subst hq;exact .val v
   ·have:∀cs:List Value,gf (cs.map .val)=0:=by
     intro cs
     induction cs with
     |nil=>rfl
     |cons c cs ih=>simp only[vay,gf,ih,pm]
    rw[this];exact vaN _
  cases hu:P.underlying t with
  |none=>exact other fun l=>by unfold Sh;rw[hu];trivial
  | some u =>
   cases u with
   |bool=>
    obtain⟨b,rfl,hx⟩:=qfp hu h
    simp only at hx;subst hx
    exact .one (.bool b) (by unfold Sh;rw[hu];exact⟨b,rfl⟩) (by simp[pm,Rows.uptoBulk])
   |int k=>
    obtain⟨n,rfl,hw,hx⟩:=qg5 hu h
    simp only at hx;subst hx
    exact .one (.int k n) (by unfold Sh;rw[hu];exact⟨n,rfl,hw⟩) (by simp[pm,Rows.uptoBulk])
   |string=>
    obtain⟨s,rfl,hl,hx⟩:=qbX hu h
    simp only at hx;subst hx
    exact .one (.str s.data.toList) (by unfold Sh;rw[hu];exact⟨s.data.toList,rfl,by rw[Array.length_toList];exact hl⟩) (by simp[pm,Rows.uptoBulk])
   |struct fs=>
    obtain⟨hl,xs,hxs,hx⟩:=qbY hu h
    simp only at hx;subst hx
    obtain⟨_,l,k1,k2,k3,k4⟩:=Ti ih (hF.st t htL fs hu).2 (by omega) (hF.st t htL fs hu).1 hxs
    refine⟨l,by omega,fun i q v hq hv=>k2 i q v hq (by rw[vaK];exact hv),by unfold Sh;rw[hu];exact k3,by simp only[Rows.uptoBulk];omega⟩
   | slice e =>
    obtain⟨hz,heL⟩:=hF.sl t htL e hu
    rcases qd2 hu h with⟨rfl,hx⟩|⟨a,len,cap,elems,rest,rfl,hlc,hcm,hx,hm⟩
    ·simp only at hx;subst hx
     exact .one .sliceNil (by unfold Sh;rw[hu];exact⟨[],rfl,by simp,by simp⟩) (by simp[pm,bZ,Rows.uptoBulk])
    simp only at hx;subst hx
    have hel:elems.length=len:=by simpa using Lib.mapM_length hm
    have hat:∀i,i<len->∃x:List PVal,∃ci y,elems[i]? =some y/\W.cells? base (a.add (i * P.cellsOf e)) (P.cellsOf e)=some ci/\x.length=ci.length/\(∀(k:Nat) q v,x[k]? =some q->ci[k]? =some v->VR (Ca W) [] W q v)/\Sh P fuel e x/\gf x<=Rows.uptoBulk y.1:=fun i hi=>by
     obtain⟨y,hy,hb⟩:=Lib.mapM_at hm i i (by simp[hi])
     obtain⟨ci,hci,hd⟩:=vbo.1 hb
     obtain⟨x,k1,k2,k3,k4⟩:=ih e heL ci y.1 y.2 hd
     exact⟨x,ci,y,hy,hci,k1,k2,k3,k4⟩
    obtain⟨es,hes,hq⟩:=Z0 hat
    have hbulk:bZ es<=Rows.uptoBulkAll (elems.map (·.1)):=Zx (by simp[hes,hel]) fun i x d hx hd=>by
     obtain⟨ci,y,hy,_,_,_,_,hle⟩:=hq i x hx
     simp only[vaB,hy,vam,vav]at hd
     subst hd;exact hle
    have hsh:Sh P (fuel+1) t [.slice es]:=by
     unfold Sh;rw[hu]
     refine⟨es,rfl,by omega,fun x hx=>?_⟩
     obtain⟨i,hi⟩:=vbh.1 hx
     obtain⟨_,_,_,_,_,_,hs,_⟩:=hq i x hi
     exact hs
    refine .one ?_ hsh (by simp only[pm,Rows.uptoBulk];omega)
    by_cases h0:len=0
    ·subst h0
     obtain rfl:es=[]:=vau hes
     exact .sliceE a cap
    ·have hcell:∀i,i<len->∀k,k<P.cellsOf e->∃(x:List PVal) (ci:List Value),es[i]? =some x/\W.cell? ((a.add (i * P.cellsOf e)).add k)=ci[k]?/\ci.length=P.cellsOf e/\x.length=ci.length/\(∀(k:Nat) q v,x[k]? =some q->ci[k]? =some v->VR (Ca W) [] W q v):=fun i hi k hk=>by
      have hx:es[i]? =some es[i]:=vab (by omega)
      obtain⟨ci,y,hy,hc,hl,hv,_,_⟩:=hq i _ hx
      obtain⟨_,hcl,hcc⟩:=World.cells?_some hc
      exact⟨_,ci,hx,hcc k hk,hcl,hl,hv⟩
     have hspot:a.spot=none:=by
      obtain⟨x,ci,_,h2,h3,_,_⟩:=hcell 0 (by omega) 0 hz
      rw[vcz,Wy,Wy,vab (by omega)]at h2
      exact qbS h2
     obtain⟨ab,ao,asp⟩:=a
     simp only at hspot;subst hspot
     have hadd:∀i k,((⟨ab,ao,none⟩:Addr).add (i * P.cellsOf e)).add k=⟨ab,ao+i * P.cellsOf e+k,none⟩:=fun i k=>by
      rw[Wx ⟨ab,ao,none⟩ _ rfl,Wx _ _ rfl]
     have hcl:∀(i:Nat) x (k:Nat) q,es[i]? =some x->x[k]? =some q->∃v,W.cell? ⟨ab,ao+i * P.cellsOf e+k,none⟩=some v/\VR (Ca W) [] W q v:=fun i x k q hx hqk=>by
      have hi:i<len:=by have:=av hx;omega
      obtain⟨ci,y,hy,hc,hl,hv,_,_⟩:=hq i x hx
      obtain⟨_,hcl,hcc⟩:=World.cells?_some hc
      have hk:k<P.cellsOf e:=by have:=av hqk;omega
      have hck:ci[k]? =some ci[k]:=vab (by omega)
      refine⟨ci[k],?_,hv k q _ hqk hck⟩
      rw[<-hadd,hcc k hk,hck]
     have hlen:∀(i:Nat) x,es[i]? =some x->x.length=P.cellsOf e:=fun i x hx=>by
      obtain⟨ci,y,hy,hc,hl,_,_,_⟩:=hq i x hx
      exact hl.trans (World.cells?_some hc).2.1
     obtain⟨c,ty,fr,hh⟩:∃c ty fr,W.heap[ab]? =some (.cells c ty fr):=by
      obtain⟨x,ci,h1,h2,h3,h4,_⟩:=hcell 0 (by omega) 0 hz
      rw[hadd,vab (by omega)]at h2
      unfold World.cell? at h2
      split at h2
      ·rename_i c ty fr hh;exact⟨c,ty,fr,hh⟩
      ·cases h2
     have hin:ao+es.length * P.cellsOf e<=c.size:=by
      obtain⟨x,ci,h1,h2,h3,h4,_⟩:=hcell (len - 1) (by omega) (P.cellsOf e - 1) (by omega)
      rw[hadd,vab (by omega),cell_of_row W _ _ c ty fr hh]at h2
      have:=(var.1 h2).1
      have e1:(len - 1) * P.cellsOf e+P.cellsOf e=len * P.cellsOf e:=by
       have:len=(len - 1)+1:=by omega
       conv=>rhs;rw[this,va7,vbG]
      rw[hes];omega
     have:=VR.slice (Γ:=Ca W) (bs:=[]) (w:=W) es ab ao cap c.size (P.cellsOf e) (fun i k=>(W.cell? ⟨ab,ao+i * P.cellsOf e+k,none⟩).getD undef) hz (by omega) (ST hh) hin hlen
      (fun i x k q hx hqk=>by obtain⟨v,h1,_⟩:=hcl i x k q hx hqk;rw[h1];rfl)
      (fun i x k q hx hqk=>by obtain⟨v,h1,h2⟩:=hcl i x k q hx hqk;rw[h1];exact h2)
     rw[hes]at this
     exact this
   |_=>exact other fun l=>by unfold Sh;rw[hu];trivial
end
end Go.Proofs.YtbaamopmfmpfaaaGreatDoor
namespace Go.Proofs.YtbaamopmfmpfaaaGreatDoor
open Go
set_option linter.unusedVariables false
abbrev In(P:Program)(t:TypeId){α:Type}(c:α->List PVal):Prop:=∀n l,Sh P n t l->∃x,l=c x
section
variable{P:Program}{t e:TypeId}{α:Type}{c:α->List PVal}
theorem YP{k:IntKind}(hu:P.underlying t=some (.int k)):In P t (cI k):=fun n l h=>by
 cases n with
 |zero=>exact h.elim
 |succ n=>
  unfold Sh at h
  rw[hu]at h
  obtain⟨i,rfl,_⟩:=h
  exact⟨i,rfl⟩
theorem qke(hu:P.underlying t=some .bool):In P t cB:=fun n l h=>by
 cases n with
 |zero=>exact h.elim
 |succ n=>
  unfold Sh at h
  rw[hu]at h
  obtain⟨i,rfl⟩:=h
  exact⟨i,rfl⟩
theorem o0(hu:P.underlying t=some .string):In P t cS:=fun n l h=>by
 cases n with
 |zero=>exact h.elim
 |succ n=>
  unfold Sh at h
  rw[hu]at h
  obtain⟨i,rfl,_⟩:=h
  exact⟨i,rfl⟩
theorem Xd:∀{es:List (List PVal)},(∀x∈es,∃y,x=c y)->∃ys:List α,es=ys.map c
 |[],_=>⟨[],rfl⟩
 |x::es,h=>by
  obtain⟨y,rfl⟩:=h x (by simp)
  obtain⟨ys,rfl⟩:=Xd fun z hz=>h z (va0 _ hz)
  exact⟨y::ys,rfl⟩
theorem WZ(hu:P.underlying t=some (.slice e)){n:Nat}(hE:∀m,m<n->∀l,Sh P m e l->∃x,l=c x)(l:List PVal)(h:Sh P n t l):∃xs,l=cL c xs:=by
 cases n with
 |zero=>exact h.elim
 |succ n=>
  unfold Sh at h
  rw[hu]at h
  obtain⟨es,rfl,_,h⟩:=h
  obtain⟨ys,rfl⟩:=Xd fun x hx=>hE n (vct n) x (h x hx)
  exact⟨ys,rfl⟩
theorem qw(hu:P.underlying t=some (.slice e))(hE:In P e c):In P t (cL c):=fun n l h=>WZ hu (fun m _=>hE m) l h
theorem Xx:∀(es:List (List PVal)),(∀x∈es,1<=gf x)->es.length<=bZ es
 |[],_=>by simp[bZ]
 |x::es,h=>by
  have h1:=h x (by simp)
  have h2:=Xx es fun y hy=>h y (va0 _ hy)
  simp only[bZ,vaP];omega
theorem xQ:∀{es:List (List PVal)} {x:List PVal},x∈es->gf x<=bZ es
 | y :: es,x,h => by
  simp only[bZ]
  rcases vaw.1 h with rfl|h
  ·omega
  ·have:=xQ h;omega
end
section
variable{H:Type}{enc:TypeId×Value->H}{P:Program}{W:World}{base b0:Nat}{sp:Nat->Bool}{held:Bool}{t e:TypeId}{v:Value}{d:DataW H}{p:List MemPlace}{L:List TypeId}
theorem Tj(hF:qaz P L)(hL:t∈L){fs:Array Field}(hu:P.underlying t=some (.struct fs))(h:DataW.Trod enc P W base sp held t v d p)(hv:Value.okWide P W .any b0 t v):∃n l,VR (Ca W) [] W (.agg l) v/\Sh P n t l/\gf l<=Rows.uptoBulk d:=by
 obtain⟨n,h⟩:=h
 unfold Value.okWide at hv
 rw[hu]at hv
 obtain⟨cs,rfl,_,_⟩:=hv
 obtain⟨l,h1,h2,h3,h4⟩:=YO hF n t hL _ d p h
 refine⟨n,l,.agg l cs ?_ fun i q u hq hu'=>h2 i q u hq ?_,h3,h4⟩
 ·have:(Value.agg cs).cells.toList.length=cs.size:=by simp[Value.cells]
  omega
 ·show cs.toList[i]? =some u
  rw[va2];exact hu'
theorem qgO(hF:qaz P L)(hL:t∈L)(hc:v.cells.toList=[v])(h:DataW.Trod enc P W base sp held t v d p):∃n q,VR (Ca W) [] W q v/\Sh P n t [q]/\pm q<=Rows.uptoBulk d:=by
 obtain⟨n,h⟩:=h
 rw[hc]at h
 obtain⟨l,h1,h2,h3,h4⟩:=YO hF n t hL _ d p h
 match l,h1 with
 |[q],_=>exact⟨n,q,h2 0 q v rfl rfl,h3,by simpa[gf]using h4⟩
theorem qcS(hF:qaz P L)(hL:t∈L)(hu:P.underlying t=some (.slice e))(h:DataW.Trod enc P W base sp held t v d p)(hv:Value.okWide P W .any b0 t v):∃n q,VR (Ca W) [] W q v/\Sh P n t [q]/\pm q<=Rows.uptoBulk d:=by
 unfold Value.okWide at hv
 rw[hu]at hv
 have hv':Cell.okWide P W .any b0 t v:=hv
 unfold Cell.okWide at hv'
 refine qgO hF hL ?_ h
 cases v<;>simp[hu,Cell.ok]at hv'<;>rfl
theorem qgU{α:Type}{c:α->List PVal}{f:α->PVal}{q:PVal}{x:α}(hc:c x=[f x])(h:[q]=c x):q=f x:=by
 rw[hc]at h
 exact List.head_eq_of_cons_eq h
end
def qii(n:Nat):aN->Prop
 |.dead=>True
 |.cells cs _=>iy n cs
 |.map es=>∀x∈es,x.1.cl n/\x.2.cl n
def UQ(n:Nat):List aN->Prop
 |[]=>True
 |B::l=>qii n B/\UQ n l
theorem WR{k:Nat}:∀{ps qs:List PVal},NR ps qs=qs->iy k qs->yd k ps qs
 |[],[],_,_=>trivial
 |[],_::_,h,_=>by simp[NR]at h
 |p::ps,[],h,_=>by simp[NR]at h
 |p::ps,q::qs,h,hc=>by
  obtain⟨hc1,hc2⟩:=hc
  cases q<;>simp only[NR,vbv]at h<;>refine⟨?_,WR h.2 hc2⟩<;>first|exact .inl rfl|exact .inr ⟨h.1,hc1⟩
theorem qaZ{k:Nat}{p q:aN}(h:Sr p q=q)(hc:qii k q):tD k p q:=by
 cases q with
 |dead=>cases p<;>simp[tD]
 | cells cs own =>
  cases p with
  | cells cs0 own0 =>
   simp only[Sr,aN.cells.injEq]at h
   obtain⟨rfl,h⟩:=h
   refine⟨rfl,hc,fun x hx=>?_⟩
   split at h
   ·rename_i ha
    simpa using vax.1 ha x hx
   ·rw[h];exact hx
  |map es=>simp[Sr]at h
  |dead=>simp[Sr]at h
 |map es=>
  have h':p=.map es:=by cases p<;>simp[Sr]at h ⊢<;>exact h
  subst h'
  exact⟨rfl,hc⟩
theorem JP{k:Nat}:∀{ps qs:List aN},U3 (ps.take qs.length) qs=qs->UQ k qs->dO k ps qs
 |_,[],_,_=>by unfold dO;trivial
 |[],_::_,h,_=>by simp[U3]at h
 |p::ps,q::qs,h,hc=>by
  obtain⟨hc1,hc2⟩:=hc
  rw[vaP,List.take_succ_cons]at h
  simp only[U3,vbv]at h
  exact⟨qaZ h.1 hc1,JP h.2 hc2⟩
def qjL(m:Nat)(st st0:aA):Prop:=NR st.tmps st0.tmps=st0.tmps/\U3 (st.boxes.take st0.boxes.length) st0.boxes=st0.boxes/\(st0.own.all fun x=>decide (x∈st.own))=true/\decide (m % 1000<=st0.boxes.length)=true/\
 iy st0.boxes.length st0.tmps/\UQ st0.boxes.length st0.boxes
theorem qjL.weak{P:Program}{m:Nat}{st st0:aA}(h:qjL m st st0):vU P m st st0:=by
 obtain⟨h1,h2,h3,h4,h5,h6⟩:=h
 exact .of_less ⟨WR h1 h5,JP h2 h6,fun x hx=>by simpa using vax.1 h3 x hx⟩ (by simpa using h4)
def qhR(m:Nat)(e0:Exit)(st0:aA):Exit->List It->aA->Prop:=fun e _ st=>e0=e/\qjL m st st0
section
variable{P:Program}{GE:List (Nat×List PVal)}{A:List Nat}{m:Nat}
theorem qdz(hf:P.follows .mixedOrders=true){c:Code}{e0:Exit}{st0 st:aA}(sc:List It)(h:A5 P GE A m c sc st (qhR m e0 st0)):aU P GE m c (EX e0 st0) st:=
 (iI hf c sc st _ h).mono fun _ _ hx=>by
  obtain⟨_,hx⟩:=hx
  exact⟨st0,hx.2.weak,hx.1.symm,rfl⟩
theorem qiE(hf:P.follows .mixedOrders=true){σ X:Type}{S:σ->aA}{ex:X->Exit}{so:X->aA}{c:Code}{s:σ}{st:aA}(sc:List It)(h:A5 P GE A m c sc st (qhR m .normal (S s))):aU P GE m c (LQ S ex so (.inl s)) st:=
 (qdz hf sc h).imp fun _ _ hx=>⟨hx.1,hx.2⟩
theorem qiH(hf:P.follows .mixedOrders=true){σ X:Type}{S:σ->aA}{ex:X->Exit}{so:X->aA}{c:Code}{x:X}{st:aA}(sc:List It)(hn:ex x≠.normal)(h:A5 P GE A m c sc st (qhR m (ex x) (so x))):aU P GE m c (LQ S ex so (.inr x)) st:=
 (qdz hf sc h).imp fun _ _ hx=>⟨by rw[hx.1];exact hn,hx.1,hx.2⟩
end
mutual
theorem ZF{n m:Nat}(hnm:n<=m):∀(p:PVal),p.cl n->p.cl m
 |.undef,_=>by simp[PVal.cl]
 |.int _ _,_=>by simp[PVal.cl]
 |.bool _,_=>by simp[PVal.cl]
 |.str _,_=>by simp[PVal.cl]
 |.val _,_=>by simp[PVal.cl]
 |.agg cs,h=>by simp only[PVal.cl]at h ⊢;exact ua hnm cs h
 |.tuple cs,h=>by simp only[PVal.cl]at h ⊢;exact ua hnm cs h
 |.slice es,h=>by simp only[PVal.cl]at h ⊢;exact S2 hnm es h
 |.eptr cs,h=>by simp only[PVal.cl]at h ⊢;exact ua hnm cs h
 |.bptr i _,h=>by simp only[PVal.cl]at h ⊢;omega
 |.bsl i _ _,h=>by simp only[PVal.cl]at h ⊢;omega
 |.mapr i,h=>by simp only[PVal.cl]at h ⊢;omega
 |.func _ f c,h=>by simp only[PVal.cl]at h ⊢;exact⟨ua hnm f h.1,ua hnm c h.2⟩
theorem ua{n m:Nat}(hnm:n<=m):∀(l:List PVal),iy n l->iy m l
 |[],_=>by simp[iy]
 |p::l,h=>by simp only[iy]at h ⊢;exact⟨ZF hnm p h.1,ua hnm l h.2⟩
theorem S2{n m:Nat}(hnm:n<=m):∀(l:List (List PVal)),vX n l->vX m l
 |[],_=>by simp[vX]
 |p::l,h=>by simp only[vX]at h ⊢;exact⟨ua hnm p h.1,S2 hnm l h.2⟩
end
theorem ij{n:Nat}{l:List PVal}(h:iy 0 l):iy n l:=ua (vaN n) l h
theorem up{n:Nat}{p:PVal}(h:p.cl 0):p.cl n:=ZF (vaN n) p h
theorem cV{i n:Nat}(h:decide (i<n)=true):i<n:=vaD h
theorem qlJ(m:Nat)(st:aA)(h4:decide (m % 1000<=st.boxes.length)=true)(h5:iy st.boxes.length st.tmps)(h6:UQ st.boxes.length st.boxes):st.tmps=st.tmps/\st.boxes=st.boxes/\true=true/\decide (m % 1000<=st.boxes.length)=true/\iy st.boxes.length st.tmps/\UQ st.boxes.length st.boxes:=⟨rfl,rfl,rfl,h4,h5,h6⟩
def qhY:TypeDesc->Bool
 |.struct _=>true
 |.array _ _=>true
 |_=>false
theorem lJ{P:Program}{t:TypeId}{l r:List PVal}(h:(P.underlying t).any qhY=true)(hc:P.cellsOf t=l.length):bm P t (l++r)=some (.agg l):=by
 unfold bm
 split
 ·rw[vad (by rw[hc];simp),hc,vcg]
 ·rw[vad (by rw[hc];simp),hc,vcg]
 ·rename_i d h1 h2 hd
  rw[hd]at h
  cases d<;>simp_all[qhY]
 ·rename_i hd;rw[hd]at h;cases h
theorem G2{k:Nat}{B:aN}:∀{ps qs:List aN} {i:Nat},qs.length<=i->dO k ps qs->dO k (ps.set i B) qs
 |_,[],_,_,_=>by unfold dO;trivial
 |[],_::_,_,_,h=>by simpa using h
 |p::ps,q::qs,0,hi,_=>by simp at hi
 |p::ps,q::qs,i+1,hi,h=>by
  simp only[List.set_cons_succ]
  exact⟨h.1,G2 (by simpa using hi) h.2⟩
def Q3(P:Program)(rs:List ResultVar)(r:PVal)(ro:List (Nat×TypeId))(H':List aN)(st:aA):Prop:=
 ∃(t:Tmp) (ty:TypeId) (i off:Nat) (cs:List PVal) (own:List (Nat×TypeId)) (l:List PVal),rs=[.cell t ty]/\(∃fs,P.underlying ty=some (.struct fs))/\st.tmps.getD t .undef=.bptr i off/\st.boxes[i]? =some (.cells cs own)/\
  r=.agg l/\bm P ty (cs.drop off)=some (.agg l)/\r.cl H'.length/\H'.length<=i/\dO H'.length st.boxes H'/\(∀x∈ro,(off+x.1,x.2)∈own/\x.1<l.length)/\(ro.map (·.1)).Nodup
def qdR(P:Program)(rs:List ResultVar)(r:PVal)(ro:List (Nat×TypeId))(H':List aN)(e:Exit)(st:aA):Prop:=
 qiK P rs r ro H' e st\/((e=.normal\/e=.ret)/\Q3 P rs r ro H' st)
section
variable{P:Program}{E:uy}{Γ:bw}{bs:bR}{ow:Nat->Option nM}{w:World}{a:Array Value}{st:aA}
theorem SR.finishCellG(h:SR P E Γ bs ow w a st){fn:Func}{r:PVal}{ro:List (Nat×TypeId)}{H':List aN}(hr:Q3 P fn.results.toList r ro H' st):∃v ow',(results fn a).run P w=.ok v w/\SR P E Γ (bs.take H'.length) ow' w #[v] ⟨[r],H',ro.map fun x=>((0,x.1),x.2)⟩:=by
 obtain⟨t,ty,i,off,cs,own,l,hrs,⟨fs,hfs⟩,ht,hB,rfl,hp,hcl,hi,hbl,hro,hnd⟩:=hr
 have hrv:Kw P st fn.results.toList=some (.agg l):=by
  rw[hrs]
  show nH P ty (st.tmps.getD t .undef) st.boxes=_
  rw[ht]
  simp only[nH,hB,hp]
 obtain⟨v,e1,e2,_⟩:=xX h hrv
 have hvt:=h.getD t
 rw[ht]at hvt
 generalize hva:a.getD t undef=vt at hvt
 cases hvt with
 |bptr _ _ b hb=>
 obtain⟨v2,q1,q2,q3⟩:=Ik h hb hB hp
 have hvv:v2=v:=by
  have hres:fn.results=#[.cell t ty]:=by
   have:fn.results=fn.results.toList.toArray:=by simp
   rw[this,hrs]
  have hrun:(results fn a).run P w=.ok v2 w:=by
   simp[results,hres,asAddr]
   have hva':a[t]?.getD undef=.pointer (some ⟨b,off,none⟩):=by rw[<-vaz];exact hva
   rw[hva']
   simp[q1]
  rw[e1]at hrun
  cases hrun
  rfl
 subst hvv
 have g1:=h.pushed e2
 obtain⟨ow',g2⟩:=SR.takeOwns (off:=off) (d:=a.size) (u:=v2) hb (by simp) ro g1 hB (fun x hx=>(hro x hx).1) hnd fun x hx=>by
  have:=q3 ⟨_,hfs,trivial⟩ x.1 (hro x hx).2
  obtain⟨v',z1,_⟩:=h.ob i (off+x.1) x.2 cs own b hB (hro x hx).1 hb
  exact⟨v',this.trans z1,z1⟩
 refine⟨v2,Hf (fun k=>(a.size,k)) ro ow',e1,?_⟩
 exact g2.finish (H':=H') (src:=fun k=>(a.size,k)) (ro:=ro) e2 hcl (G2 hi hbl) (fun x hx=>⟨vbf _ (vb0.2 (vaq.2 ⟨x,hx,rfl⟩)),fun u v' hu hv'=>by simp at hu;subst hu;exact hv'⟩) (fun x _ y _ e=>by simpa using e)
end
theorem C.ofSatG{P:Program}{GE:List (Nat×List PVal)}{m:Nat}{f:FuncId}{fn:Func}{c:Code}{args:List PVal}{oa:List ((Nat×Nat)×TypeId)}{H:List aN}{r:PVal}{ro:List (Nat×TypeId)}{H':List aN}(hm:m % 1000=H.length)(hm0:m≠0)
  (hcall:∀vs w,(callFunc f vs).run P w=.ok (.enter f vs) w) (hfn:P.funcs[f]? =some fn) (hb:fn.body=some c) (hH:H'.length=H.length)
  (hp:aU P GE m c (qdR P fn.results.toList r ro H') ⟨args++List.replicate (fn.ntmps - args.length) .undef,H,oa⟩):C P GE f args oa H r ro H':=by
 refine⟨hcall,fun Γ bs ow w vs h=>calls_of_wp hfn hb ?_⟩
 have hbl:bs.length=H.length:=h.bl
 have h0:SR P ⟨GE,Γ,w,cr bs ow⟩ Γ bs ow w (vs++Array.replicate (fn.ntmps - vs.size) undef) ⟨args++List.replicate (fn.ntmps - args.length) .undef,H,oa⟩:=by
  have hsz:vs.size=args.length:=h.sz
  exact{h with
   sz:=by simp[hsz]
   tm:=fun t p v hp hv=>by
    simp only at hp
    by_cases ht:t<args.length
    ·rw[vaf ht]at hp
     rw[vaQ (by omega)]at hv
     exact h.tm t p v hp hv
    ·rw[vai (by omega),vaU]at hp
     split at hp<;>cases hp
     exact .undef v
   ot:=fun t k e he=>by
    obtain⟨u,v,h1,h2⟩:=h.ot t k e he
    exact⟨u,v,by rw[vaQ (var.1 h1).1];exact h1,h2⟩}
 have hE:IP GE m ⟨GE,Γ,w,cr bs ow⟩:={
  ge:=rfl
  low:=fun b n hb=>h.lt_of_ghost hb
  nt:=fun h0=>absurd h0 hm0
  gl:=fun g cs hg=>(h.gl g cs hg).restrict (n:=0) (by simp only[PVal.cl];exact h.gc g cs hg) (fun i b hi _=>absurd hi (vaS _))}
 have hwp:=hp none ⟨GE,Γ,w,cr bs ow⟩ bs ⟨vs++Array.replicate (fn.ntmps - vs.size) undef,[]⟩ w hE (by rw[hbl,hm]) ⟨Γ,bs,ow,h0,fun i _=>rfl⟩
 refine wp_mono hwp fun e a w' hq=>?_
 obtain⟨hd,st,⟨Γ1,bs1,ow1,hS,hk⟩,hQ⟩:=hq
 have htake:H'.length<=bs1.length->bs1.take H'.length=bs:=by
  intro hl1
  refine vbn fun i=>?_
  by_cases hi:i<H'.length
  ·rw[vap hi];exact hk i (by omega)
  ·rw[vb9 (by omega),vat (by omega)]
 have hlen:∀{B:List aN},dO H'.length B H'->B.length=bs1.length->H'.length<=bs1.length:=fun hB he=>by
  obtain⟨hl,_⟩:=oW hB;omega
 have key:(Kw P st fn.results.toList=some r/\r.cl H'.length/\dO H'.length st.boxes H'/\(∀x∈ro,(eI fn.results.toList x.1,x.2)∈st.own/\tO st fn.results.toList x.1)/\
   (∀x∈ro,∀y∈ro,eI fn.results.toList x.1=eI fn.results.toList y.1->x.1=y.1))->
   a.defers=[]/\∃v,(results fn a.tmps).run P w'=.ok v w'/\∃v' Γ' ow',Ending.returned v=.returned v'/\SR P ⟨GE,Γ,w,cr bs ow⟩ Γ' bs ow' w' #[v'] ⟨[r],H',ro.map fun x=>((0,x.1),x.2)⟩:=by
  rintro⟨k1,k2,k3,k4,k5⟩
  obtain⟨v,e1,e2,e3⟩:=xX hS k1
  refine⟨hd,v,e1,v,Γ1,Hf (eI fn.results.toList) ro ow1,rfl,?_⟩
  have hf:=hS.finish (H':=H') (src:=eI fn.results.toList) (ro:=ro) e2 k2 k3 (fun x hx=>⟨(k4 x hx).1,fun u v'=>e3 x.1 u v' (k4 x hx).2⟩) k5
  rw[htake (hlen k3 hS.bl.symm)]at hf
  exact hf
 have key2:Q3 P fn.results.toList r ro H' st->
   a.defers=[]/\∃v,(results fn a.tmps).run P w'=.ok v w'/\∃v' Γ' ow',Ending.returned v=.returned v'/\SR P ⟨GE,Γ,w,cr bs ow⟩ Γ' bs ow' w' #[v'] ⟨[r],H',ro.map fun x=>((0,x.1),x.2)⟩:=by
  intro hc
  obtain⟨v,ow',e1,e2⟩:=hS.finishCellG hc
  obtain⟨_,_,_,_,_,_,_,_,_,_,_,_,_,_,_,hbl2,_,_⟩:=hc
  rw[htake (hlen hbl2 hS.bl.symm)]at e2
  exact⟨hd,v,e1,v,Γ1,ow',rfl,e2⟩
 rcases hQ with hQ|⟨he,hQ⟩
 ·cases e with
  |normal=>exact key hQ
  |ret=>exact key hQ
  |exit id=>exact hQ.elim
  |goto l=>exact hQ.elim
  |panic c=>exact hQ.elim
  |outgrown=>exact hQ.elim
 ·rcases he with rfl|rfl
  ·exact key2 hQ
  ·exact key2 hQ
def XO(P:Program)(rs:List ResultVar)(ro:List (Nat×TypeId))(n:Nat)(st:aA):Bool:=match rs with
 | [.cell t ty] => match P.underlying ty with
  | some (.struct _) => match st.tmps.getD t .undef with
   |.bptr i off=>decide (n<=i)&&match st.boxes[i]? with
    |some (.cells _ own)=>ro.all (fun x=>decide ((off+x.1,x.2)∈own)&&decide (x.1<P.cellsOf ty))&&xN (ro.map (·.1))
    |_=>false
   |_=>false
  |_=>false
 |_=>false
def qb8(P:Program)(rs:List ResultVar)(r:PVal)(ro:List (Nat×TypeId))(H':List aN)(st:aA):Prop:=match Gi rs ro st with
 |true=>match Kw P st rs with
  |some p=>p=r/\r.cl H'.length/\U3 (st.boxes.take H'.length) H'=H'/\UQ H'.length H'
  |none=>False
 | false => match XO P rs ro H'.length st with
  |true=>match Kw P st rs with
   |some p=>p=r/\r.cl H'.length/\U3 (st.boxes.take H'.length) H'=H'/\UQ H'.length H'/\r.isAgg=true
   |none=>False
  |false=>False
def qhS(P:Program)(rs:List ResultVar)(r:PVal)(ro:List (Nat×TypeId))(H':List aN):Exit->List It->aA->Prop:=fun e _ st=>match e with
 |.normal=>qb8 P rs r ro H' st
 |.ret=>qb8 P rs r ro H' st
 |_=>False
theorem VH{rs:List ResultVar}{ro:List (Nat×TypeId)}{st:aA}(hc:Gi rs ro st=true):(∀x∈ro,(eI rs x.1,x.2)∈st.own/\tO st rs x.1)/\(∀x∈ro,∀y∈ro,eI rs x.1=eI rs y.1->x.1=y.1):=by
 have:=Q5 (r:=.undef) (P:=default) (rs:=rs) (ro:=ro) (st:=⟨st.tmps,st.boxes,st.own⟩) hc
 by_cases hr:Kw default st rs=some .undef
 ·exact(this hr trivial).2.2.2
 ·clear this
  unfold Gi at hc
  rw[vaj]at hc
  obtain⟨c1,c2⟩:=hc
  refine⟨fun x hx=>?_,fun x hx y hy hxy=>?_⟩
  ·have:=vax.1 c1 x hx
   rw[vaj]at this
   refine⟨by simpa using this.1,?_⟩
   have h2:=this.2
   clear this c1 c2 hr
   rcases rs with _|⟨y,_|⟨z,rs⟩⟩
   ·simp at h2
   ·cases y with
    |tmp t=>trivial
    |cell t ty=>cases h2
   ·have key:∀o:Option ResultVar,(match o with
     |some (.tmp t)=>(st.tmps.getD t .undef).isSlice
     |_=>false)=true->(match o with
     |some (.tmp t)=>(st.tmps.getD t .undef).isSlice=true
     |_=>False):=by
     intro o
     cases o with
     |none=>intro h;cases h
     |some q=>cases q<;>intro h<;>first|exact h|cases h
    cases y with
    |tmp t=>exact key _ h2
    |cell t ty=>exact key _ h2
  ·have:=vax.1 (vax.1 c2 x hx) y hy
   simpa[hxy]using this
theorem qb8.to{P:Program}{rs:List ResultVar}{r:PVal}{ro:List (Nat×TypeId)}{H':List aN}{st:aA}{e:Exit}(he:e=.normal\/e=.ret)(h:qb8 P rs r ro H' st):qdR P rs r ro H' e st:=by
 unfold qb8 at h
 split at h
 ·rename_i hc
  split at h
  ·rename_i p hp
   obtain⟨rfl,hcl,hfg,hcb⟩:=h
   obtain⟨s1,s2⟩:=VH hc
   have:Kw P st rs=some p/\p.cl H'.length/\dO H'.length st.boxes H'/\_/\_:=⟨hp,hcl,JP hfg hcb,s1,s2⟩
   rcases he with rfl|rfl<;>exact .inl this
  ·exact h.elim
 ·split at h
  ·rename_i hc
   split at h
   ·rename_i p hp
    obtain⟨rfl,hcl,hfg,hcb,hagg⟩:=h
    refine .inr ⟨he,?_⟩
    unfold XO at hc
    split at hc
    ·rename_i t ty _
     split at hc
     ·rename_i fs hfs
      split at hc
      ·rename_i i off ht
       rw[vaj,vao]at hc
       obtain⟨hi,hc⟩:=hc
       split at hc
       ·rename_i cs own hB
        rw[vaj]at hc
        obtain⟨c1,c2⟩:=hc
        have hpl:bm P ty (cs.drop off)=some p:=by
         have hp':nH P ty (st.tmps.getD t .undef) st.boxes=some p:=hp
         rw[ht]at hp'
         simpa only[nH,hB]using hp'
        cases p<;>simp only[PVal.isAgg]at hagg<;>first|(cases hagg;done)|skip
        rename_i l
        have hlen:l.length=P.cellsOf ty:=by
         have hq:=hpl
         unfold bm at hq
         rw[hfs]at hq
         simp only at hq
         split at hq
         ·rename_i hh;cases hq;rw[vaO];omega
         ·cases hq
        refine⟨t,ty,i,off,cs,own,l,rfl,⟨fs,hfs⟩,ht,hB,rfl,hpl,hcl,hi,JP hfg hcb,fun x hx=>?_,qn c2⟩
        have:=vax.1 c1 x hx
        simp only[vaj,vao]at this
        exact⟨this.1,by rw[hlen];exact this.2⟩
       ·cases hc
      ·cases hc
     ·cases hc
    ·cases hc
   ·exact h.elim
  ·exact h.elim
theorem qhS.to{P:Program}{rs:List ResultVar}{r:PVal}{ro:List (Nat×TypeId)}{H':List aN}{e:Exit}{sc:List It}{st:aA}(h:qhS P rs r ro H' e sc st):qdR P rs r ro H' e st:=by
 unfold qhS at h
 split at h
 ·exact h.to (.inl rfl)
 ·exact h.to (.inr rfl)
 ·exact h.elim
theorem C.evG{P:Program}{GE:List (Nat×List PVal)}{A:List Nat}(hf:P.follows .mixedOrders=true){m:Nat}{f:FuncId}{fn:Func}{c:Code}{args:List PVal}{oa:List ((Nat×Nat)×TypeId)}{H:List aN}{r:PVal}{ro:List (Nat×TypeId)}{H':List aN}
  (hm:decide (m % 1000=H.length)&&decide (m≠0)&&decide (H'.length=H.length)=true) (hcall:∀vs w,(callFunc f vs).run P w=.ok (.enter f vs) w) (hfn:P.funcs[f]? =some fn) (hb:fn.body=some c) (sc:List It)
  (h:A5 P GE A m c sc ⟨args++List.replicate (fn.ntmps - args.length) .undef,H,oa⟩ (qhS P fn.results.toList r ro H')):C P GE f args oa H r ro H':=by
 simp only[vaj,vao]at hm
 exact C.ofSatG hm.1.1 hm.1.2 hcall hfn hb hm.2 ((iI hf c sc _ _ h).imp fun e st hx=>by obtain⟨sc',hx⟩:=hx;exact hx.to)
end Go.Proofs.YtbaamopmfmpfaaaGreatDoor
