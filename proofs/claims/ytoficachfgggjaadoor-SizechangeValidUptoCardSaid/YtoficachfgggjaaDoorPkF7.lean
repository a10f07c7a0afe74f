/- PROVED: a part of the proof. Conditions: none. -/
import Derived.Test.YtoficachfgggjaaDoorPkF6
import Derived.Deep.Draws
import Derived.Sort.Grow
import Derived.Lib.LaidTab
import Derived.WalkKit
import Derived.ProofKit
import Derived.OpenShut
import Derived.Below
import Derived.ChangeSame
import Derived.SliceStrings
import Derived.ChangeMaps5
import Derived.WideKeyArgs
import Derived.LaidLaws
import Derived.Test.YtoficachfgggjaaDoorRows
noncomputable section
namespace Go.Proofs.YtoficachfgggjaaDoor
open Go
set_option linter.unusedSimpArgs false
set_option linter.unusedVariables false
section
variable{P:Program}{Q Q1:Exit->Act->World->Prop}
theorem AA{o:Oper}{a:Act}{K:Act->World->Prop}{r:Result Next}(hQ:∀e a w,Q1 e a w->e=.normal)(h:o.upon P a K Q1 r):o.upon P a K Q r:=by
 have hno:∀c a w,¬Q1 (.panic c) a w:=fun c a w h=>by have:=hQ _ _ _ h;cases this
 have hlo:¬LetsOut Q1:=by rintro⟨a,w,h⟩;have:=hQ _ _ _ h;cases this
 cases r with
 | ok x w' =>
  cases x<;>simp only[Oper.upon]at h ⊢<;>first
   |exact h
   | exact Calls.mono h (fun e w'' he => by
     cases e<;>first
      |exact he
      |exact absurd he (hno _ _ _)
      |exact absurd he hlo)
 |halt x w'=>cases x<;>simp only[Oper.upon]at h ⊢<;>exact absurd h (hno _ _ _)
theorem Co{o:Oper}{a:Act}{w:World}{K:Act->World->Prop}(hQ:∀e a w,Q1 e a w->e=.normal)(h:o.wp P a w K Q1):o.wp P a w K Q:=AA hQ h
theorem AB{ops:Array Oper}{o:Oper}{i:Nat}{a:Act}{w:World}{K:Act->World->Prop}(hQ:∀e a w,Q1 e a w->e=.normal)(hi:i<ops.size)
  (hg:∀(x:Oper) j b,ops[i]? =some x->x.guard=some (j,b)->j<ops.size) (h:wpOp P ops Q1 i K a w):wpOp P (ops.push o) Q i K a w:=by
 have hlo:¬LetsOut Q1:=by rintro⟨a,w,h⟩;have:=hQ _ _ _ h;cases this
 have hget:∀k,k<ops.size->(ops.push o)[k]? =ops[k]?:=fun k hk=>by rw[vbp,vav (by omega)]
 unfold wpOp at h ⊢
 rw[hget i hi]
 rw[vaD hi]at h ⊢
 simp only at h ⊢
 have hw:Region.wanted ops[i] (yielded (ops.push o) a.tmps)=Region.wanted ops[i] (yielded ops a.tmps):=by
  unfold Region.wanted
  cases hgu:ops[i].guard with
  |none=>rfl
  |some x=>
   obtain⟨j,b⟩:=x
   have hj:=hg _ j b (vaD hi) hgu
   simp only[yielded,hget j hj]
 rw[hw]
 split
 ·rename_i hw2
  rw[vas hw2]at h
  rcases h with h|h
  ·exact .inl (Co hQ h)
  ·exact absurd h.2 hlo
 ·rename_i hw2
  rw[vav hw2]at h
  exact h
theorem wu{ops:Array Oper}{o:Oper}
  (hlast:∀a w,Q1 .normal a w->wpOp P (ops.push o) Q ops.size (Q .normal) a w)
  (he:∀(k:Nat) (x:Oper),ops[k]? =some x->∀e∈x.after.toList,Region.binds .any e=true->e.on<k)
  (ho:∀e∈o.after.toList,Region.binds .any e=true->e.on<ops.size) {l0 l1:Array Bool} {a:Act} {w:World}
  (h0:l0.size=ops.size) (h1:l1.size=ops.size+1) (hl:∀i,i<ops.size->l1.getD i false=l0.getD i false) (hn:l1.getD ops.size false=false)
  (hr:Region.ready .any ops l0=[]) (hq:Q1 .normal a w) (n:Nat):wpAny P .any (ops.push o) Q (n+1) l1 a w:=by
 have hget:∀k,k<ops.size->(ops.push o)[k]? =ops[k]?:=fun k hk=>by rw[vbp,vav (by omega)]
 have hgl:(ops.push o)[ops.size]? =some o:=by simp
 have hall:∀j,j<ops.size->aO l0 j:=by
  intro j
  induction j using Nat.strongRecOn with
  | _ j ih =>
   intro hj
   by_cases hx:aO l0 j
   ·exact hx
   ·exfalso
    have hoj:ops[j]? =some ops[j]:=by simp[hj]
    have:j∈Region.ready .any ops l0:=mem_ready.2 ⟨by
     unfold aO at hx
     have:j<l0.size:=by omega
     simp[this]at hx ⊢;exact hx,_,hoj,fun e he' hb=>by
     have hlt:=he j _ hoj e (by simpa using he') hb
     exact ih e.on hlt (by omega)⟩
    rw[hr]at this;cases this
 have hall1:∀j,j<ops.size->l1.getD j false=true:=fun j hj=>by rw[hl j hj];exact hall j hj
 have hsz:ops.size<l1.size:=by omega
 have hin:ops.size∈Region.ready .any (ops.push o) l1:=mem_ready.2 ⟨by simp[hsz]at hn ⊢;exact hn,o,hgl,fun e he' hb=>hall1 _ (ho e (by simpa using he') hb)⟩
 have hone:∀i∈Region.ready .any (ops.push o) l1,i=ops.size:=by
  intro i hi
  obtain⟨k1,x,hx,k2⟩:=mem_ready.1 hi
  have hlt:=(vai.1 hx).1
  by_cases hii:i=ops.size
  ·exact hii
  ·exfalso
   have hlt2:i<ops.size:=by simp at hlt;omega
   have:=hall1 i hlt2
   have e1:i<l1.size:=by omega
   simp[e1]at k1 this
   rw[this]at k1;cases k1
 have hdone:Region.ready .any (ops.push o) (l1.setIfInBounds ops.size true)=[]:=by
  apply vbg.2
  intro i hi
  obtain⟨k1,x,hx,k2⟩:=mem_ready.1 hi
  have hlt:=(vai.1 hx).1
  have e1:i<l1.size:=by simp at hlt;omega
  by_cases hii:i=ops.size
  ·subst hii;simp[e1]at k1
  ·have:=hall1 i (by simp at hlt;omega)
   simp[e1,vbl,Ne.symm hii]at k1 this
   rw[this]at k1;cases k1
 unfold wpAny
 refine⟨fun h=>(by rw[h]at hin;cases hin),fun i hi=>?_⟩
 rw[hone i hi]
 refine wpOp_mono (fun a w hq=>?_) (hlast a w hq)
 cases n with
 |zero=>exact⟨hdone,hq⟩
 |succ n=>exact⟨fun _=>hq,fun i hi=>by rw[hdone]at hi;cases hi⟩
theorem zd{ops:Array Oper}{o:Oper}(hQ:∀e a w,Q1 e a w->e=.normal)
  (hlast:∀a w,Q1 .normal a w->wpOp P (ops.push o) Q ops.size (Q .normal) a w)
  (hg:∀(i:Nat) (x:Oper) j b,ops[i]? =some x->x.guard=some (j,b)->j<ops.size)
  (he:∀(k:Nat) (x:Oper),ops[k]? =some x->∀e∈x.after.toList,Region.binds .any e=true->e.on<k)
  (ho:∀e∈o.after.toList,Region.binds .any e=true->e.on<ops.size)
  (hb:∀i,i<ops.size->(da (pA ops.toList) o).testBit i=true):
  ∀(fuel:Nat) (l0 l1:Array Bool) (a:Act) (w:World),l0.size=ops.size->l1.size=ops.size+1->(∀i,i<ops.size->l1.getD i false=l0.getD i false)->l1.getD ops.size false=false->CF ops l0->
   wpAny P .any ops Q1 fuel l0 a w->wpAny P .any (ops.push o) Q (fuel+1) l1 a w:=by
 have hget:∀k,k<ops.size->(ops.push o)[k]? =ops[k]?:=fun k hk=>by rw[vbp,vav (by omega)]
 have hgl:(ops.push o)[ops.size]? =some o:=by simp
 intro fuel
 induction fuel with
 |zero=>
  intro l0 l1 a w h0 h1 hl hn hd h
  exact wu hlast he ho h0 h1 hl hn (by unfold wpAny at h;exact h.1) (by unfold wpAny at h;exact h.2) 0
 | succ fuel ih =>
  intro l0 l1 a w h0 h1 hl hn hd h
  by_cases hr:Region.ready .any ops l0=[]
  ·exact wu hlast he ho h0 h1 hl hn hr (by unfold wpAny at h;exact h.1 hr) (fuel+1)
  ·unfold wpAny at h ⊢
   have hmem:∀i,i∈Region.ready .any (ops.push o) l1->i<ops.size/\i∈Region.ready .any ops l0:=by
    intro i hi
    obtain⟨k1,x,hx,k2⟩:=mem_ready.1 hi
    have hne:i≠ops.size:=by
     intro hin
     subst hin
     rw[hgl]at hx;cases hx
     apply hr
     have hall:∀j,j<ops.size->aO l0 j:=by
      intro j hj
      obtain⟨e,e1,e2,e3⟩:=pZ (hb j hj)
      have hle:=ho e e1 e2
      have hle2:aO l0 e.on:=by unfold aO;rw[<-hl e.on hle];exact k2 e (by simpa using e1) e2
      rcases e3 with rfl|e3
      ·exact hle2
      ·exact qW hd e.on _ (vaD hle) (hd e.on _ (vaD hle) hle2) j e3
     apply vbg.2
     intro j hj
     obtain⟨q1,y,hy,_⟩:=mem_ready.1 hj
     have hjs:=(vai.1 hy).1
     have:=hall j hjs
     unfold aO at this
     have hjs':j<l0.size:=by omega
     simp[hjs']at q1 this
     rw[this]at q1;cases q1
    have hlt:i<ops.size:=by
     have:=(vai.1 hx).1
     simp at this;omega
    refine⟨hlt,mem_ready.2 ⟨?_,x,by rw[<-hget i hlt];exact hx,fun e he1 he2=>?_⟩⟩
    ·have e1:i<l1.size:=by omega
     have e2:i<l0.size:=by omega
     have:=hl i hlt
     simp[e1,e2]at k1 this ⊢
     rw[<-this];exact k1
    ·have hlte:=he i x (by rw[<-hget i hlt];exact hx) e (by simpa using he1) he2
     rw[<-hl e.on (by omega)];exact k2 e he1 he2
   have hne:Region.ready .any (ops.push o) l1≠[]:=by
    intro hnil
    apply hr
    apply vbg.2
    intro j hj
    obtain⟨q1,y,hy,q2⟩:=mem_ready.1 hj
    have hjs:=(vai.1 hy).1
    have:j∈Region.ready .any (ops.push o) l1:=mem_ready.2 ⟨by
      have e1:j<l1.size:=by omega
      have e2:j<l0.size:=by omega
      have:=hl j hjs
      simp[e1,e2]at q1 this ⊢
      rw[this];exact q1,y,by rw[hget j hjs];exact hy,fun e he1 he2=>by
      have hlte:=he j y hy e (by simpa using he1) he2
      rw[hl e.on (by omega)];exact q2 e he1 he2⟩
    rw[hnil]at this;cases this
   refine⟨fun h=>absurd h hne,fun i hi=>?_⟩
   obtain⟨hlt,hi0⟩:=hmem i hi
   obtain⟨q1,y,hy,q2⟩:=mem_ready.1 hi0
   refine wpOp_mono (fun a w hh=>ih (l0.setIfInBounds i true) (l1.setIfInBounds i true) a w (by simpa using h0) (by simpa using h1) (fun k hk=>?_) ?_ ?_ hh) (AB hQ hlt (fun x j b hx=>hg i x j b hx) (h.2 i hi0))
   ·by_cases hki:k=i
    ·subst hki
     have e1:k<l1.size:=by omega
     have e2:k<l0.size:=by omega
     simp[e1,e2]
    ·have:=hl k hk
     have e1:k<l1.size:=by omega
     have e2:k<l0.size:=by omega
     simp[e1,e2,vbl,Ne.symm hki]at this ⊢
     exact this
   ·have e1:ops.size<l1.size:=by omega
    have hki:¬i=ops.size:=by omega
    simp[e1,vbl,hki]at hn ⊢
    exact hn
   ·intro j x hx hj e he1 he2
    have hset:∀k,aO (l0.setIfInBounds i true) k↔(k=i\/aO l0 k):=fun k=>by
     unfold aO
     by_cases hk:k<l0.size
     ·by_cases hki:k=i
      ·subst hki;simp[hk]
      ·simp[hk,vbl,Ne.symm hki,hki]
     ·simp[hk];intro hki;subst hki;omega
    rw[hset]at hj ⊢
    rcases hj with rfl|hj
    ·rw[hy]at hx;cases hx
     exact .inr (q2 e (by simpa using he1) he2)
    ·exact .inr (hd j x hx hj e he1 he2)
end
def yR(l:List Oper)(an:List Nat)(o:Oper):Bool:=
 (du o&&(!ai o.op&&o.guard.isNone))&&(o.after.all (fun e=>!Region.binds .any e||decide (e.on<l.length))&&
 ((List.range l.length).all (fun i=>(da an o).testBit i)&&l.all fun x=>match x.guard with
  |some (j,_)=>decide (j<l.length)
  |none=>true))
section
variable{P:Program}{GE:List (Nat×List PVal)}{A:List Nat}
theorem jS{bid:Nat->Option (Nat×ah)}{rw:List Nat}{ops:Array Oper}{K K':List (List Rs)->aj->Prop}(hK:∀lg st,K lg st->K' lg st):∀(L:List Oper) (id:Nat) (lg:List (List Rs)) (st:aj),eQ P GE bid rw ops K L id lg st->eQ P GE bid rw ops K' L id lg st
 |[],_,lg,st,h=>hK lg st h
 | o :: L,id,lg,st,h => by
  unfold eQ at h ⊢
  split at h
  ·obtain⟨s',rs,h1,h2⟩:=h
   exact⟨s',rs,h1,jS hK L _ _ _ h2⟩
  ·split at h
   ·refine⟨fun hx=>?_,fun hx=>jS hK L _ _ _ (h.2 hx)⟩
    obtain⟨s',rs,h1,h2⟩:=h.1 hx
    exact⟨s',rs,h1,jS hK L _ _ _ h2⟩
   ·exact h
theorem ib{ops:Array Oper}{K K':aj->Prop}(hK:∀st,K st->K' st):∀(L:List Oper) (id:Nat) (st:aj),b5 P GE A ops K L id st->b5 P GE A ops K' L id st
 |[],_,st,h=>hK st h
 | o :: L,id,st,h => by
  unfold b5 at h ⊢
  split at h
  ·exact og (fun st hx=>ib hK L _ st hx) h
  ·split at h
   ·exact⟨fun hx=>og (fun st hx=>ib hK L _ st hx) (h.1 hx),fun hx=>ib hK L _ _ (h.2 hx)⟩
   ·exact h
theorem xc{o:Oper}(h:ai o.op=false):bZ P [o]=[]:=by
 have:=nh P [o]
 simp[aD,h]at this
 exact this
theorem aE.drawL{m:Nat}(hf:P.follows .mixedOrders=true){id:Nat}{ops:Array Oper}{o:Oper}{an:List Nat}{X:List ah}{br:List (Nat×Nat)}{rw:List Nat}{Q:Exit->aj->Prop}{st:aj}(hnd:ops.toList.all du=true)(hl:yR ops.toList an o=true)
  (h:w5 P GE ops an X br rw (fun st'=>b5 P GE A #[o] (Q .normal) [o] st'.boxes.length st') st):aE P GE m (.region id (ops.push o) true) Q st:=by
 unfold yR at hl
 simp only[vac,vaK,Option.isNone_iff_eq_none,vao,vbi,vaO,vah,vba]at hl
 obtain⟨⟨l1,l2,l3⟩,l4,l5,l6⟩:=hl
 intro ro E bs0 a w hE hb hR
 obtain⟨rfl,_,_,_⟩:=hE
 obtain⟨hD,han⟩:=tV h.1
 refine jf (nV (Q:=fun e a' w'=>e=.normal/\tk P E bs0 a.defers Q .normal a' w') hf (by simp only[Array.toList_push,List.all_append,vac];exact⟨hnd,by simp[l1]⟩) (by rintro⟨_,_,h,_⟩;cases h) ?_) fun e a' w' hq=>by obtain⟨rfl,hq⟩:=hq;exact hq
 have key:=zd (P:=P) (ops:=ops) (o:=o) (Q:=fun e a' w'=>e=.normal/\tk P E bs0 a.defers Q .normal a' w')
  (Q1:=fun e a' w'=>e=.normal/\a'.defers=a.defers/\∃st',xo P E bs0 st' a' w'/\b5 P E.GE A #[o] (Q .normal) [o] st'.boxes.length st')
  (fun e a w h=>h.1) (fun a1 w1 hq=>?_) (fun i x j b hx hg=>?_) (fun k x hx e he hb=>hD.f2 k x hx e he hb) (fun e he hb=>?_) (fun i hi=>?_)
  ops.size (Array.replicate ops.size false) (Array.replicate (ops.size+1) false) a {w with drawn:=w.drawn+1} (by simp) (by simp) (fun i hi=>by rw[ji,ji]) (by rw[ji]) (fun j x hx hj=>?_) ?_
 ·simpa using key
 ·obtain⟨_,hd,st',hR',hp⟩:=hq
  have hp2:b5 P E.GE A #[o] (Q .normal) (#[o]:Array Oper).toList st'.boxes.length {st' with boxes:=st'.boxes++bZ P (#[o]:Array Oper).toList}:=by
   simp only[xc l2,vbo]
   exact hp
  have ht:=pw (Q:=fun e a' w'=>e=.normal/\tk P E bs0 a.defers Q .normal a' w') hR' hR'.len (fun a' w' st'' hd' hR'' hK=>⟨rfl,hd'.trans hd,st'',hR'',hK⟩) hp2
  rw[show List.range (#[o]:Array Oper).size=[0]from rfl,wpOps_cons]at ht
  unfold wpOp at ht ⊢
  rw[show((#[o]:Array Oper)[0]?)=some o from rfl]at ht
  rw[show(ops.push o)[ops.size]? =some o by simp]
  simp only[Region.wanted,l3,if_true]at ht ⊢
  refine ht.imp_left (Oper.wp_mono fun a2 w2 h2=>?_)
  exact⟨trivial,h2.2⟩
 ·have:=l6 x (var (by simpa using hx:ops.toList[i]? =some x))
  rw[hg]at this
  simpa using this
 ·have:=l4 e (by simpa using he)
  rcases this with hx|hx
  ·rw[hb]at hx;cases hx
  ·simpa using hx
 ·rw[han];exact l5 i (by simpa using hi)
 ·unfold aO at hj;rw[ji]at hj;cases hj
 ·exact qg hR hR.len (fun a' w' st' hd hR' hK=>⟨rfl,hd,st',hR',hK⟩) h
theorem Aa{ops:Array Oper}{an:List Nat}{X:List ah}{br:List (Nat×Nat)}{rw:List Nat}{K:List It->aj->Prop}{sc:List It}{st:aj}
  (h:pD P GE A ops an X br rw K sc st):ops.toList.all du=true/\w5 P GE ops an X br rw (fun st=>∃sc,K sc st) st:=by
 unfold pD at h
 split at h
 ·rename_i hd
  rw[vac,vac]at hd
  obtain⟨hnd,hd⟩:=hd
  unfold vg at h
  rw[al]at h
  split at h
  ·rename_i hr
   rw[al]at h
   refine⟨hnd,hd.1,by rw[vac];exact⟨hd.2,hr⟩,?_⟩
   have:=jU _ _ _ _ _ _ h
   simpa using this
  ·exact h.elim
 ·exact h.elim
def wM(P:Program)(GE:List (Nat×List PVal))(A:List Nat)(ops:Array Oper)(an:List Nat)(X:List ah)(br:List (Nat×Nat))(rw:List Nat)(K:List It->aj->Prop)(sc:List It)(st:aj):Prop:=
 match ops.toList.getLast? with
 |some o=>match yR ops.toList.dropLast an o with
  |true=>pD P GE A ops.toList.dropLast.toArray an X br rw (fun sc st=>tY P GE A #[o] K [o] 0 st.boxes.length sc st) sc st
  |false=>False
 |none=>False
theorem vw{m:Nat}(hf:P.follows .mixedOrders=true){id:Nat}{ops:Array Oper}{an:List Nat}{X:List ah}{br:List (Nat×Nat)}{rw:List Nat}{K:List It->aj->Prop}{sc:List It}{st:aj}{Q:Exit->aj->Prop}(hQ:∀st,(∃sc,K sc st)->Q .normal st)
  (h:wM P GE A ops an X br rw K sc st):aE P GE m (.region id ops true) Q st:=by
 unfold wM at h
 split at h
 ·rename_i o ho
  split at h
  ·rename_i hl
   have hops:ops=ops.toList.dropLast.toArray.push o:=by
    have h1:ops.toList.dropLast++[o]=ops.toList:=by
     have hne:ops.toList≠[]:=by intro hx;rw[hx]at ho;cases ho
     rw[vbS hne]at ho
     rw[<-va2 ho]
     exact vbW hne
    apply Array.toList_inj.1
    simp[h1]
   obtain⟨hnd,hp⟩:=Aa h
   have:=aE.drawL (P:=P) (GE:=GE) (A:=A) (m:=m) (id:=id) hf (Q:=fun e st=>e=.normal/\∃sc,K sc st) hnd (by simpa using hl) (o:=o) (by
    refine⟨hp.1,hp.2.1,?_⟩
    refine jS (fun lg st' hx=>⟨hx.1,?_⟩) _ _ _ _ hp.2.2
    obtain⟨sc',hx⟩:=hx.2
    refine ib (fun st hx=>⟨rfl,hx⟩) _ _ _ (mB _ _ _ _ _ hx))
   rw[hops]
   exact this.imp fun e st hx=>by obtain⟨rfl,hx⟩:=hx;exact hQ st hx
  ·exact h.elim
 ·exact h.elim
end
def FG(st st0:aj):Prop:=wO st.tmps st0.tmps=st0.tmps/\xp st.boxes st0.boxes=st0.boxes/\(st0.own.all fun x=>decide (x∈st.own))=true
theorem fr(st:aj):st.tmps=st.tmps/\st.boxes=st.boxes/\true=true:=⟨rfl,rfl,rfl⟩
theorem FG.weak{P:Program}{m:Nat}{st st0:aj}(h:FG st st0):nj P m st st0:=by
 obtain⟨h1,h2,h3⟩:=h
 have:=nj.forget (P:=P) (m:=m) (st:=st) st0.tmps st0.boxes st0.own (fun x hx=>by simpa using vao.1 h3 x hx)
 rw[h1,h2]at this
 exact this
def mt(P:Program)(GE:List (Nat×List PVal))(A:List Nat)(m:Nat):Code->List It->aj->(Exit->List It->aj->Prop)->Prop
 |.skip,sc,st,K=>K .normal sc st
 |.label _,sc,st,K=>K .normal sc st
 | .region _ ops draw,sc,st,K => match draw with
  |false=>match ops.toList.all du with
   |true=>vg st.boxes (bZ P ops.toList) fun H=>tY P GE A ops (K .normal) ops.toList 0 st.boxes.length sc ⟨st.tmps,H,st.own⟩
   |false=>False
  |true=>match sc with
   |.dr an::sc'=>pD P GE A ops an [] [] [] (K .normal) sc' st
   |.dx an X br rw::sc'=>pD P GE A ops an X br rw (K .normal) sc' st
   |.k::.dx an X br rw::sc'=>wM P GE A ops an X br rw (K .normal) sc' st
   |_=>False
 | .seq a b,sc,st,K =>
  let after (e:Exit) (sc:List It) (st:aj):Prop:=match e with
   |.normal=>A2 m sc st fun sc st=>mt P GE A m b sc st K
   |e=>K e sc st
  match sc with
  |.pa 0::.pc st0 e st1::sc'=>FG st st0/\aE P GE m a (EX e st1) st0/\after e sc' st1
  |.pa (n+1)::sc'=>mt P GE A m a (.pa n::sc') st after
  |sc=>mt P GE A m a sc st after
 | .cond c a b,sc,st,K => gW GE st.tmps c fun v => match v with
  | .bool t => match sc with
   |.k::sc'=>match t with
    |true=>A2 m sc' st fun sc st=>mt P GE A m a sc st K
    |false=>A2 m sc' st fun sc st=>mt P GE A m b sc st K
   |.g _ x::sc'=>t=x/\match x with
    |true=>A2 m sc' st fun sc st=>mt P GE A m a sc st K
    |false=>A2 m sc' st fun sc st=>mt P GE A m b sc st K
   |_=>False
  |_=>False
 |.block id c,sc,st,K=>mt P GE A m c sc st fun e sc st=>match e with
  |.exit id'=>if id'=id then K .normal sc st else K (.exit id') sc st
  |e=>K e sc st
 |.exit id,sc,st,K=>K (.exit id) sc st
 |.ret,sc,st,K=>K .ret sc st
 |.loop c,sc,st,K=>match sc with
  |.pc st0 e st1::sc'=>FG st st0/\aE P GE m (.loop c) (EX e st1) st0/\K e sc' st1
  |_=>False
 |_,_,_,_=>False
section
variable{P:Program}{GE:List (Nat×List PVal)}{A:List Nat}{m:Nat}
theorem dj(hf:P.follows .mixedOrders=true):∀(c:Code) (sc:List It) (st:aj) (K:Exit->List It->aj->Prop),mt P GE A m c sc st K->aE P GE m c (fun e st'=>∃sc',K e sc' st') st
 |.skip,sc,st,K,h=>aE.skip ⟨sc,h⟩
 |.label _,sc,st,K,h=>aE.label ⟨sc,h⟩
 | .region id ops draw,sc,st,K,h => by
  simp only[mt]at h
  cases draw with
  | false =>
   simp only at h
   split at h
   ·rename_i hd
    simp only[vg,al]at h
    exact aE.text hd (mB _ _ _ _ _ h)
   ·exact h.elim
  | true =>
   simp only at h
   split at h
   ·exact qj hf (fun st hx=>hx) h
   ·exact qj hf (fun st hx=>hx) h
   ·exact vw hf (fun st hx=>hx) h
   ·exact h.elim
 | .seq a b,sc,st,K,h => by
  have aft:∀(e:Exit) (sc':List It) (st':aj),(match e with|.normal=>A2 m sc' st' (fun sc st=>mt P GE A m b sc st K)|e=>K e sc' st')->(match e with|.normal=>aE P GE m b (fun e st'=>∃sc',K e sc' st') st'|e=>∃sc',K e sc' st'):=by
   intro e sc' st' hx
   cases e with
   |normal=>
    obtain⟨sc2,st2,hw,hx⟩:=yN (P:=P) hx
    exact aE.weak hw (dj hf b sc2 st2 K hx)
   |exit id=>exact⟨_,hx⟩
   |goto l=>exact⟨_,hx⟩
   |ret=>exact⟨_,hx⟩
   |panic c=>exact⟨_,hx⟩
   |outgrown=>exact⟨_,hx⟩
  simp only[mt]at h
  refine aE.seq ?_
  split at h
  ·rename_i st0 e st1 sc'
   obtain⟨h1,h2,h3⟩:=h
   refine aE.weak h1.weak (EX.of h2 ?_)
   have:=aft e sc' st1 h3
   cases e<;>exact this
  ·exact(dj hf a _ st _ h).imp fun e st' hx=>by
    obtain⟨sc',hx⟩:=hx
    have:=aft e sc' st' hx
    cases e<;>exact this
  ·exact(dj hf a _ st _ h).imp fun e st' hx=>by
    obtain⟨sc',hx⟩:=hx
    have:=aft e sc' st' hx
    cases e<;>exact this
 | .cond c a b,sc,st,K,h => by
  simp only[mt,aG]at h
  have go:∀{x:Code} (hx:∀(sc:List It) (st:aj),mt P GE A m x sc st K->aE P GE m x (fun e st'=>∃sc',K e sc' st') st) {sc:List It},A2 m sc st (fun sc st=>mt P GE A m x sc st K)->aE P GE m x (fun e st'=>∃sc',K e sc' st') st:=by
   intro x hx sc h
   obtain⟨sc2,st2,hw,h⟩:=yN (P:=P) h
   exact aE.weak hw (hx sc2 st2 h)
  split at h
  ·rename_i t ht
   split at h
   ·rename_i sc'
    refine aE.cond ht (fun h1=>?_) (fun h1=>?_)
    ·subst h1;exact go (fun sc st=>dj hf a sc st K) h
    ·subst h1;exact go (fun sc st=>dj hf b sc st K) h
   ·rename_i j x sc'
    obtain⟨rfl,h⟩:=h
    refine aE.cond ht (fun h1=>?_) (fun h1=>?_)
    ·subst h1;exact go (fun sc st=>dj hf a sc st K) h
    ·subst h1;exact go (fun sc st=>dj hf b sc st K) h
   ·exact h.elim
  ·exact h.elim
 | .block id c,sc,st,K,h => by
  simp only[mt]at h
  refine aE.block ((dj hf c _ st _ h).imp fun e st' hx=>?_)
  obtain⟨sc',hx⟩:=hx
  cases e with
  | exit id' =>
   simp only[yD]
   simp only at hx
   split at hx
   ·rename_i hid;rw[vas hid];exact⟨sc',hx⟩
   ·rename_i hid;rw[vav hid];exact⟨sc',hx⟩
  |normal=>exact⟨sc',hx⟩
  |goto l=>exact⟨sc',hx⟩
  |ret=>exact⟨sc',hx⟩
  |panic c=>exact⟨sc',hx⟩
  |outgrown=>exact⟨sc',hx⟩
 |.exit id,sc,st,K,h=>aE.exit ⟨sc,h⟩
 |.ret,sc,st,K,h=>aE.ret ⟨sc,h⟩
 | .loop c,sc,st,K,h => by
  simp only[mt]at h
  split at h
  ·rename_i st0 e st1 sc'
   obtain⟨h1,h2,h3⟩:=h
   exact aE.weak h1.weak (EX.of h2 ⟨sc',h3⟩)
  ·exact h.elim
 |.rangeFunc ..,_,_,_,h=>by simp[mt]at h
 |.scope _,_,_,_,h=>by simp[mt]at h
 |.goto _,_,_,_,h=>by simp[mt]at h
 |.refuse _,_,_,_,h=>by simp[mt]at h
def FN(e0:Exit)(st0:aj):Exit->List It->aj->Prop:=fun e _ st=>e0=e/\FG st st0
theorem Bq(hf:P.follows .mixedOrders=true){c:Code}{e0:Exit}{st0 st:aj}(sc:List It)(h:mt P GE A m c sc st (FN e0 st0)):aE P GE m c (EX e0 st0) st:=
 (dj hf c sc st _ h).mono fun _ _ hx=>by
  obtain⟨_,hx⟩:=hx
  exact⟨st0,hx.2.weak,hx.1.symm,rfl⟩
theorem qB(hf:P.follows .mixedOrders=true){σ X:Type}{S:σ->aj}{ex:X->Exit}{so:X->aj}{c:Code}{s:σ}{st:aj}(sc:List It)(h:mt P GE A m c sc st (FN .normal (S s))):aE P GE m c (LQ S ex so (.inl s)) st:=
 (Bq hf sc h).imp fun _ _ hx=>⟨hx.1,hx.2⟩
theorem EO(hf:P.follows .mixedOrders=true){σ X:Type}{S:σ->aj}{ex:X->Exit}{so:X->aj}{c:Code}{x:X}{st:aj}(sc:List It)(hn:ex x≠.normal)(h:mt P GE A m c sc st (FN (ex x) (so x))):aE P GE m c (LQ S ex so (.inr x)) st:=
 (Bq hf sc h).imp fun _ _ hx=>⟨by rw[hx.1];exact hn,hx.1,hx.2⟩
def oU(rs:List ResultVar)(ro:List (Nat×TypeId))(st:aj):Bool:=
 ro.all (fun x=>decide ((bU rs x.1,x.2)∈st.own)&&(match rs with
  |[.tmp _]=>true
  |[_]=>false
  |rs=>match rs[x.1]? with
   |some (.tmp t)=>(st.tmps.getD t .undef).isSlice
   |_=>false))&&ro.all (fun x=>ro.all fun y=>!decide (bU rs x.1=bU rs y.1)||decide (x.1=y.1))
def PVal.isAgg:PVal->Bool
 |.agg _=>true
 |_=>false
def xe(P:Program)(rs:List ResultVar)(r:PVal)(ro:List (Nat×TypeId))(st:aj):Prop:=
 ∃(t:Tmp) (ty:TypeId) (i off:Nat) (cs:List PVal) (own:List (Nat×TypeId)) (l:List PVal),rs=[.cell t ty]/\(∃fs,P.underlying ty=some (.struct fs))/\st.tmps.getD t .undef=.bptr i off/\st.boxes[i]? =some (.cells cs own)/\
  r=.agg l/\be P ty (cs.drop off)=some (.agg l)/\r.cl 0/\(∀x∈ro,(off+x.1,x.2)∈own/\x.1<l.length)/\(ro.map (·.1)).Nodup
def BD(P:Program)(rs:List ResultVar)(r:PVal)(ro:List (Nat×TypeId))(e:Exit)(st:aj):Prop:=
 D6 P rs r ro [] e st\/((e=.normal\/e=.ret)/\xe P rs r ro st)
def zN(P:Program)(rs:List ResultVar)(ro:List (Nat×TypeId))(st:aj):Bool:=match rs with
 | [.cell t ty] => match P.underlying ty with
  | some (.struct _) => match st.tmps.getD t .undef with
   |.bptr i off=>match st.boxes[i]? with
    |some (.cells _ own)=>ro.all (fun x=>decide ((off+x.1,x.2)∈own)&&decide (x.1<P.cellsOf ty))&&kq (ro.map (·.1))
    |_=>false
   |_=>false
  |_=>false
 |_=>false
section
variable{P:Program}{E:kF}{Γ:ax}{bs:aB}{ow:Nat->Option gY}{w:World}{a:Array Value}{st:aj}
theorem SR.pushed(h:SR P E Γ bs ow w a st){v:Value}{p:PVal}(hv:VR Γ bs w p v):SR P E Γ bs ow w (a.push v) {st with tmps:=st.tmps++[p]}:=
 { h with
  sz:=by simp[h.sz]
  tm:=fun t q u hq hu=>by
   by_cases ht:t<a.size
   ·rw[vck ht]at hu
    simp only at hq
    rw[vad (by rw[<-h.sz];exact ht)]at hq
    exact h.tm t q u hq (by rw[<-hu];simp[ht])
   ·have hlt:t<(a.push v).size:=(vai.1 hu).1
    have ht2:t=a.size:=by simp at hlt;omega
    subst ht2
    simp only at hq
    rw[vaf (by rw[h.sz];exact vam _),h.sz]at hq
    simp at hq hu
    subst hq;subst hu;exact hv
  ot:=fun t k e he=>by
   obtain⟨u,v',h1,h2,h3,h4⟩:=h.ot t k e he
   have hlt:t<a.size:=(vai.1 h1).1
   exact⟨u,v',by rw[vck hlt,<-h1];simp[hlt],h2,h3,h4⟩}
theorem SR.finishCell(h:SR P E Γ bs ow w a st){fn:Func}{r:PVal}{ro:List (Nat×TypeId)}(hr:xe P fn.results.toList r ro st):∃v ow',(results fn a).run P w=.ok v w/\SR P E Γ [] ow' w #[v] ⟨[r],[],ro.map fun x=>((0,x.1),x.2)⟩:=by
 obtain⟨t,ty,i,off,cs,own,l,hrs,⟨fs,hfs⟩,ht,hB,rfl,hp,hcl,hro,hnd⟩:=hr
 have hrv:qI P st fn.results.toList=some (.agg l):=by
  rw[hrs]
  show fI P ty (st.tmps.getD t .undef) st.boxes=_
  rw[ht]
  simp only[fI,hB,hp]
 obtain⟨v,e1,e2,_⟩:=qJ h hrv
 have hvt:=h.getD t
 rw[ht]at hvt
 generalize hva:a.getD t undef=vt at hvt
 cases hvt with
 |bptr _ _ b hb=>
 obtain⟨v2,q1,q2,q3⟩:=pJ h hb hB hp
 have hvv:v2=v:=by
  have hres:fn.results=#[.cell t ty]:=by
   have:fn.results=fn.results.toList.toArray:=by simp
   rw[this,hrs]
  have hrun:(results fn a).run P w=.ok v2 w:=by
   simp[results,hres,asAddr]
   have hva':a[t]?.getD undef=.pointer (some ⟨b,off,none⟩):=by rw[<-vat];exact hva
   rw[hva']
   simp[q1]
  rw[e1]at hrun
  cases hrun
  rfl
 subst hvv
 have g1:=h.pushed e2
 obtain⟨ow',g2⟩:=SR.takeOwns (off:=off) (d:=a.size) (u:=v2) hb (by simp) ro g1 hB (fun x hx=>(hro x hx).1) hnd fun x hx=>by
  have:=q3 ⟨_,hfs,trivial⟩ x.1 (hro x hx).2
  obtain⟨v',z1,_⟩:=h.ob i (off+x.1) x.2 cs own b hB (hro x hx).1 hb
  exact⟨v',this.trans z1,z1⟩
 refine⟨v2,rQ (fun k=>(a.size,k)) ro ow',e1,?_⟩
 have hf:=g2.finish (H':=[]) (src:=fun k=>(a.size,k)) (ro:=ro) e2 hcl (by unfold bh;trivial) (fun x hx=>⟨?_,fun u v' hu hv'=>?_⟩) (fun x _ y _ e=>by simpa using e)
 ·simpa using hf
 ·exact vaW _ (vbR.2 (vap.2 ⟨x,hx,rfl⟩))
 ·simp at hu;subst hu;exact hv'
end
def Dv(P:Program)(rs:List ResultVar)(r:PVal)(ro:List (Nat×TypeId))(st:aj):Prop:=match oU rs ro st with
 |true=>match qI P st rs with
  |some p=>p=r/\r.cl 0
  |none=>False
 | false => match zN P rs ro st with
  |true=>match qI P st rs with
   |some p=>p=r/\r.cl 0/\r.isAgg=true
   |none=>False
  |false=>False
def FR(P:Program)(rs:List ResultVar)(r:PVal)(ro:List (Nat×TypeId)):Exit->List It->aj->Prop:=fun e _ st=>match e with
 |.normal=>Dv P rs r ro st
 |.ret=>Dv P rs r ro st
 |_=>False
theorem C.ofSat{f:FuncId}{fn:Func}{c:Code}{args:List PVal}{r:PVal}{ro:List (Nat×TypeId)}
  (hcall:∀vs w,(callFunc f vs).run P w=.ok (.enter f vs) w) (hfn:P.funcs[f]? =some fn) (hb:fn.body=some c)
  (hp:aE P GE 0 c (BD P fn.results.toList r ro) ⟨args++List.replicate (fn.ntmps - args.length) .undef,[],[]⟩):C P GE f args [] [] r ro []:=by
 refine⟨hcall,fun Γ bs ow w vs h=>calls_of_wp hfn hb ?_⟩
 have hbl:bs.length=0:=h.bl
 obtain rfl:bs=[]:=van hbl
 have h0:SR P ⟨GE,Γ,w,fun _=>False⟩ Γ [] (fun _=>none) w (vs++Array.replicate (fn.ntmps - vs.size) undef) ⟨args++List.replicate (fn.ntmps - args.length) .undef,[],[]⟩:=by
  have hsz:vs.size=args.length:=h.sz
  exact{
   wi:=h.wi
   sz:=by simp[hsz]
   tm:=fun t p v hp hv=>by
    simp only at hp
    by_cases ht:t<args.length
    ·rw[vad ht]at hp
     rw[vaH (by omega)]at hv
     exact h.tm t p v hp hv
    ·rw[vaf (by omega),vaN]at hp
     split at hp<;>cases hp
     exact .undef v
   bl:=rfl
   bx:=fun i b B hi=>by simp at hi
   inj:=fun i j b hi=>by simp at hi
   bn:=fun i b hi=>by simp at hi
   on:=fun b L hL=>by cases hL
   ot:=fun t k e he=>by simp at he
   ob:=fun i j e cs own b hB=>by simp at hB
   gl:=h.gl
   gc:=h.gc
   gx:=fun g cs hg=>⟨(h.gx g cs hg).1,fun hx=>hx,(h.gx g cs hg).2.2⟩
   step:=.refl _ _ _ _}
 have hE:zj GE 0 ⟨GE,Γ,w,fun _=>False⟩:={
  ge:=rfl
  low:=fun b n hb=>h.lt_of_ghost hb
  nt:=fun _ _ hx=>hx
  gl:=h.gl}
 have hwp:=hp none ⟨GE,Γ,w,fun _=>False⟩ [] ⟨vs++Array.replicate (fn.ntmps - vs.size) undef,[]⟩ w hE rfl ⟨Γ,[],_,h0,fun i _=>rfl⟩
 refine wp_mono hwp fun e a w' hq=>?_
 obtain⟨hd,st,⟨Γ1,bs1,ow1,hS0,hk⟩,hQ⟩:=hq
 have hS:SR P ⟨GE,Γ,w,bg [] ow⟩ Γ1 bs1 ow1 w' a.tmps st:={hS0 with
  bn:=fun i b hb=>(hS0.bn i b hb).elim False.elim .inr
  on:=fun b L hL=>⟨(hS0.on b L hL).1,(hS0.on b L hL).2.elim False.elim .inr⟩
  gx:=h.gx
  step:={hS0.step with keep:=fun b hb _=>hS0.step.keep b hb (fun hx=>hx)}}
 have key:(qI P st fn.results.toList=some r/\r.cl 0/\bh 0 st.boxes []/\(∀x∈ro,(bU fn.results.toList x.1,x.2)∈st.own/\jb st fn.results.toList x.1)/\
   (∀x∈ro,∀y∈ro,bU fn.results.toList x.1=bU fn.results.toList y.1->x.1=y.1))->
   a.defers=[]/\∃v,(results fn a.tmps).run P w'=.ok v w'/\∃v' Γ' ow',Ending.returned v=.returned v'/\SR P ⟨GE,Γ,w,bg [] ow⟩ Γ' [] ow' w' #[v'] ⟨[r],[],ro.map fun x=>((0,x.1),x.2)⟩:=by
  rintro⟨k1,k2,k3,k4,k5⟩
  obtain⟨v,e1,e2,e3⟩:=qJ hS k1
  refine⟨hd,v,e1,v,Γ1,rQ (bU fn.results.toList) ro ow1,rfl,?_⟩
  have hf:=hS.finish (H':=[]) (src:=bU fn.results.toList) (ro:=ro) e2 k2 k3 (fun x hx=>⟨(k4 x hx).1,fun u v'=>e3 x.1 u v' (k4 x hx).2⟩) k5
  simpa using hf
 have key2:xe P fn.results.toList r ro st->
   a.defers=[]/\∃v,(results fn a.tmps).run P w'=.ok v w'/\∃v' Γ' ow',Ending.returned v=.returned v'/\SR P ⟨GE,Γ,w,bg [] ow⟩ Γ' [] ow' w' #[v'] ⟨[r],[],ro.map fun x=>((0,x.1),x.2)⟩:=by
  intro hc
  obtain⟨v,ow',e1,e2⟩:=hS.finishCell hc
  exact⟨hd,v,e1,v,Γ1,ow',rfl,e2⟩
 rcases hQ with hQ|⟨he,hQ⟩
 ·cases e with
  |normal=>exact key hQ
  |ret=>exact key hQ
  |exit id=>exact hQ.elim
  |goto l=>exact hQ.elim
  |panic c=>exact hQ.elim
  |outgrown=>exact hQ.elim
 ·rcases he with rfl|rfl
  ·exact key2 hQ
  ·exact key2 hQ
theorem uM{rs:List ResultVar}{r:PVal}{ro:List (Nat×TypeId)}{st:aj}(hc:oU rs ro st=true)(hp:qI P st rs=some r)(hcl:r.cl 0):qI P st rs=some r/\r.cl 0/\bh 0 st.boxes []/\(∀x∈ro,(bU rs x.1,x.2)∈st.own/\jb st rs x.1)/\
      (∀x∈ro,∀y∈ro,bU rs x.1=bU rs y.1->x.1=y.1):=by
  unfold oU at hc
  rw[vac]at hc
  obtain⟨c1,c2⟩:=hc
  refine⟨hp,hcl,by unfold bh;cases st.boxes<;>trivial,fun x hx=>?_,fun x hx y hy hxy=>?_⟩
  · have:=vao.1 c1 x hx
    rw[vac]at this
    refine⟨by simpa using this.1,?_⟩
    have h2:=this.2
    clear hp this c1 c2
    rcases rs with _|⟨y,_|⟨z,rs⟩⟩
    ·simp at h2
    · cases y with
      |tmp t=>trivial
      |cell t ty=>cases h2
    · have key:∀ o:Option ResultVar,(match o with
        |some (.tmp t)=>(st.tmps.getD t .undef).isSlice
        |_=>false)=true->(match o with
        |some (.tmp t)=>(st.tmps.getD t .undef).isSlice=true
        |_=>False):=by
        intro o
        cases o with
        |none=>intro h;cases h
        |some q=>cases q<;>intro h<;>first|exact h|cases h
      cases y with
      |tmp t=>exact key _ h2
      |cell t ty=>exact key _ h2
  · have:=vao.1 (vao.1 c2 x hx) y hy
    simpa[hxy]using this
theorem Dv.to{rs:List ResultVar}{r:PVal}{ro:List (Nat×TypeId)}{st:aj}{e:Exit}(he:e=.normal\/e=.ret)(h:Dv P rs r ro st):BD P rs r ro e st:=by
 unfold Dv at h
 split at h
 ·rename_i hc
  split at h
  ·rename_i p hp
   obtain⟨rfl,hcl⟩:=h
   have:=uM hc hp hcl
   rcases he with rfl|rfl<;>exact .inl this
  ·exact h.elim
 ·split at h
  ·rename_i hc
   split at h
   ·rename_i p hp
    obtain⟨rfl,hcl,hagg⟩:=h
    refine .inr ⟨he,?_⟩
    unfold zN at hc
    split at hc
    ·rename_i t ty _
     split at hc
     ·rename_i fs hfs
      split at hc
      ·rename_i i off ht
       split at hc
       ·rename_i cs own hB
        rw[vac]at hc
        obtain⟨c1,c2⟩:=hc
        have hpl:be P ty (cs.drop off)=some p:=by
         have hp':fI P ty (st.tmps.getD t .undef) st.boxes=some p:=hp
         rw[ht]at hp'
         simpa only[fI,hB]using hp'
        cases p<;>simp only[PVal.isAgg]at hagg<;>first|(cases hagg;done)|skip
        rename_i l
        have hlen:l.length=P.cellsOf ty:=by
         have hq:=hpl
         unfold be at hq
         rw[hfs]at hq
         simp only at hq
         split at hq
         ·rename_i hh;cases hq;rw[va4];omega
         ·cases hq
        refine⟨t,ty,i,off,cs,own,l,rfl,⟨fs,hfs⟩,ht,hB,rfl,hpl,hcl,fun x hx=>?_,gJ c2⟩
        have:=vao.1 c1 x hx
        simp only[vac,vah]at this
        exact⟨this.1,by rw[hlen];exact this.2⟩
       ·cases hc
      ·cases hc
     ·cases hc
    ·cases hc
   ·exact h.elim
  ·exact h.elim
theorem FR.to{rs:List ResultVar}{r:PVal}{ro:List (Nat×TypeId)}{e:Exit}{sc:List It}{st:aj}(h:FR P rs r ro e sc st):BD P rs r ro e st:=by
 unfold FR at h
 split at h
 ·exact h.to (.inl rfl)
 ·exact h.to (.inr rfl)
 ·exact h.elim
theorem C.ev(hf:P.follows .mixedOrders=true){f:FuncId}{fn:Func}{c:Code}{args:List PVal}{r:PVal}{ro:List (Nat×TypeId)}
  (hcall:∀vs w,(callFunc f vs).run P w=.ok (.enter f vs) w) (hfn:P.funcs[f]? =some fn) (hb:fn.body=some c) (hcl:iG 0 args) (sc:List It)
  (h:mt P GE A 0 c sc ⟨args++List.replicate (fn.ntmps - args.length) .undef,[],[]⟩ (FR P fn.results.toList r ro)):CC P GE f args r ro:=
 ⟨hcl,C.ofSat hcall hfn hb ((dj hf c sc _ _ h).imp fun e st hx=>by obtain⟨sc',hx⟩:=hx;exact hx.to)⟩
end
abbrev af:=List UInt8
abbrev cD(n:Int):Int:=IntKind.i64.wrap n
def cS(s:af):List PVal:=[.str s]
def cI(k:IntKind)(n:Int):List PVal:=[.int k n]
def cB(b:Bool):List PVal:=[.bool b]
def sl{α:Type}(c:α->List PVal)(l:List α):PVal:=.slice (l.map c)
def cL{α:Type}(c:α->List PVal)(l:List α):List PVal:=[sl c l]
def fL(s:af)(i:Int):Option Int:=(gk s i).map fun c=>(c.toNat:Int)
def bd:Option Int->Nat->Option Nat
 |none,d=>some d
 |some i,_=>if 0<=i then some i.toNat else none
def yt{α:Type}(l:List α)(lo hi:Option Int):Option (List α):=
 match bd lo 0,bd hi l.length with
 |some a,some b=>if a<=b/\b<=l.length then some ((l.take b).drop a)else none
 |_,_=>none
def app{α:Type}(l r:List α):Option (List α):=if l.length+r.length<=dB then some (l++r)else none
def vo(a b:af):Option af:=if a.length+b.length<=yS then some (a++b)else none
def qu(k:IntKind)(a b:Int):Option Int:=if b=0 then none else some (k.wrap (a.tdiv b))
def re(a b:Int):Option Int:=if b=0 then none else some (a.tmod b)
def vH{α:Type}(m:List (af×α))(k:af):Option α:=(m.find? fun e=>k==e.1).map (·.2)
def wW{α:Type}(m:List (af×α))(k:af)(v:α):List (af×α):=
 match m with
 |[]=>[(k,v)]
 |e::r=>if k==e.1 then(k,v)::r else e::wW r k v
def cw{α:Type}(f:α->PVal)(m:List (af×α)):List (PVal×PVal):=m.map fun e=>(.str e.1,f e.2)
def om:TypeDesc->Bool
 |.struct _=>false
 |.array _ _=>false
 |_=>true
theorem mO{P:Program}{t:TypeId}(h:(P.underlying t).any om=true)(p:PVal)(r:List PVal):be P t (p::r)=some p:=by
 unfold be
 split
 ·rename_i hu;rw[hu]at h;cases h
 ·rename_i hu;rw[hu]at h;cases h
 ·rfl
 ·rename_i hu;rw[hu]at h;cases h
structure uW{α:Type}(P:Program)(T e:TypeId)(c:α->List PVal):Prop where
 hu:P.underlying T=some (.slice e)
 hc:∀x,(c x).length=P.cellsOf e
 hi:(P.info? e).isSome=true
 hp:0<P.cellsOf e
 hz:(eS P e).map (·.length)=some (P.cellsOf e)
 hb:P.bytesOf e<=65536
 ho:∀x,∀q∈c x,q.one=true
 cl:∀x,iG 0 (c x)
theorem aK{α:Type}{c:α->List PVal}(h:∀x,iG 0 (c x))(l:List α):(sl c l).cl 0:=by
 unfold sl
 simp only[PVal.cl]
 exact zp fun p hp=>by obtain⟨x,_,rfl⟩:=vap.1 hp;exact h x
theorem DL(s:af):iG 0 (cS s):=⟨trivial,trivial⟩
theorem Em(k:IntKind)(n:Int):iG 0 (cI k n):=⟨trivial,trivial⟩
theorem uh{α:Type}{l:List α}{i:Int}{x:α}(h:gk l i=some x):0<=i/\l[i.toNat]? =some x:=by
 unfold gk at h
 split at h
 ·exact⟨‹_›,h⟩
 ·cases h
theorem aI{a b:Prop}(h:a)(h':b):a/\b:=⟨h,h'⟩
theorem rP(p:PVal):p=p:=rfl
theorem lf{β:Type}{a r:β}(h:some a=some r):a=r:=va2 h
abbrev u:PVal:=.undef
theorem EQ(x:af):bw (.str x)=some (cS x):=rfl
theorem EP(k:IntKind)(x:Int):bw (.int k x)=some (cI k x):=rfl
theorem EN(x:af):∀q∈cS x,q.one=true:=by intro q hq;simp[cS]at hq;subst hq;rfl
theorem D1(k:IntKind)(x:Int):∀q∈cI k x,q.one=true:=by intro q hq;simp[cI]at hq;subst hq;rfl
def pC:Code->List Bool->Code
 |c,[]=>c
 |.seq a b,x::l=>match x with|false=>pC a l|true=>pC b l
 |.cond _ a b,x::l=>match x with|false=>pC a l|true=>pC b l
 |.block _ c,_::l=>pC c l
 |.loop c,_::l=>pC c l
 |c,_=>c
section
variable{P:Program}{T e:TypeId}{α:Type}{c:α->List PVal}
theorem uW.ia(s:uW P T e c){l:List α}{i:Int}{k:IntKind}{x:α}(h:gk l i=some x):ch P T (sl c l) (.int k i)=some (.eptr (c x)):=by
 obtain⟨h0,h1⟩:=uh h
 unfold sl ch
 simp only[s.hu,vas h0,vaw,h1,vag]
 rw[vas ⟨s.hc x,s.hi⟩]
theorem uW.ln(s:uW P T e c)(l:List α):∀H,pN P T (sl c l) H=some (.int .i64 (l.length:Int)):=fun H=>by
 unfold sl pN;simp only[s.hu,vbw]
theorem tb{o:Option Int}{d n:Nat}{k:IntKind}(h:bd o d=some n):s4 (o.map (PVal.int k)) d=some n:=by
 cases o with
 |none=>exact h
 |some i=>exact h
theorem uW.sc(s:uW P T e c){l r:List α}{lo hi:Option Int}(h:yt l lo hi=some r):od P T (sl c l) (lo.map (PVal.int .i64)) (hi.map (PVal.int .i64)) none=some (sl c r):=by
 unfold yt at h
 split at h
 ·rename_i a b h1 h2
  split at h
  ·rename_i hb
   cases h
   unfold sl od
   simp only[s.hu,tb h1]
   rw[show(l.map c).length=l.length by simp,tb h2]
   simp only
   have hx:∀x∈(l.map c).take 1,x.length=P.cellsOf e:=fun x hx=>by
    obtain⟨y,_,rfl⟩:=vap.1 (List.mem_of_mem_take hx)
    exact s.hc y
   rw[vas ⟨hb.1,hb.2,s.hi,hx⟩,List.map_drop,List.map_take]
  ·cases h
 ·cases h
theorem uW.ap(s:uW P T e c){l r z:List α}(h:app l r=some z):fG P T (l.map c) (r.map c)=some (sl c z):=by
 unfold app at h
 split at h
 ·cases h
  unfold fG sl
  simp only[s.hu,vbw]
  have h1:∀x∈l.map c,x.length=P.cellsOf e:=fun x hx=>by obtain⟨y,_,rfl⟩:=vap.1 hx;exact s.hc y
  have h2:∀x∈r.map c,x.length=P.cellsOf e/\∀q∈x,q.one=true:=fun x hx=>by obtain⟨y,_,rfl⟩:=vap.1 hx;exact⟨s.hc y,s.ho y⟩
  rw[vas ⟨‹_›,s.hb,s.hp,s.hz,h1,h2⟩,List.map_append]
 ·cases h
theorem wk{v:α->PVal}{sz:Nat}(hv:∀x,bw (v x)=some (c x))(hc:∀x,(c x).length=sz):∀(l:List α) (i:Nat),n7 sz i ((l.map v).zipIdx i|>.map fun x=>(x.2,x.1))=some (l.map c)
 |[],i=>by simp[n7]
 |x::l,i=>by
  have ih:=wk hv hc l (i+1)
  simp only[vaU,List.zipIdx_cons,n7,hv x]
  simp[ih,hc x]
theorem uW.mk'(s:uW P T e c){v:α->PVal}(hv:∀x,bw (v x)=some (c x))(l:List α)(n:Nat)(hn:(decide (l.length=n)&&decide (n * P.cellsOf e<=16777216))=true):cp P T n ((l.map v).zipIdx 0|>.map fun x=>(x.2,x.1))=some (sl c l):=by
 simp only[vac,vah]at hn
 unfold cp sl
 simp only[s.hu,wk hv s.hc]
 have hz:(eS P e).isSome=true:=by
  cases h:eS P e with
  |none=>have:=s.hz;rw[h]at this;cases this
  |some z=>rfl
 rw[vas ⟨by simpa using hn.1,hz,s.hp,hn.2,s.hz⟩]
theorem dD{t:TypeId}(h:P.underlying t=some .string){s:af}{i:Int}{k:IntKind}{x:Int}(hx:fL s i=some x):mN P t (.str s) (.int k i)=some (.int .u8 x):=by
 unfold fL at hx
 cases hi:gk s i with
 |none=>rw[hi]at hx;cases hx
 |some b=>
  rw[hi]at hx;cases hx
  obtain⟨h0,h1⟩:=uh hi
  unfold mN
  simp only[h,vas h0,h1,vag]
theorem DB{β:Type}{t e:TypeId}{n:Nat}{v:β->PVal}{l:List β}(h:P.underlying t=some (.array n e))(h1:P.cellsOf e=1)(h2:(P.info? e).isSome=true)(h3:(P.underlying e).any om=true)(h4:decide (l.length=n)=true)
  {k:IntKind} {i:Int} {x:β} (hx:gk l i=some x):mN P t (.agg (l.map v)) (.int k i)=some (v x):=by
 obtain⟨h0,hx⟩:=uh hx
 have hlt:i.toNat<l.length:=(vb5.1 hx).1
 have hl:l.length=n:=by simpa using h4
 unfold mN
 simp only[h]
 rw[vas ⟨h0,by omega,h2⟩,h1,Nat.mul_one,va3 (by simpa using hlt)]
 rw[mO h3]
 simp only[List.getElem_map]
 rw[vaa hlt]at hx
 cases hx;rfl
theorem dg{t:TypeId}(h:P.underlying t=some .string)(s:af):∀H,pN P t (.str s) H=some (.int .i64 (s.length:Int)):=fun H=>by unfold pN;simp only[h]
theorem zO{t:TypeId}(ht:P.underlying t=some .string){l r:af}{lo hi:Option Int}(h:yt l lo hi=some r):od P t (.str l) (lo.map (PVal.int .i64)) (hi.map (PVal.int .i64)) none=some (.str r):=by
 unfold yt at h
 split at h
 ·rename_i a b h1 h2
  split at h
  ·rename_i hb
   cases h
   unfold od
   simp only[ht,tb h1,tb h2]
   rw[vas hb]
  ·cases h
 ·cases h
theorem eP{t:TypeId}{a b z:af}(h:vo a b=some z):sZ P .add t (.str a) (.str b)=some (.str z):=by
 unfold vo at h
 unfold sZ Ch
 split at h
 ·cases h;simp only;rw[vas ‹_›]
 ·cases h
theorem DJ{t:TypeId}{k:IntKind}{a b z:Int}(h:qu k a b=some z):sZ P .quo t (.int k a) (.int k b)=some (.int k z):=by
 unfold qu at h
 split at h
 ·cases h
 ·rename_i hb;cases h;simp only[sZ,Bt,if_true,vav hb]
theorem DK{t:TypeId}{k:IntKind}{a b z:Int}(h:re a b=some z):sZ P .rem t (.int k a) (.int k b)=some (.int k z):=by
 unfold re at h
 split at h
 ·cases h
 ·rename_i hb;cases h;simp only[sZ,Bt,if_true,vav hb]
theorem FH{s d:TypeId}{k k':IntKind}(h1:P.underlying s=some (.int k))(h2:P.underlying d=some (.int k'))(n:Int):rV P s d (.int k n)=some (.int k' (k'.wrap n)):=by simp only[rV,h1,h2]
def kf:List Int->Option af
 |[]=>some []
 |n::r=>if 0<=n/\n<256 then(kf r).map (UInt8.ofNat n.toNat::·)else none
theorem uw:∀(l:List Int),mL (l.map (cI .u8))=kf l
 |[]=>rfl
 |n::r=>by simp only[vaU,cI,mL,kf];rw[<-uw r]
theorem FF{s d e:TypeId}(h1:P.underlying s=some (.slice e))(h2:P.underlying d=some .string)(h3:P.underlying e=some (.int .u8)){l:List Int}{r:af}(h:kf l=some r):rV P s d (sl (cI .u8) l)=some (.str r):=by
 unfold sl rV
 simp only[h1,h2,h3,uw,h,vag]
theorem pM{f:α->PVal}(k:af):∀(m:List (af×α)) (i:Nat),n8 (.str k) (cw f m) i=some (match vH m k with
  |none=>none
  |some v=>some (i+(m.findIdx fun e=>k==e.1),f v))
 |[],i=>by simp[cw,n8,vH]
 | e :: m,i => by
  have ih:=pM (f:=f) k m (i+1)
  unfold cw at ih ⊢
  simp only[vaU,n8,w7]
  unfold vH at ih ⊢
  by_cases h:(k==e.1)=true
  ·simp[h,vbI]
  ·have h':(k==e.1)=false:=by simpa using h
   simp only[h',List.find?_cons,ih,vbI]
   cases hm:(List.find? (fun e=>k==e.1) m)with
   |none=>simp
   |some v=>simp;omega
theorem CY{t kt et:TypeId}{f:α->PVal}(h1:P.underlying t=some (.map kt et))(h2:P.underlying kt=some .string){z:α}(hz:rA P et=some (f z))(m:List (af×α))(k:af):uD P t (cw f m) (.str k) false=some (f ((vH m k).getD z)):=by
 unfold uD
 simp only[h1,h2,gm,if_true,pM]
 cases vH m k with
 |none=>simp[hz]
 |some v=>simp
theorem zF(f:α->PVal)(k:af)(v:α):∀(m:List (af×α)),cw f (wW m k v)=match vH m k with
  |none=>cw f m++[(.str k,f v)]
  |some _=>(cw f m).set (m.findIdx fun e=>k==e.1) (.str k,f v)
 |[]=>by simp[wW,vH,cw]
 | e :: m => by
  have ih:=zF f k v m
  unfold vH at ih ⊢
  unfold cw at ih ⊢
  by_cases h:(k==e.1)=true
  ·simp[wW,h,vbI]
  ·have h':(k==e.1)=false:=by simpa using h
   simp only[wW,h',List.find?_cons,vbI,vaU]
   simp only[vay,if_false,vaU,ih]
   cases(List.find? (fun e=>k==e.1) m)with
   |none=>simp
   |some v=>simp
theorem CZ{t kt et:TypeId}{f:α->PVal}(h1:P.underlying t=some (.map kt et))(h2:P.underlying kt=some .string)(m:List (af×α))(k:af)(v:α):wl P t (cw f m) (.str k) (f v)=some (cw f (wW m k v)):=by
 unfold wl
 simp only[h1,h2,gm,if_true,pM,zF]
 cases vH m k with
 |none=>simp
 |some w=>simp
end
structure CH(w w':World):Prop where
 os:w'.os=w.os
 tape:w'.tape=w.tape
 output:w'.output=w.output
 size:w.heap.size<=w'.heap.size
 drawn:w.drawn<=w'.drawn
 keep:∀b,b<w.heap.size->w'.heap[b]? =w.heap[b]?
theorem CH.of_grow(w:World)(k:Nat)(os:Array Obj):CH w (Sort.grow (w.drewN k) os):={
 os:=rfl
 tape:=rfl
 output:=rfl
 size:=by show w.heap.size<=(w.heap++os).size;simp
 drawn:=vbO _ _
 keep:=fun b hb=>by show(w.heap++os)[b]? =_;rw[vaH hb]}
section
variable{P:Program}{GE:List (Nat×List PVal)}
theorem C6{E:kF}{Γ:ax}{bs:aB}{ow:Nat->Option gY}{w:World}{a:Array Value}{st:aj}(h:SR P E Γ bs ow w a st){g:Nat}{k:IntKind}{zs:List Int}{name:String}
  (hg:(g,zs.map (PVal.int k))∈E.GE) (hn:P.globalNamed name=some g):Lib.TabIs P w name k zs:=by
 obtain⟨_,_,_,c,t,fr,h1,h2⟩:=h.gnow hg
 have hv:=h.gl g _ hg
 unfold Lib.TabIs World.var?
 rw[hn]
 simp only[vab,h1]
 congr 1
 refine vcy fun i=>?_
 generalize hcs:zs.map (PVal.int k)=cs at hv
 cases hv with
 |eptrE _ _=>
  have hz:zs=[]:=by simpa using hcs
  subst hz
  have h3:c.size=0:=h2
  rw[vbb (by omega),vbb (by simp)]
 | eptr _ _ _ n vals hg' hn' hc hvv =>
  subst hcs
  by_cases hi:i<zs.length
  ·have h3:=hc i _ (by simp[hi]:(zs.map (PVal.int k))[i]? =some (.int k zs[i]))
   have h4:=hvv i _ (by simp[hi]:(zs.map (PVal.int k))[i]? =some (.int k zs[i]))
   rw[vaB]at h3
   have h5:w.cell? ⟨g,i,none⟩=c[i]?:=cell_of_row w g i c t fr h1
   rw[h5]at h3
   rw[h3]
   generalize vals i=vi at h4
   cases h4
   simp[hi]
  ·rw[vbw]at h2
   rw[vbb (by omega),vbb (by simp;omega)]
theorem CC.grownIS{f:FuncId}{n:Int}{s:af}{k:IntKind}(hcall:∀vs w,(callFunc f vs).run P w=.ok (.enter f vs) w)
  (h:∀E Γ bs ow w a st,E.GE=GE->SR P E Γ bs ow w a st->Calls P f #[.int k n] w fun e w'=>e=.returned (.string ⟨s.toArray⟩)/\CH w w'):CC P GE f [.int k n] (.str s) []:=by
 refine⟨⟨trivial,trivial⟩,hcall,fun Γ bs ow w vs hS=>?_⟩
 have hvs:vs=#[.int k n]:=by
  have h1:=hS.sz
  simp at h1
  have h2:vs[0]? =some vs[0]:=by simp[h1]
  have h3:=hS.tm 0 _ _ rfl h2
  refine Array.ext (by simp[h1]) fun i hi hi2=>?_
  have:i=0:=by simp at hi2;omega
  subst this
  generalize vs[0]=v at h3
  cases h3
  rfl
 subst hvs
 refine(h _ Γ bs ow w _ _ rfl hS).mono fun e w' he=>?_
 obtain⟨rfl,hg⟩:=he
 have hbl:bs.length=0:=hS.bl
 obtain rfl:bs=[]:=van hbl
 have hW:=hS.world (Γ':=Γ) (w':=w') (fun _=>False) (fun b m hb _=>⟨m,hb,vam _,fun o _=>aC (hg.keep b (hS.lt_of_ghost hb)) o⟩)
  (fun b m hb=>by
   obtain⟨c,t,fr,h1,h2⟩:=hS.wi b m hb
   exact⟨c,t,fr,(hg.keep b (hS.lt_of_ghost hb)).trans h1,h2⟩) hg.os hg.tape hg.output hg.size (fun b hb _=>⟨hg.keep b hb,rfl⟩) (fun _ hx=>hx.elim) (fun _ _ _ hx=>hx) (fun _ _ _ hx=>hx) hg.drawn
 refine⟨_,Γ,ow,rfl,{hW with
  sz:=rfl
  tm:=fun t p v hp hv=>by
   cases t with
   |zero=>simp at hp hv;subst hp;subst hv;exact .str s
   |succ t=>simp at hp
  ot:=fun t k e he=>by simp at he}⟩
end
open Go Go.RowKit Go.WideShapes Go.ChangeShapes Go.ChangeAt
def nM(W:World):ax:=fun b=>match W.heap[b]? with
 |some (.cells c _ _)=>some c.size
 |_=>none
theorem vS{W:World}{b:Nat}{c:Array Value}{t:TypeId}{fr:Nat×Nat}(h:W.heap[b]? =some (.cells c t fr)):nM W b=some c.size:=by unfold nM;rw[h]
def Dw(W:World)(x:Nat×List PVal):Prop:=iG 0 x.2/\∃c t fr,W.heap[x.1]? =some (.cells c t fr)/\c.size=x.2.length/\∀(i:Nat) p v,x.2[i]? =some p->c[i]? =some v->VR (nM W) [] W p v
section
variable{P:Program}{GE:List (Nat×List PVal)}
theorem yu{k:FuncId}{pargs:List PVal}{args:Array Value}{W:World}{b:Bool}(hC:C P GE k pargs [] [] (.bool b) [] [])(hl:args.size=pargs.length)
  (hv:∀(i:Nat) p v,pargs[i]? =some p->args[i]? =some v->VR (nM W) [] W p v) (hG:∀x∈GE,Dw W x):Calls P k args W fun e W'=>e=.returned (.bool b)/\Below W.heap.size W W':=by
 have hS:SR P ⟨GE,nM W,W,bg [] fun _=>none⟩ (nM W) [] (fun _=>none) W args ⟨pargs,[],[]⟩:={
  wi:=fun b n hb=>by
   unfold nM at hb
   split at hb
   ·rename_i c t fr hh;cases hb;exact⟨c,t,fr,hh,vam _⟩
   ·cases hb
  sz:=hl
  tm:=hv
  bl:=rfl
  bx:=fun i b B hi=>by simp at hi
  inj:=fun i j b hi=>by simp at hi
  bn:=fun i b hi=>by simp at hi
  on:=fun b L hL=>by cases hL
  ot:=fun t k e he=>by simp at he
  ob:=fun i j e cs own b hB=>by simp at hB
  gl:=fun g cs hg=>by
   obtain⟨_,c,t,fr,h1,h2,h3⟩:=hG _ hg
   refine .eptr cs g 0 c.size (fun k=>c.getD k undef) (vS h1) (by simp only at h2;omega) (fun k p hp=>?_) (fun k p hp=>?_)
   ·have hk:k<c.size:=by have:=aa hp;simp only at h2;omega
    rw[vaB,cell_of_row W g k c t fr h1]
    simp[vat,hk]
   ·have hk:k<c.size:=by have:=aa hp;simp only at h2;omega
    exact h3 k p _ hp (by simp[vat,hk])
  gc:=fun g cs hg=>(hG _ hg).1
  gx:=fun g cs hg=>by
   obtain⟨_,c,t,fr,h1,h2,_⟩:=hG _ hg
   refine⟨(vai.1 h1).1,fun hT=>?_,c,t,fr,h1,h2⟩
   rcases hT with⟨i,hi⟩|hT
   ·simp at hi
   ·exact hT rfl
  step:=.refl _ _ _ _}
 refine(hC.2 (nM W) [] (fun _=>none) W args hS).mono fun e W' he=>?_
 obtain⟨v,Γ',ow',rfl,hS'⟩:=he
 have hv':=hS'.tm 0 (.bool b) v rfl rfl
 cases hv'
 refine⟨rfl,hS'.step.os,hS'.step.tape,hS'.step.output,hS'.step.size,fun k hk=>(hS'.step.keep k hk fun hT=>?_).1⟩
 rcases hT with⟨i,hi⟩|hT
 ·simp at hi
 ·exact hT rfl
end
section
variable{H:Type}{enc:TypeId×Value->H}{P:Program}{w:World}{base:Nat}{spare:Nat->Bool}{held:Bool}{t:TypeId}{fuel:Nat}
theorem vO{f:Func}{s:ChangeSpec}{apart fresh handsOn again:Bool}{W W':World}{args:Array Value}{v:Value}{ds gs:List (DataW H)}{before pa pv:List MemPlace}
    (hW:DataW.Whole enc P f.params.toList s.vars apart W args.toList ds gs before)
    (hres:∀(b:Nat) (sp:Nat->Bool) (hd:Bool),DataW.TrodAll enc P W' b sp hd f.resultTypes.toList (v.resultList f.resultTypes.size) (s.fn H (ds++gs)).results [])
    (hargs:∀sp:Nat->Bool,(∀p∈before,sp p.block=true)->DataW.TrodAll enc P W' 0 sp true f.params.toList args.toList (s.fn H (ds++gs)).args pa)
    (hvars:∀sp:Nat->Bool,(∀p∈before,sp p.block=true)->DataW.TrodVars enc P W' sp s.vars (s.fn H (ds++gs)).vars pv)
    (hps:before=pa++pv) (hb:Below W.heap.size W W')
    (hok:∀(j:Nat) (t:TypeId) (r:Value),f.resultTypes[j]? =some t->(v.resultList f.resultTypes.size)[j]? =some r->Value.okWide P W' .any 0 t r):
    s.post enc P f apart fresh handsOn again W args v W':=by
  have hlt:∀p∈before,p.block<W.heap.size:=fun p hp=>hW.lt p hp
  have hold:∀p∈before,(fun b=>decide (b<W.heap.size)) p.block=true:=fun p hp=>by simpa using hlt p hp
  refine⟨ds,gs,before,[],pa,pv,hW,hres _ _ _,hargs _ hold,hvars _ hold,World.keptBut_mono (fun p hp=>⟨hp,?_⟩) (hb.frame (·∈before)),fun _=>?_⟩
  · rw [hps,vaP] at hp
    exact Or.inr hp
  · obtain ⟨_,_,_,_,_,hz,hn⟩:=hW
    refine⟨hok,_,_,([]++pa)++pv,⟨[]++pa,pv,trodAll_append (hargs _ (fun _ _=>rfl)) (hres _ _ _),hvars _ (fun _ _=>rfl),rfl,?_,?_⟩,?_⟩
    · intro b off hp
      have hin:MemPlace.cell b off∈before:=by rw[hps];simpa using hp
      rw[hb.frozen (hlt _ hin)]
      exact hz b off hin
    · intro ha
      have:=hn ha
      rw[hps]at this
      simpa using this
    · intro p hp _
      rw[hps]
      simpa using hp
theorem vT(hl:laidOutB P=true){W W':World}(hb:Below W.heap.size W W'){sp:Nat->Bool}:∀{ts:List TypeId} {vs:List Value} {ds:List (DataW H)} {ps:List MemPlace},(∀t∈ts,P.readableRec t=true/\t<P.types.size)->
  DataW.TrodAll enc P W 0 (fun _=>true) true ts vs ds ps->(∀p∈ps,p.block<W.heap.size)->(∀p∈ps,sp p.block=true)->DataW.TrodAll enc P W' 0 sp true ts vs ds ps
 |[],[],[],_,_,h,_,_=>h
 | t :: _,_ :: _,_ :: _,_,ht,⟨p,q,h1,h2,e⟩,hlt,hs =>
  ⟨p,q,WideElems.Trod_stays hl (ht t (by simp)).1 (ht t (by simp)).2 h1 (fun x hx=>hb.same (hlt x (by rw[e];exact vaW _ hx))) (fun x hx=>hs x (by rw[e];exact vaW _ hx)),
   vT hl hb (fun t ht'=>ht t (by simp[ht'])) h2 (fun x hx=>hlt x (by rw[e];exact va0 _ hx)) (fun x hx=>hs x (by rw[e];exact va0 _ hx)),e⟩
theorem Bg{f:Func}{s:ChangeSpec}{W W':World}{args:Array Value}{ds gs:List (DataW H)}{before:List MemPlace}(hl:laidOutB P=true)(hr:f.resultTypes=#[t])(hbt:P.underlying t=some .bool)(hsv:s.vars=[])
  (hfn:(s.fn H (ds++gs)).results=[.lit (.bool true)]/\(s.fn H (ds++gs)).args=ds/\(s.fn H (ds++gs)).vars=[]) (hts:∀t∈f.params.toList,P.readableRec t=true/\t<P.types.size)
  (hW:DataW.Whole enc P f.params.toList s.vars false W args.toList ds gs before) (hb:Below W.heap.size W W'):s.post enc P f false true false false W args (.bool true) W':=by
 have hW':=hW
 obtain⟨p,q,hA,hV,rfl,_,_⟩:=hW
 rw[hsv]at hV
 obtain⟨rfl,rfl⟩:=trodVars_none hV
 have hlt:∀x∈p,x.block<W.heap.size:=fun x hx=>hW'.lt x (by simpa using hx)
 refine vO (pa:=p) (pv:=[]) hW' (fun b sp hd=>?_) (fun sp hs=>?_) (fun sp _=>?_) rfl hb (fun j t' r hj hv=>?_)
 ·rw[hr,hfn.1]
  exact trodAll_cons_mk (shut_bool hbt _) trodAll_mk0
 ·rw[hfn.2.1]
  exact vT hl hb hts hA hlt (fun x hx=>hs x (by simpa using hx))
 ·rw[hsv,hfn.2.2];rfl
 ·exact ok_one hr rfl (okWide_bool_mk hbt _) j t' r hj hv
theorem xy(a:Addr)(i:Nat)(h:a.spot=none):a.add i=⟨a.block,a.off+i,none⟩:=by
 obtain⟨b,o,sp⟩:=a
 simp only at h
 subst h
 unfold Addr.add
 split
 ·rename_i hi;subst hi;rfl
 ·rfl
end
section
variable{P:Program}{W:World}
theorem uj:∀{laid:List (String×DataW Unit)} {ps:List MemPlace} {name:String} {d:DataW Unit},DataW.LaidVars P W laid ps->(name,d)∈laid->
  ∃g t cs fuel p,P.globalNamed name=some g/\(P.globals[g]?).map (·.type)=some t/\W.var? P name=some cs/\DataW.trod (fun _=>()) P W 0 (fun _=>true) false fuel t cs.toList=some (d,p)
 |[],_,_,_,_,hm=>by cases hm
 |(n,d')::r,ps,name,d,⟨g,t,cs,fuel,p,q,h1,h2,h3,h4,h5,_⟩,hm=>by
  cases hm with
  |head=>exact⟨g,t,cs,fuel,p,h1,h2,h3,h4⟩
  |tail _ hm=>exact uj h5 hm
theorem yw{name:String}{g:Nat}{cs:Array Value}(hg:P.globalNamed name=some g)(h:W.var? P name=some cs):∃t fr,W.heap[g]? =some (.cells cs t fr):=by
 unfold World.var? at h
 rw[hg]at h
 simp only[vab]at h
 split at h
 ·rename_i c t fr hh
  cases h
  exact⟨t,fr,hh⟩
 ·cases h
def xl{H:Type}(l:List af):DataW H:=.agg (l.map fun s=>.lit (.string s))
theorem vp{H:Type}{enc:TypeId×Value->H}{base:Nat}{sp:Nat->Bool}{held:Bool}{fuel:Nat}{t e:TypeId}{n:Nat}{cs:List Value}{zs:List af}{p:List MemPlace}
  (ht:P.underlying t=some (.array n e)) (he:P.underlying e=some .string) (hce:P.cellsOf e=1) (hct:P.cellsOf t=n)
  (h:DataW.trod enc P W base sp held fuel t cs=some (xl zs,p)):cs=zs.map fun z=>Value.string ⟨z.toArray⟩:=by
 cases fuel with
 |zero=>simp[DataW.trod]at h
 | succ fuel =>
  simp only[DataW.trod,ht,hce,hct,Nat.mul_one]at h
  split at h
  ·rename_i hl
   obtain⟨xs,hm,hx⟩:=vaC.1 h
   have hxs:xs.map (·.1)=zs.map fun z=>(DataW.lit (.string z):DataW H):=by
    have:=vbh Prod.fst hx
    simpa[xl]using this
   have hxl:xs.length=n:=by simpa using Lib.mapM_length hm
   have hzl:zs.length=n:=by
    have:=vbh List.length hxs
    simp at this
    omega
   apply va7
   intro i
   by_cases hi:i<n
   ·obtain⟨b,hb,hf⟩:=Lib.mapM_at hm i i (by simp[hi])
    obtain⟨z,hc,rfl,_⟩:=DataW.trod_string he hf
    have h1:cs[i]? =some (.string z):=by
     have:=vbh (·[0]?) hc
     simpa[List.getElem?_take,vaR]using this
    have h2:(xs.map (·.1))[i]? =some (DataW.lit (.string z.data.toList):DataW H):=by simp[hb]
    rw[hxs]at h2
    simp only[vaw,vaC,DataW.lit.injEq,Lit.string.injEq]at h2
    obtain⟨z',hz',h3⟩:=h2
    simp only[h1,vaw,hz',vag,h3]
   ·rw[vaz (by omega),vaz (by simp;omega)]
  ·cases h
theorem A4{x:Nat}{pv:List PVal}{cs:Array Value}{t:TypeId}{fr:Nat×Nat}(hh:W.heap[x]? =some (.cells cs t fr))(hcl:iG 0 pv)(hs:cs.size=pv.length)(hv:∀(i:Nat) p v,pv[i]? =some p->cs[i]? =some v->VR (nM W) [] W p v):Dw W (x,pv):=
 ⟨hcl,cs,t,fr,hh,hs,hv⟩
theorem ue{laid:List (String×DataW Unit)}{name:String}{d:DataW Unit}{g:Nat}{t e:TypeId}{n:Nat}{k:IntKind}{zs:List Int}(hL:laidMet P laid W)(hm:(name,d)∈laid)(hd:d=Lib.tabData k zs)
  (hg:P.globalNamed name=some g) (hty:(P.globals[g]?).map (·.type)=some t) (ht:P.underlying t=some (.array n e)) (he:P.underlying e=some (.int k)) (hce:P.cellsOf e=1) (hct:P.cellsOf t=n):Dw W (g,zs.map (PVal.int k)):=by
 obtain⟨ps,hV,_⟩:=hL
 obtain⟨g',t',cs,fuel,p,h1,h2,h3,h4⟩:=uj hV hm
 obtain rfl:=va2 (hg.symm.trans h1)
 obtain rfl:=va2 (hty.symm.trans h2)
 subst hd
 have hc:=Lib.cells_of_tab ht he hce hct h4
 obtain⟨ty,fr,hh⟩:=yw hg h3
 refine A4 hh (wH fun q hq=>?_) (by simpa using vbh List.length hc) (fun i q v hq hv=>?_)
 ·obtain⟨z,_,rfl⟩:=vap.1 hq
  simp[PVal.cl]
 ·rw[<-vaT,hc]at hv
  simp only[vaw,vaC]at hq hv
  obtain⟨z,hz,rfl⟩:=hq
  obtain⟨z',hz',rfl⟩:=hv
  cases hz.symm.trans hz'
  exact .int _ _
theorem A5{laid:List (String×DataW Unit)}{name:String}{d:DataW Unit}{g:Nat}{t e:TypeId}{n:Nat}{zs:List af}(hL:laidMet P laid W)(hm:(name,d)∈laid)(hd:d=xl zs)
  (hg:P.globalNamed name=some g) (hty:(P.globals[g]?).map (·.type)=some t) (ht:P.underlying t=some (.array n e)) (he:P.underlying e=some .string) (hce:P.cellsOf e=1) (hct:P.cellsOf t=n):Dw W (g,zs.map PVal.str):=by
 obtain⟨ps,hV,_⟩:=hL
 obtain⟨g',t',cs,fuel,p,h1,h2,h3,h4⟩:=uj hV hm
 obtain rfl:=va2 (hg.symm.trans h1)
 obtain rfl:=va2 (hty.symm.trans h2)
 subst hd
 have hc:=vp ht he hce hct h4
 obtain⟨ty,fr,hh⟩:=yw hg h3
 refine A4 hh (wH fun q hq=>?_) (by simpa using vbh List.length hc) (fun i q v hq hv=>?_)
 ·obtain⟨z,_,rfl⟩:=vap.1 hq
  simp[PVal.cl]
 ·rw[<-vaT,hc]at hv
  simp only[vaw,vaC]at hq hv
  obtain⟨z,hz,rfl⟩:=hq
  obtain⟨z',hz',rfl⟩:=hv
  cases hz.symm.trans hz'
  exact .str _
end
def DX(w:World)(l:List (Nat×Array Value)):World:={w with heap:=l.foldl (fun h x=>h.modify x.1 fun|.cells _ t fr=>.cells x.2 t fr|o=>o) w.heap}
def FL:PVal->Value
 |.int k n=>.int k n
 |.str s=>.string ⟨s.toArray⟩
 |.bool b=>.bool b
 |_=>undef
def C7(l:List (Nat×List PVal)):List (Nat×Array Value):=l.map fun x=>(x.1,(x.2.map FL).toArray)
mutual
def pm:PVal->Nat
 |.str s=>s.length+1
 |.slice es=>y1 es+1
 |.int _ _=>1
 |.bool _=>1
 |_=>0
def w8:List PVal->Nat
 |[]=>0
 |p::l=>pm p+w8 l
def y1:List (List PVal)->Nat
 |[]=>0
 |x::r=>w8 x+y1 r
end
theorem uE:∀(a b:List PVal),w8 (a++b)=w8 a+w8 b
 |[],b=>by simp[w8]
 |p::a,b=>by simp only[vbT,w8,uE a b];omega
def Dg(P:Program)(S:TypeId->List PVal->Prop):List Field->List PVal->Prop
 |[],l=>l=[]
 |f::fs,l=>∃a b,l=a++b/\a.length=P.cellsOf f.type/\S f.type a/\Dg P S fs b
def Sh(P:Program):Nat->TypeId->List PVal->Prop
 |0,_,_=>False
 |n+1,t,l=>match P.underlying t with
  |some .bool=>∃b,l=[.bool b]
  |some (.int k)=>∃i,l=[.int k i]/\(Lit.int k i).wf=true
  |some .string=>∃s:af,l=[.str s]/\s.length<=maxLen
  |some (.slice e)=>∃es,l=[.slice es]/\es.length<=maxLen/\∀x∈es,Sh P n e x
  |some (.struct fs)=>Dg P (Sh P n) fs.toList l
  |_=>True
def oK(P:Program):Nat->List Field->Nat->Bool
 |o,[],n=>decide (o=n)
 |o,f::fs,n=>decide (f.offset=o)&&oK P (o+P.cellsOf f.type) fs n
theorem zD{α:Type}{Q:Nat->α->Prop}:∀{n:Nat},(∀i,i<n->∃x,Q i x)->∃l:List α,l.length=n/\∀(i:Nat) x,l[i]? =some x->Q i x
 |0,_=>⟨[],rfl,fun i x h=>by simp at h⟩
 | n + 1,h => by
  obtain⟨l,hl,hq⟩:=zD (n:=n) fun i hi=>h i (by omega)
  obtain⟨x,hx⟩:=h n (by omega)
  refine⟨l++[x],by simp[hl],fun i y hy=>?_⟩
  by_cases hi:i<l.length
  ·rw[vad hi]at hy;exact hq i y hy
  ·have hlt:=aa hy
   simp at hlt
   have:i=l.length:=by omega
   subst this
   rw[vaf (vam _)]at hy
   simp at hy;subst hy;rw[hl];exact hx
theorem zn{H:Type}:∀{es:List (List PVal)} {ds:List (DataW H)},es.length=ds.length->(∀(i:Nat) x d,es[i]? =some x->ds[i]? =some d->w8 x<=Rows.uptoBulk d)->y1 es<=Rows.uptoBulkAll ds
 |[],[],_,_=>by simp[y1,Rows.uptoBulkAll]
 |x::es,d::ds,hl,h=>by
  have h1:=h 0 x d rfl rfl
  have h2:=zn (es:=es) (ds:=ds) (by simpa using hl) fun i x d hx hd=>h (i+1) x d (by simpa using hx) (by simpa using hd)
  simp only[y1,Rows.uptoBulkAll];omega
section
variable{H:Type}{enc:TypeId×Value->H}{P:Program}{W:World}{base:Nat}{sp:Nat->Bool}{held:Bool}
def Dx(P:Program)(W:World)(n:Nat)(t:TypeId)(cs:List Value)(b:Nat):Prop:=
 ∃l:List PVal,l.length=cs.length/\(∀(i:Nat) p v,l[i]? =some p->cs[i]? =some v->VR (nM W) [] W p v)/\Sh P n t l/\w8 l<=b
theorem Dx.one{n:Nat}{t:TypeId}{p:PVal}{v:Value}{b:Nat}(h:VR (nM W) [] W p v)(hs:Sh P n t [p])(hb:pm p<=b):Dx P W n t [v] b:=
 ⟨[p],rfl,fun i q u hq hu=>by
  cases i with
  |zero=>simp at hq hu;subst hq;subst hu;exact h
  |succ i=>simp at hq,hs,by simp only[w8];omega⟩
theorem v6{L:List TypeId}{fuel:Nat}(ih:∀(t:TypeId),t∈L->∀(cs:List Value) (d:DataW H) (p:List MemPlace),DataW.trod enc P W base sp held fuel t cs=some (d,p)->Dx P W fuel t cs (Rows.uptoBulk d)){cs:List Value}:∀{fs:List Field} {o n:Nat} {xs:List (DataW H×List MemPlace)},(∀f∈fs,f.type∈L)->n<=cs.length->oK P o fs n=true->fs.mapM (fun f=>DataW.trod enc P W base sp held fuel f.type ((cs.drop f.offset).take (P.cellsOf f.type)))=some xs->
   o<=n/\∃l:List PVal,l.length=n - o/\(∀(i:Nat) p v,l[i]? =some p->cs[o+i]? =some v->VR (nM W) [] W p v)/\Dg P (Sh P fuel) fs l/\w8 l<=Rows.uptoBulkAll (xs.map (·.1))
 |[],o,n,xs,_,hn,hc,h=>by
  unfold oK at hc
  have:o=n:=by simpa using hc
  subst this
  exact⟨vam _,[],by simp,fun i p v hp=>by simp at hp,rfl,by simp[w8]⟩
 | f :: fs,o,n,xs,hL,hn,hc,h => by
  unfold oK at hc
  simp only[vac,vah]at hc
  obtain⟨hfo,hc⟩:=hc
  simp only[vbK,Option.bind_eq_bind,va8,Option.pure_def,vaq]at h
  obtain⟨⟨d,p⟩,hd,xs',hxs,rfl⟩:=h
  obtain⟨ho,l2,k1,k2,k3,k4⟩:=v6 ih (fun g hg=>hL g (vaL _ hg)) hn hc hxs
  obtain⟨l1,q1,q2,q3,q4⟩:=ih _ (hL f (by simp)) _ _ _ hd
  have hl1:l1.length=P.cellsOf f.type:=by rw[q1,va4,vby,hfo];omega
  refine⟨by omega,l1++l2,by simp[hl1,k1];omega,fun i q v hq hv=>?_,⟨l1,l2,rfl,hl1,q3,k3⟩,by rw[uE];simp only[vaU,Rows.uptoBulkAll];omega⟩
  by_cases hi:i<l1.length
  ·rw[vad hi]at hq
   refine q2 i q v hq ?_
   rw[vau (by omega),vaR,hfo]
   exact hv
  ·rw[vaf (by omega)]at hq
   refine k2 (i - l1.length) q v hq ?_
   rw[<-hv,hl1]
   congr 1
   rw[hl1]at hi
   omega
theorem Cn{fuel:Nat}{t:TypeId}{cs:List Value}{x:DataW H×List MemPlace}(ht:P.underlying t=some .bool)(h:DataW.trod enc P W base sp held (fuel+1) t cs=some x):∃b,cs=[.bool b]/\x.1=.lit (.bool b):=by
 unfold DataW.trod at h
 rw[ht]at h
 split at h<;>simp_all
 exact h▸rfl
theorem C8{fuel:Nat}{t:TypeId}{cs:List Value}{k:IntKind}{x:DataW H×List MemPlace}(ht:P.underlying t=some (.int k))(h:DataW.trod enc P W base sp held (fuel+1) t cs=some x):∃n,cs=[.int k n]/\(Lit.int k n).wf=true/\x.1=.lit (.int k n):=by
 unfold DataW.trod at h
 rw[ht]at h
 cases cs with
 |nil=>simp at h
 | cons v r =>
  cases r with
  |cons _ _=>simp at h
  |nil=>
   cases v<;>simp at h
   obtain⟨⟨rfl,h1⟩,rfl⟩:=h
   exact⟨_,rfl,h1,rfl⟩
theorem Ay{fuel:Nat}{t:TypeId}{cs:List Value}{x:DataW H×List MemPlace}(ht:P.underlying t=some .string)(h:DataW.trod enc P W base sp held (fuel+1) t cs=some x):∃s:ByteArray,cs=[.string s]/\s.size<=maxLen/\x.1=.lit (.string s.data.toList):=by
 unfold DataW.trod at h
 rw[ht]at h
 split at h<;>simp_all
 exact h.2▸rfl
theorem BL{fuel:Nat}{t e:TypeId}{cs:List Value}{x:DataW H×List MemPlace}(ht:P.underlying t=some (.slice e))(h:DataW.trod enc P W base sp held (fuel+1) t cs=some x):(cs=[.slice none 0 0]/\x.1=.nil)\/∃a len cap elems rest,cs=[.slice (some a) len cap]/\len<=cap/\cap<=maxLen/\x.1=.slice (elems.map (·.1)) rest/\
   (List.range len).mapM (fun i=>(W.cells? base (a.add (i * P.cellsOf e)) (P.cellsOf e)).bind (DataW.trod enc P W base sp held fuel e))=some elems:=by
 unfold DataW.trod at h
 rw[ht]at h
 cases cs with
 |nil=>simp at h
 | cons v r =>
  cases r with
  |cons _ _=>simp at h
  | nil =>
   cases v<;>try (simp at h;done)
   rename_i ad len cap
   cases ad with
   |none=>
    left
    match len,cap,h with
    |0,0,h=>simp at h;exact⟨rfl,h▸rfl⟩
    |0,c+1,h=>simp at h
    |n+1,c,h=>simp at h
   | some a =>
    right
    simp only at h
    split at h
    ·rename_i hc
     obtain⟨elems,h1,h2⟩:=va8.1 h
     obtain⟨rest,h3,h4⟩:=vaC.1 h2
     exact⟨a,len,cap,elems,rest.map (·.1),rfl,hc.2.1,hc.2.2,by rw[<-h4],h1⟩
    ·cases h
theorem Az{fuel:Nat}{t:TypeId}{cs:List Value}{fs:Array Field}{x:DataW H×List MemPlace}(ht:P.underlying t=some (.struct fs))(h:DataW.trod enc P W base sp held (fuel+1) t cs=some x):cs.length=P.cellsOf t/\∃xs,fs.toList.mapM (fun f=>DataW.trod enc P W base sp held fuel f.type ((cs.drop f.offset).take (P.cellsOf f.type)))=some xs/\x.1=.agg (xs.map (·.1)):=by
 unfold DataW.trod at h
 rw[ht]at h
 simp only at h
 split at h
 ·rename_i hl
  obtain⟨xs,h1,h2⟩:=vaC.1 h
  exact⟨hl,xs,h1,by rw[<-h2]⟩
 ·cases h
theorem xz(a:Addr):a.add 0=a:=by unfold Addr.add;simp
theorem Ax{w:World}{a:Addr}{v:Value}(h:w.cell? a=some v):a.spot=none:=by
 unfold World.cell? at h
 split at h
 ·split at h
  ·cases h
  ·rename_i hs;simpa using hs
 ·cases h
structure AI(P:Program)(L:List TypeId):Prop where
 st:∀t∈L,∀fs,P.underlying t=some (.struct fs)->oK P 0 fs.toList (P.cellsOf t)=true/\∀f∈fs.toList,f.type∈L
 sl:∀t∈L,∀e,P.underlying t=some (.slice e)->0<P.cellsOf e/\e∈L
def A0(P:Program)(L:List TypeId)(t:TypeId):Bool:=match P.underlying t with
 |some (.struct fs)=>oK P 0 fs.toList (P.cellsOf t)&&fs.toList.all fun f=>L.contains f.type
 |some (.slice e)=>decide (0<P.cellsOf e)&&L.contains e
 |_=>true
theorem B7{L:List TypeId}(h:L.all (A0 P L)=true):AI P L:=by
 refine⟨fun t ht fs hu=>?_,fun t ht e hu=>?_⟩
 ·have:=vao.1 h t ht
  unfold A0 at this
  rw[hu]at this
  simp only[vac,vao,List.contains_iff_mem]at this
  exact this
 ·have:=vao.1 h t ht
  unfold A0 at this
  rw[hu]at this
  simpa using this
theorem Bb{L:List TypeId}(hF:AI P L):∀(fuel:Nat) (t:TypeId),t∈L->∀(cs:List Value) (d:DataW H) (p:List MemPlace),DataW.trod enc P W base sp held fuel t cs=some (d,p)->Dx P W fuel t cs (Rows.uptoBulk d)
 |0,t,_,cs,d,p,h=>by simp[DataW.trod]at h
 | fuel + 1,t,htL,cs,d,p,h => by
  have ih:=Bb hF fuel
  have other:(∀l,Sh P (fuel+1) t l)->Dx P W (fuel+1) t cs (Rows.uptoBulk d):=fun hs=>by
   refine⟨cs.map .val,by simp,fun i q v hq hv=>?_,hs _,?_⟩
   ·simp only[vaw,hv,vag,vaq]at hq
    subst hq;exact .val v
   ·have:∀cs:List Value,w8 (cs.map .val)=0:=by
     intro cs
     induction cs with
     |nil=>rfl
     |cons c cs ih=>simp only[vaU,w8,ih,pm]
    rw[this];exact vaF _
  cases hu:P.underlying t with
  |none=>exact other fun l=>by unfold Sh;rw[hu];trivial
  | some u =>
   cases u with
   |bool=>
    obtain⟨b,rfl,hx⟩:=Cn hu h
    simp only at hx;subst hx
    exact .one (.bool b) (by unfold Sh;rw[hu];exact⟨b,rfl⟩) (by simp[pm,Rows.uptoBulk])
   |int k=>
    obtain⟨n,rfl,hw,hx⟩:=C8 hu h
    simp only at hx;subst hx
    exact .one (.int k n) (by unfold Sh;rw[hu];exact⟨n,rfl,hw⟩) (by simp[pm,Rows.uptoBulk])
   |string=>
    obtain⟨s,rfl,hl,hx⟩:=Ay hu h
    simp only at hx;subst hx
    exact .one (.str s.data.toList) (by unfold Sh;rw[hu];exact⟨s.data.toList,rfl,by rw[Array.length_toList];exact hl⟩) (by simp[pm,Rows.uptoBulk])
   |struct fs=>
    obtain⟨hl,xs,hxs,hx⟩:=Az hu h
    simp only at hx;subst hx
    obtain⟨_,l,k1,k2,k3,k4⟩:=v6 ih (hF.st t htL fs hu).2 (by omega) (hF.st t htL fs hu).1 hxs
    refine⟨l,by omega,fun i q v hq hv=>k2 i q v hq (by rw[vaB];exact hv),by unfold Sh;rw[hu];exact k3,by simp only[Rows.uptoBulk];omega⟩
   | slice e =>
    obtain⟨hz,heL⟩:=hF.sl t htL e hu
    rcases BL hu h with⟨rfl,hx⟩|⟨a,len,cap,elems,rest,rfl,hlc,hcm,hx,hm⟩
    ·simp only at hx;subst hx
     exact .one .sliceNil (by unfold Sh;rw[hu];exact⟨[],rfl,by simp,by simp⟩) (by simp[pm,y1,Rows.uptoBulk])
    simp only at hx;subst hx
    have hel:elems.length=len:=by simpa using Lib.mapM_length hm
    have hat:∀i,i<len->∃x:List PVal,∃ci y,elems[i]? =some y/\W.cells? base (a.add (i * P.cellsOf e)) (P.cellsOf e)=some ci/\x.length=ci.length/\(∀(k:Nat) q v,x[k]? =some q->ci[k]? =some v->VR (nM W) [] W q v)/\Sh P fuel e x/\w8 x<=Rows.uptoBulk y.1:=fun i hi=>by
     obtain⟨y,hy,hb⟩:=Lib.mapM_at hm i i (by simp[hi])
     obtain⟨ci,hci,hd⟩:=va8.1 hb
     obtain⟨x,k1,k2,k3,k4⟩:=ih e heL ci y.1 y.2 hd
     exact⟨x,ci,y,hy,hci,k1,k2,k3,k4⟩
    obtain⟨es,hes,hq⟩:=zD hat
    have hbulk:y1 es<=Rows.uptoBulkAll (elems.map (·.1)):=zn (by simp[hes,hel]) fun i x d hx hd=>by
     obtain⟨ci,y,hy,_,_,_,_,hle⟩:=hq i x hx
     simp only[vaw,hy,vag,vaq]at hd
     subst hd;exact hle
    have hsh:Sh P (fuel+1) t [.slice es]:=by
     unfold Sh;rw[hu]
     refine⟨es,rfl,by omega,fun x hx=>?_⟩
     obtain⟨i,hi⟩:=va6.1 hx
     obtain⟨_,_,_,_,_,_,hs,_⟩:=hq i x hi
     exact hs
    refine .one ?_ hsh (by simp only[pm,Rows.uptoBulk];omega)
    by_cases h0:len=0
    ·subst h0
     obtain rfl:es=[]:=van hes
     exact .sliceE a cap
    ·have hcell:∀i,i<len->∀k,k<P.cellsOf e->∃(x:List PVal) (ci:List Value),es[i]? =some x/\W.cell? ((a.add (i * P.cellsOf e)).add k)=ci[k]?/\ci.length=P.cellsOf e/\x.length=ci.length/\(∀(k:Nat) q v,x[k]? =some q->ci[k]? =some v->VR (nM W) [] W q v):=fun i hi k hk=>by
      have hx:es[i]? =some es[i]:=vaa (by omega)
      obtain⟨ci,y,hy,hc,hl,hv,_,_⟩:=hq i _ hx
      obtain⟨_,hcl,hcc⟩:=World.cells?_some hc
      exact⟨_,ci,hx,hcc k hk,hcl,hl,hv⟩
     have hspot:a.spot=none:=by
      obtain⟨x,ci,_,h2,h3,_,_⟩:=hcell 0 (by omega) 0 hz
      rw[vcp,xz,xz,vaa (by omega)]at h2
      exact Ax h2
     obtain⟨ab,ao,asp⟩:=a
     simp only at hspot;subst hspot
     have hadd:∀i k,((⟨ab,ao,none⟩:Addr).add (i * P.cellsOf e)).add k=⟨ab,ao+i * P.cellsOf e+k,none⟩:=fun i k=>by
      rw[xy ⟨ab,ao,none⟩ _ rfl,xy _ _ rfl]
     have hcl:∀(i:Nat) x (k:Nat) q,es[i]? =some x->x[k]? =some q->∃v,W.cell? ⟨ab,ao+i * P.cellsOf e+k,none⟩=some v/\VR (nM W) [] W q v:=fun i x k q hx hqk=>by
      have hi:i<len:=by have:=aa hx;omega
      obtain⟨ci,y,hy,hc,hl,hv,_,_⟩:=hq i x hx
      obtain⟨_,hcl,hcc⟩:=World.cells?_some hc
      have hk:k<P.cellsOf e:=by have:=aa hqk;omega
      have hck:ci[k]? =some ci[k]:=vaa (by omega)
      refine⟨ci[k],?_,hv k q _ hqk hck⟩
      rw[<-hadd,hcc k hk,hck]
     have hlen:∀(i:Nat) x,es[i]? =some x->x.length=P.cellsOf e:=fun i x hx=>by
      obtain⟨ci,y,hy,hc,hl,_,_,_⟩:=hq i x hx
      exact hl.trans (World.cells?_some hc).2.1
     obtain⟨c,ty,fr,hh⟩:∃c ty fr,W.heap[ab]? =some (.cells c ty fr):=by
      obtain⟨x,ci,h1,h2,h3,h4,_⟩:=hcell 0 (by omega) 0 hz
      rw[hadd,vaa (by omega)]at h2
      unfold World.cell? at h2
      split at h2
      ·rename_i c ty fr hh;exact⟨c,ty,fr,hh⟩
      ·cases h2
     have hin:ao+es.length * P.cellsOf e<=c.size:=by
      obtain⟨x,ci,h1,h2,h3,h4,_⟩:=hcell (len - 1) (by omega) (P.cellsOf e - 1) (by omega)
      rw[hadd,vaa (by omega),cell_of_row W _ _ c ty fr hh]at h2
      have:=(vai.1 h2).1
      have e1:(len - 1) * P.cellsOf e+P.cellsOf e=len * P.cellsOf e:=by
       have:len=(len - 1)+1:=by omega
       conv=>rhs;rw[this,vaX,vbz]
      rw[hes];omega
     have:=VR.slice (Γ:=nM W) (bs:=[]) (w:=W) es ab ao cap c.size (P.cellsOf e) (fun i k=>(W.cell? ⟨ab,ao+i * P.cellsOf e+k,none⟩).getD undef) hz (by omega) (vS hh) hin hlen
      (fun i x k q hx hqk=>by obtain⟨v,h1,_⟩:=hcl i x k q hx hqk;rw[h1];rfl)
      (fun i x k q hx hqk=>by obtain⟨v,h1,h2⟩:=hcl i x k q hx hqk;rw[h1];exact h2)
     rw[hes]at this
     exact this
   |_=>exact other fun l=>by unfold Sh;rw[hu];trivial
end
end Go.Proofs.YtoficachfgggjaaDoor
namespace Go.Proofs.YtoficachfgggjaaDoor
open Go
set_option linter.unusedVariables false
abbrev In(P:Program)(t:TypeId){α:Type}(c:α->List PVal):Prop:=∀n l,Sh P n t l->∃x,l=c x
section
variable{P:Program}{t e:TypeId}{α:Type}{c:α->List PVal}
theorem DT{k:IntKind}(hu:P.underlying t=some (.int k)):In P t (cI k):=fun n l h=>by
 cases n with
 |zero=>exact h.elim
 |succ n=>
  unfold Sh at h
  rw[hu]at h
  obtain⟨i,rfl,_⟩:=h
  exact⟨i,rfl⟩
theorem EK(hu:P.underlying t=some .bool):In P t cB:=fun n l h=>by
 cases n with
 |zero=>exact h.elim
 |succ n=>
  unfold Sh at h
  rw[hu]at h
  obtain⟨i,rfl⟩:=h
  exact⟨i,rfl⟩
theorem DV(hu:P.underlying t=some .string):In P t cS:=fun n l h=>by
 cases n with
 |zero=>exact h.elim
 |succ n=>
  unfold Sh at h
  rw[hu]at h
  obtain⟨i,rfl,_⟩:=h
  exact⟨i,rfl⟩
theorem xW:∀{es:List (List PVal)},(∀x∈es,∃y,x=c y)->∃ys:List α,es=ys.map c
 |[],_=>⟨[],rfl⟩
 |x::es,h=>by
  obtain⟨y,rfl⟩:=h x (by simp)
  obtain⟨ys,rfl⟩:=xW fun z hz=>h z (vaL _ hz)
  exact⟨y::ys,rfl⟩
theorem DU(hu:P.underlying t=some (.slice e)){n:Nat}(hE:∀m,m<n->∀l,Sh P m e l->∃x,l=c x)(l:List PVal)(h:Sh P n t l):∃xs,l=cL c xs:=by
 cases n with
 |zero=>exact h.elim
 |succ n=>
  unfold Sh at h
  rw[hu]at h
  obtain⟨es,rfl,_,h⟩:=h
  obtain⟨ys,rfl⟩:=xW fun x hx=>hE n (vcE n) x (h x hx)
  exact⟨ys,rfl⟩
theorem EL(hu:P.underlying t=some (.slice e))(hE:In P e c):In P t (cL c):=fun n l h=>DU hu (fun m _=>hE m) l h
end
section
variable{H:Type}{enc:TypeId×Value->H}{P:Program}{W:World}{base b0:Nat}{sp:Nat->Bool}{held:Bool}{t e:TypeId}{v:Value}{d:DataW H}{p:List MemPlace}{L:List TypeId}
theorem v7(hF:AI P L)(hL:t∈L){fs:Array Field}(hu:P.underlying t=some (.struct fs))(h:DataW.Trod enc P W base sp held t v d p)(hv:Value.okWide P W .any b0 t v):∃n l,VR (nM W) [] W (.agg l) v/\Sh P n t l/\w8 l<=Rows.uptoBulk d:=by
 obtain⟨n,h⟩:=h
 unfold Value.okWide at hv
 rw[hu]at hv
 obtain⟨cs,rfl,_,_⟩:=hv
 obtain⟨l,h1,h2,h3,h4⟩:=Bb hF n t hL _ d p h
 refine⟨n,l,.agg l cs ?_ fun i q u hq hu'=>h2 i q u hq ?_,h3,h4⟩
 ·have:(Value.agg cs).cells.toList.length=cs.size:=by simp[Value.cells]
  omega
 ·show cs.toList[i]? =some u
  rw[vaT];exact hu'
end
def CV(n:Nat):ah->Prop
 |.dead=>True
 |.cells cs _=>iG n cs
 |.map es=>∀x∈es,x.1.cl n/\x.2.cl n
def wG(n:Nat):List ah->Prop
 |[]=>True
 |B::l=>CV n B/\wG n l
theorem xK{k:Nat}:∀{ps qs:List PVal},wO ps qs=qs->iG k qs->kD k ps qs
 |[],[],_,_=>trivial
 |[],_::_,h,_=>by simp[wO]at h
 |p::ps,[],h,_=>by simp[wO]at h
 |p::ps,q::qs,h,hc=>by
  obtain⟨hc1,hc2⟩:=hc
  cases q<;>simp only[wO,vbC]at h<;>refine⟨?_,xK h.2 hc2⟩<;>first|exact .inl rfl|exact .inr ⟨h.1,hc1⟩
theorem Ab{k:Nat}{p q:ah}(h:vE p q=q)(hc:CV k q):iP k p q:=by
 cases q with
 |dead=>cases p<;>simp[iP]
 | cells cs own =>
  cases p with
  | cells cs0 own0 =>
   simp only[vE,ah.cells.injEq]at h
   obtain⟨rfl,h⟩:=h
   refine⟨rfl,hc,fun x hx=>?_⟩
   split at h
   ·rename_i ha
    simpa using vao.1 ha x hx
   ·rw[h];exact hx
  |map es=>simp[vE]at h
  |dead=>simp[vE]at h
 |map es=>
  have h':p=.map es:=by cases p<;>simp[vE]at h ⊢<;>exact h
  subst h'
  exact⟨rfl,hc⟩
theorem ql{k:Nat}:∀{ps qs:List ah},xp (ps.take qs.length) qs=qs->wG k qs->bh k ps qs
 |_,[],_,_=>by unfold bh;trivial
 |[],_::_,h,_=>by simp[xp]at h
 |p::ps,q::qs,h,hc=>by
  obtain⟨hc1,hc2⟩:=hc
  rw[va5,List.take_succ_cons]at h
  simp only[xp,vbC]at h
  exact⟨Ab h.1 hc1,ql h.2 hc2⟩
def Ex(m:Nat)(st st0:aj):Prop:=wO st.tmps st0.tmps=st0.tmps/\xp (st.boxes.take st0.boxes.length) st0.boxes=st0.boxes/\(st0.own.all fun x=>decide (x∈st.own))=true/\decide (m % 1000<=st0.boxes.length)=true/\
 iG st0.boxes.length st0.tmps/\wG st0.boxes.length st0.boxes
theorem Ex.weak{P:Program}{m:Nat}{st st0:aj}(h:Ex m st st0):nj P m st st0:=by
 obtain⟨h1,h2,h3,h4,h5,h6⟩:=h
 exact .of_less ⟨xK h1 h5,ql h2 h6,fun x hx=>by simpa using vao.1 h3 x hx⟩ (by simpa using h4)
def Dt(m:Nat)(e0:Exit)(st0:aj):Exit->List It->aj->Prop:=fun e _ st=>e0=e/\Ex m st st0
section
variable{P:Program}{GE:List (Nat×List PVal)}{A:List Nat}{m:Nat}
theorem Br(hf:P.follows .mixedOrders=true){c:Code}{e0:Exit}{st0 st:aj}(sc:List It)(h:mt P GE A m c sc st (Dt m e0 st0)):aE P GE m c (EX e0 st0) st:=
 (dj hf c sc st _ h).mono fun _ _ hx=>by
  obtain⟨_,hx⟩:=hx
  exact⟨st0,hx.2.weak,hx.1.symm,rfl⟩
theorem DZ(hf:P.follows .mixedOrders=true){σ X:Type}{S:σ->aj}{ex:X->Exit}{so:X->aj}{c:Code}{s:σ}{st:aj}(sc:List It)(h:mt P GE A m c sc st (Dt m .normal (S s))):aE P GE m c (LQ S ex so (.inl s)) st:=
 (Br hf sc h).imp fun _ _ hx=>⟨hx.1,hx.2⟩
theorem D3(hf:P.follows .mixedOrders=true){σ X:Type}{S:σ->aj}{ex:X->Exit}{so:X->aj}{c:Code}{x:X}{st:aj}(sc:List It)(hn:ex x≠.normal)(h:mt P GE A m c sc st (Dt m (ex x) (so x))):aE P GE m c (LQ S ex so (.inr x)) st:=
 (Br hf sc h).imp fun _ _ hx=>⟨by rw[hx.1];exact hn,hx.1,hx.2⟩
end
mutual
theorem zq{n m:Nat}(hnm:n<=m):∀(p:PVal),p.cl n->p.cl m
 |.undef,_=>by simp[PVal.cl]
 |.int _ _,_=>by simp[PVal.cl]
 |.bool _,_=>by simp[PVal.cl]
 |.str _,_=>by simp[PVal.cl]
 |.val _,_=>by simp[PVal.cl]
 |.agg cs,h=>by simp only[PVal.cl]at h ⊢;exact jc hnm cs h
 |.tuple cs,h=>by simp only[PVal.cl]at h ⊢;exact jc hnm cs h
 |.slice es,h=>by simp only[PVal.cl]at h ⊢;exact vX hnm es h
 |.eptr cs,h=>by simp only[PVal.cl]at h ⊢;exact jc hnm cs h
 |.bptr i _,h=>by simp only[PVal.cl]at h ⊢;omega
 |.bsl i _ _,h=>by simp only[PVal.cl]at h ⊢;omega
 |.mapr i,h=>by simp only[PVal.cl]at h ⊢;omega
 |.func _ f c,h=>by simp only[PVal.cl]at h ⊢;exact⟨jc hnm f h.1,jc hnm c h.2⟩
theorem jc{n m:Nat}(hnm:n<=m):∀(l:List PVal),iG n l->iG m l
 |[],_=>by simp[iG]
 |p::l,h=>by simp only[iG]at h ⊢;exact⟨zq hnm p h.1,jc hnm l h.2⟩
theorem vX{n m:Nat}(hnm:n<=m):∀(l:List (List PVal)),sT n l->sT m l
 |[],_=>by simp[sT]
 |p::l,h=>by simp only[sT]at h ⊢;exact⟨jc hnm p h.1,vX hnm l h.2⟩
end
theorem kg{n:Nat}{l:List PVal}(h:iG 0 l):iG n l:=jc (vaF n) l h
theorem up{n:Nat}{p:PVal}(h:p.cl 0):p.cl n:=zq (vaF n) p h
theorem lc{i n:Nat}(h:decide (i<n)=true):i<n:=vbk h
theorem BZ{n:Nat}{α:Type}(f:α->PVal)(h:∀x,(f x).cl 0)(l:List (af×α)):CV n (.map (cw f l)):=by
 intro x hx
 obtain⟨y,_,rfl⟩:=vap.1 hx
 exact⟨trivial,up (h y.2)⟩
theorem FI(m:Nat)(st:aj)(h4:decide (m % 1000<=st.boxes.length)=true)(h5:iG st.boxes.length st.tmps)(h6:wG st.boxes.length st.boxes):st.tmps=st.tmps/\st.boxes=st.boxes/\true=true/\decide (m % 1000<=st.boxes.length)=true/\iG st.boxes.length st.tmps/\wG st.boxes.length st.boxes:=⟨rfl,rfl,rfl,h4,h5,h6⟩
def BV:TypeDesc->Bool
 |.struct _=>true
 |.array _ _=>true
 |_=>false
theorem rz{P:Program}{t:TypeId}{l r:List PVal}(h:(P.underlying t).any BV=true)(hc:P.cellsOf t=l.length):be P t (l++r)=some (.agg l):=by
 unfold be
 split
 ·rw[vas (by rw[hc];simp),hc,vb7]
 ·rw[vas (by rw[hc];simp),hc,vb7]
 ·rename_i d h1 h2 hd
  rw[hd]at h
  cases d<;>simp_all[BV]
 ·rename_i hd;rw[hd]at h;cases h
end Go.Proofs.YtoficachfgggjaaDoor
