/- PROVED: a part of the proof. Conditions: none. -/
import Derived.Test.YtoficachfgggjaaDoorPkA7
import Derived.Test.YtoficachfgggjaaDoorPkA3
import Derived.Shelf.SlicesE.Clone
import Derived.Test.YtoficachfgggjaaDoorChecked
import Derived.Test.YtoficachfgggjaaDoorProg
import Derived.Ground.SlgnProg
import Derived.Ground.SlsfProg
import Derived.Shelf.Lays
import Derived.Shelf.LaysM
import Derived.Shelf.SlGeneric
import Derived.Shelf.SlLaysE0
import Derived.Shelf.SlLaysF0
import Derived.Shelf.SlSortCmp.NoneTotal
noncomputable section
namespace Go.Proofs.YtoficachfgggjaaDoor
open Go
theorem pq{k:Nat}{B:ai}:∀{ps qs:List ai} {i:Nat},qs.length<=i->bm k ps qs->bm k (ps.set i B) qs
 |_,[],_,_,_=>by unfold bm;trivial
 |[],_::_,_,_,h=>by simpa using h
 |p::ps,q::qs,0,hi,_=>by simp at hi
 |p::ps,q::qs,i+1,hi,h=>by
  simp only[List.set_cons_succ]
  exact⟨h.1,pq (by simpa using hi) h.2⟩
def uV(P:Program)(rs:List ResultVar)(r:PVal)(ro:List (Nat×TypeId))(H':List ai)(st:al):Prop:=
 ∃(t:Tmp) (ty:TypeId) (i off:Nat) (cs:List PVal) (own:List (Nat×TypeId)) (l:List PVal),rs=[.cell t ty]/\(∃fs,P.underlying ty=some (.struct fs))/\st.tmps.getD t .undef=.bptr i off/\st.boxes[i]? =some (.cells cs own)/\
  r=.agg l/\bj P ty (cs.drop off)=some (.agg l)/\r.cl H'.length/\H'.length<=i/\bm H'.length st.boxes H'/\(∀x∈ro,(off+x.1,x.2)∈own/\x.1<l.length)/\(ro.map (·.1)).Nodup
def B6(P:Program)(rs:List ResultVar)(r:PVal)(ro:List (Nat×TypeId))(H':List ai)(e:Exit)(st:al):Prop:=
 ED P rs r ro H' e st\/((e=.normal\/e=.ret)/\uV P rs r ro H' st)
section
variable{P:Program}{E:kS}{Γ:ay}{bs:aC}{ow:Nat->Option hU}{w:World}{a:Array Value}{st:al}
theorem SR.finishCellG(h:SR P E Γ bs ow w a st){fn:Func}{r:PVal}{ro:List (Nat×TypeId)}{H':List ai}(hr:uV P fn.results.toList r ro H' st):∃v ow',(results fn a).run P w=.ok v w/\SR P E Γ (bs.take H'.length) ow' w #[v] ⟨[r],H',ro.map fun x=>((0,x.1),x.2)⟩:=by
 obtain⟨t,ty,i,off,cs,own,l,hrs,⟨fs,hfs⟩,ht,hB,rfl,hp,hcl,hi,hbl,hro,hnd⟩:=hr
 have hrv:qZ P st fn.results.toList=some (.agg l):=by
  rw[hrs]
  show fW P ty (st.tmps.getD t .undef) st.boxes=_
  rw[ht]
  simp only[fW,hB,hp]
 obtain⟨v,e1,e2,_⟩:=q5 h hrv
 have hvt:=h.getD t
 rw[ht]at hvt
 generalize hva:a.getD t undef=vt at hvt
 cases hvt with
 |bptr _ _ b hb=>
 obtain⟨v2,q1,q2,q3⟩:=pX h hb hB hp
 have hvv:v2=v:=by
  have hres:fn.results=#[.cell t ty]:=by
   have:fn.results=fn.results.toList.toArray:=by simp
   rw[this,hrs]
  have hrun:(results fn a).run P w=.ok v2 w:=by
   simp[results,hres,asAddr]
   have hva':a[t]?.getD undef=.pointer (some ⟨b,off,none⟩):=by rw[<-vat];exact hva
   rw[hva']
   simp[q1]
  rw[e1]at hrun
  cases hrun
  rfl
 subst hvv
 have g1:=h.pushed e2
 obtain⟨ow',g2⟩:=SR.takeOwns (off:=off) (d:=a.size) (u:=v2) hb (by simp) ro g1 hB (fun x hx=>(hro x hx).1) hnd fun x hx=>by
  have:=q3 ⟨_,hfs,trivial⟩ x.1 (hro x hx).2
  obtain⟨v',z1,_⟩:=h.ob i (off+x.1) x.2 cs own b hB (hro x hx).1 hb
  exact⟨v',this.trans z1,z1⟩
 refine⟨v2,sw (fun k=>(a.size,k)) ro ow',e1,?_⟩
 exact g2.finish (H':=H') (src:=fun k=>(a.size,k)) (ro:=ro) e2 hcl (pq hi hbl) (fun x hx=>⟨vaV _ (vbV.2 (vap.2 ⟨x,hx,rfl⟩)),fun u v' hu hv'=>by simp at hu;subst hu;exact hv'⟩) (fun x _ y _ e=>by simpa using e)
end
theorem C.ofSatG{P:Program}{GE:List (Nat×List PVal)}{m:Nat}{f:FuncId}{fn:Func}{c:Code}{args:List PVal}{oa:List ((Nat×Nat)×TypeId)}{H:List ai}{r:PVal}{ro:List (Nat×TypeId)}{H':List ai}(hm:m % 1000=H.length)(hm0:m≠0)
  (hcall:∀vs w,(callFunc f vs).run P w=.ok (.enter f vs) w) (hfn:P.funcs[f]? =some fn) (hb:fn.body=some c) (hH:H'.length=H.length)
  (hp:aE P GE m c (B6 P fn.results.toList r ro H') ⟨args++List.replicate (fn.ntmps - args.length) .undef,H,oa⟩):C P GE f args oa H r ro H':=by
 refine⟨hcall,fun Γ bs ow w vs h=>calls_of_wp hfn hb ?_⟩
 have hbl:bs.length=H.length:=h.bl
 have h0:SR P ⟨GE,Γ,w,bk bs ow⟩ Γ bs ow w (vs++Array.replicate (fn.ntmps - vs.size) undef) ⟨args++List.replicate (fn.ntmps - args.length) .undef,H,oa⟩:=by
  have hsz:vs.size=args.length:=h.sz
  exact{h with
   sz:=by simp[hsz]
   tm:=fun t p v hp hv=>by
    simp only at hp
    by_cases ht:t<args.length
    ·rw[vad ht]at hp
     rw[vaJ (by omega)]at hv
     exact h.tm t p v hp hv
    ·rw[vaf (by omega),vaO]at hp
     split at hp<;>cases hp
     exact .undef v
   ot:=fun t k e he=>by
    obtain⟨u,v,h1,h2⟩:=h.ot t k e he
    exact⟨u,v,by rw[vaJ (vai.1 h1).1];exact h1,h2⟩}
 have hE:zM GE m ⟨GE,Γ,w,bk bs ow⟩:={
  ge:=rfl
  low:=fun b n hb=>h.lt_of_ghost hb
  nt:=fun h0=>absurd h0 hm0
  gl:=fun g cs hg=>(h.gl g cs hg).restrict (n:=0) (by simp only[PVal.cl];exact h.gc g cs hg) (fun i b hi _=>absurd hi (vaQ _))}
 have hwp:=hp none ⟨GE,Γ,w,bk bs ow⟩ bs ⟨vs++Array.replicate (fn.ntmps - vs.size) undef,[]⟩ w hE (by rw[hbl,hm]) ⟨Γ,bs,ow,h0,fun i _=>rfl⟩
 refine wp_mono hwp fun e a w' hq=>?_
 obtain⟨hd,st,⟨Γ1,bs1,ow1,hS,hk⟩,hQ⟩:=hq
 have htake:H'.length<=bs1.length->bs1.take H'.length=bs:=by
  intro hl1
  refine va7 fun i=>?_
  by_cases hi:i<H'.length
  ·rw[vau hi];exact hk i (by omega)
  ·rw[List.getElem?_take_eq_none (by omega),vaz (by omega)]
 have hlen:∀{B:List ai},bm H'.length B H'->B.length=bs1.length->H'.length<=bs1.length:=fun hB he=>by
  obtain⟨hl,_⟩:=iX hB;omega
 have key:(qZ P st fn.results.toList=some r/\r.cl H'.length/\bm H'.length st.boxes H'/\(∀x∈ro,(b8 fn.results.toList x.1,x.2)∈st.own/\jl st fn.results.toList x.1)/\
   (∀x∈ro,∀y∈ro,b8 fn.results.toList x.1=b8 fn.results.toList y.1->x.1=y.1))->
   a.defers=[]/\∃v,(results fn a.tmps).run P w'=.ok v w'/\∃v' Γ' ow',Ending.returned v=.returned v'/\SR P ⟨GE,Γ,w,bk bs ow⟩ Γ' bs ow' w' #[v'] ⟨[r],H',ro.map fun x=>((0,x.1),x.2)⟩:=by
  rintro⟨k1,k2,k3,k4,k5⟩
  obtain⟨v,e1,e2,e3⟩:=q5 hS k1
  refine⟨hd,v,e1,v,Γ1,sw (b8 fn.results.toList) ro ow1,rfl,?_⟩
  have hf:=hS.finish (H':=H') (src:=b8 fn.results.toList) (ro:=ro) e2 k2 k3 (fun x hx=>⟨(k4 x hx).1,fun u v'=>e3 x.1 u v' (k4 x hx).2⟩) k5
  rw[htake (hlen k3 hS.bl.symm)]at hf
  exact hf
 have key2:uV P fn.results.toList r ro H' st->
   a.defers=[]/\∃v,(results fn a.tmps).run P w'=.ok v w'/\∃v' Γ' ow',Ending.returned v=.returned v'/\SR P ⟨GE,Γ,w,bk bs ow⟩ Γ' bs ow' w' #[v'] ⟨[r],H',ro.map fun x=>((0,x.1),x.2)⟩:=by
  intro hc
  obtain⟨v,ow',e1,e2⟩:=hS.finishCellG hc
  obtain⟨_,_,_,_,_,_,_,_,_,_,_,_,_,_,_,hbl2,_,_⟩:=hc
  rw[htake (hlen hbl2 hS.bl.symm)]at e2
  exact⟨hd,v,e1,v,Γ1,ow',rfl,e2⟩
 rcases hQ with hQ|⟨he,hQ⟩
 ·cases e with
  |normal=>exact key hQ
  |ret=>exact key hQ
  |exit id=>exact hQ.elim
  |goto l=>exact hQ.elim
  |panic c=>exact hQ.elim
  |outgrown=>exact hQ.elim
 ·rcases he with rfl|rfl
  ·exact key2 hQ
  ·exact key2 hQ
def yK(P:Program)(rs:List ResultVar)(ro:List (Nat×TypeId))(n:Nat)(st:al):Bool:=match rs with
 | [.cell t ty] => match P.underlying ty with
  | some (.struct _) => match st.tmps.getD t .undef with
   |.bptr i off=>decide (n<=i)&&match st.boxes[i]? with
    |some (.cells _ own)=>ro.all (fun x=>decide ((off+x.1,x.2)∈own)&&decide (x.1<P.cellsOf ty))&&kA (ro.map (·.1))
    |_=>false
   |_=>false
  |_=>false
 |_=>false
def Bd(P:Program)(rs:List ResultVar)(r:PVal)(ro:List (Nat×TypeId))(H':List ai)(st:al):Prop:=match ph rs ro st with
 |true=>match qZ P st rs with
  |some p=>p=r/\r.cl H'.length/\xJ (st.boxes.take H'.length) H'=H'/\wU H'.length H'
  |none=>False
 | false => match yK P rs ro H'.length st with
  |true=>match qZ P st rs with
   |some p=>p=r/\r.cl H'.length/\xJ (st.boxes.take H'.length) H'=H'/\wU H'.length H'/\r.isAgg=true
   |none=>False
  |false=>False
def D1(P:Program)(rs:List ResultVar)(r:PVal)(ro:List (Nat×TypeId))(H':List ai):Exit->List It->al->Prop:=fun e _ st=>match e with
 |.normal=>Bd P rs r ro H' st
 |.ret=>Bd P rs r ro H' st
 |_=>False
theorem xw{rs:List ResultVar}{ro:List (Nat×TypeId)}{st:al}(hc:ph rs ro st=true):(∀x∈ro,(b8 rs x.1,x.2)∈st.own/\jl st rs x.1)/\(∀x∈ro,∀y∈ro,b8 rs x.1=b8 rs y.1->x.1=y.1):=by
 have:=uX (r:=.undef) (P:=default) (rs:=rs) (ro:=ro) (st:=⟨st.tmps,st.boxes,st.own⟩) hc
 by_cases hr:qZ default st rs=some .undef
 ·exact(this hr trivial).2.2.2
 ·clear this
  unfold ph at hc
  rw[vac]at hc
  obtain⟨c1,c2⟩:=hc
  refine⟨fun x hx=>?_,fun x hx y hy hxy=>?_⟩
  ·have:=vao.1 c1 x hx
   rw[vac]at this
   refine⟨by simpa using this.1,?_⟩
   have h2:=this.2
   clear this c1 c2 hr
   rcases rs with _|⟨y,_|⟨z,rs⟩⟩
   ·simp at h2
   ·cases y with
    |tmp t=>trivial
    |cell t ty=>cases h2
   ·have key:∀o:Option ResultVar,(match o with
     |some (.tmp t)=>(st.tmps.getD t .undef).isSlice
     |_=>false)=true->(match o with
     |some (.tmp t)=>(st.tmps.getD t .undef).isSlice=true
     |_=>False):=by
     intro o
     cases o with
     |none=>intro h;cases h
     |some q=>cases q<;>intro h<;>first|exact h|cases h
    cases y with
    |tmp t=>exact key _ h2
    |cell t ty=>exact key _ h2
  ·have:=vao.1 (vao.1 c2 x hx) y hy
   simpa[hxy]using this
theorem Bd.to{P:Program}{rs:List ResultVar}{r:PVal}{ro:List (Nat×TypeId)}{H':List ai}{st:al}{e:Exit}(he:e=.normal\/e=.ret)(h:Bd P rs r ro H' st):B6 P rs r ro H' e st:=by
 unfold Bd at h
 split at h
 ·rename_i hc
  split at h
  ·rename_i p hp
   obtain⟨rfl,hcl,hfg,hcb⟩:=h
   obtain⟨s1,s2⟩:=xw hc
   have:qZ P st rs=some p/\p.cl H'.length/\bm H'.length st.boxes H'/\_/\_:=⟨hp,hcl,qF hfg hcb,s1,s2⟩
   rcases he with rfl|rfl<;>exact .inl this
  ·exact h.elim
 ·split at h
  ·rename_i hc
   split at h
   ·rename_i p hp
    obtain⟨rfl,hcl,hfg,hcb,hagg⟩:=h
    refine .inr ⟨he,?_⟩
    unfold yK at hc
    split at hc
    ·rename_i t ty _
     split at hc
     ·rename_i fs hfs
      split at hc
      ·rename_i i off ht
       rw[vac,vag]at hc
       obtain⟨hi,hc⟩:=hc
       split at hc
       ·rename_i cs own hB
        rw[vac]at hc
        obtain⟨c1,c2⟩:=hc
        have hpl:bj P ty (cs.drop off)=some p:=by
         have hp':fW P ty (st.tmps.getD t .undef) st.boxes=some p:=hp
         rw[ht]at hp'
         simpa only[fW,hB]using hp'
        cases p<;>simp only[PVal.isAgg]at hagg<;>first|(cases hagg;done)|skip
        rename_i l
        have hlen:l.length=P.cellsOf ty:=by
         have hq:=hpl
         unfold bj at hq
         rw[hfs]at hq
         simp only at hq
         split at hq
         ·rename_i hh;cases hq;rw[va4];omega
         ·cases hq
        refine⟨t,ty,i,off,cs,own,l,rfl,⟨fs,hfs⟩,ht,hB,rfl,hpl,hcl,hi,qF hfg hcb,fun x hx=>?_,gT c2⟩
        have:=vao.1 c1 x hx
        simp only[vac,vag]at this
        exact⟨this.1,by rw[hlen];exact this.2⟩
       ·cases hc
      ·cases hc
     ·cases hc
    ·cases hc
   ·exact h.elim
  ·exact h.elim
theorem D1.to{P:Program}{rs:List ResultVar}{r:PVal}{ro:List (Nat×TypeId)}{H':List ai}{e:Exit}{sc:List It}{st:al}(h:D1 P rs r ro H' e sc st):B6 P rs r ro H' e st:=by
 unfold D1 at h
 split at h
 ·exact h.to (.inl rfl)
 ·exact h.to (.inr rfl)
 ·exact h.elim
theorem C.evG{P:Program}{GE:List (Nat×List PVal)}{A:List Nat}(hf:P.follows .mixedOrders=true){m:Nat}{f:FuncId}{fn:Func}{c:Code}{args:List PVal}{oa:List ((Nat×Nat)×TypeId)}{H:List ai}{r:PVal}{ro:List (Nat×TypeId)}{H':List ai}
  (hm:decide (m % 1000=H.length)&&decide (m≠0)&&decide (H'.length=H.length)=true) (hcall:∀vs w,(callFunc f vs).run P w=.ok (.enter f vs) w) (hfn:P.funcs[f]? =some fn) (hb:fn.body=some c) (sc:List It)
  (h:mK P GE A m c sc ⟨args++List.replicate (fn.ntmps - args.length) .undef,H,oa⟩ (D1 P fn.results.toList r ro H')):C P GE f args oa H r ro H':=by
 simp only[vac,vag]at hm
 exact C.ofSatG hm.1.1 hm.1.2 hcall hfn hb hm.2 ((du hf c sc _ _ h).imp fun e st hx=>by obtain⟨sc',hx⟩:=hx;exact hx.to)
theorem rT:true=true:=rfl
theorem rL(l:List ai):l=l:=rfl
theorem rB(B:ai):B=B:=rfl
theorem rW(l:List (Nat×TypeId)):l=l:=rfl
theorem rM(l:List (PVal×PVal)):l=l:=rfl
theorem xR(ρ:List Nat)(p:PVal)(h:p.cl 0):qh ρ p p:=.refl p h
theorem xB(ρ:List Nat)(i j off:Nat)(h:ρ[i]? =some j):qh ρ (.bptr j off) (.bptr i off):=.bptr i j off h
theorem xM(ρ:List Nat)(i j:Nat)(h:ρ[i]? =some j):qh ρ (.mapr j) (.mapr i):=.mapr i j h
theorem iv{a a':PVal}{l l':List PVal}(h:a=a')(h':l=l'):a::l=a'::l':=by rw[h,h']
open Go Go.Shelf Go.RowKit Go.Lib
variable{P:Program}{ρ:Ren}
theorem wT{w:World}(base:Nat)(t ty e:TypeId)(i:TypeInfo)(z:Value)(ht:P.underlying t=some (.slice e))(hi:P.info? e=some i)(hz:i.zero=some z)
  (v:Value) (n:Nat) (xs:List Value) (hown:w.ownsRow base e i.size v n xs)
  (a:Addr) (m c:Nat) (news:List Value) (hl:news.length=m * i.size) (hnews:∀j u,news[j]? =some u->w.cell? (a.add j)=some u) (h1:∀u∈news,u.oneCell'=true)
  (h63:n+m<=maxLen) (hbytes:(n+m) * i.bytes<=140737488355328) {v':Value} {w':World} (hr:(Builtin.append_ #[t,t] ty #[v,.slice (some a) m c]).run P w=.ok v' w'):w.drawn<=w'.drawn:=by
 have hsmall:n+m<=9223372036854775807:=by simp only[maxLen]at h63;omega
 rcases hown.2 with⟨rfl,rfl⟩|⟨g,cap,cur,rfl,hbg,hg,hnc,hcm,hcs,htake⟩
 ·by_cases hm:m=0
  ·subst hm
   have hn:news=[]:=van (by simpa using hl)
   subst hn
   have:(Builtin.append_ #[t,t] ty #[.slice none 0 0,.slice (some a) 0 c]).run P w=.ok (.slice none 0 0) w:=by
    simp[Builtin.append_,run_underlying ht,Go.sizeOf,typeInfo,hi,Builtin.lenOf,Builtin.firstCells,loadCells,loadCellsFrom]
   rw[this]at hr;cases hr;exact vam _
  ·rw[run_append_nil (P:=P) w t ty e i z ht hi hz a m c news hl hnews (by omega) (by omega) (by have hb:=hbytes;simp only[vaA]at hb;omega)]at hr
   cases hr;exact vcv _
 ·by_cases hroom:n+m<=cap
  ·have hfit:n * i.size+news.length<=cur.size:=by rw[hl,hcs,<-vaY];exact vaG _ hroom
   rw[run_append_room (P:=P) w t ty e i ht hi g n cap cur hg a m c news hl hnews h1 hroom hfit]at hr
   cases hr;exact vam _
  ·have holds:∀j u,xs[j]? =some u->w.cell? ((⟨g,0,none⟩:Addr).add j)=some u:=hown.cells (g:=g) rfl
   rw[run_append_grow (P:=P) w t ty e i z ht hi hz ⟨g,0,none⟩ n cap xs hown.1 holds a m c news hl hnews (by omega) (by omega) (growslice_fits (by omega) hbytes)]at hr
   cases hr;exact vcv _
theorem u7(w:World){o:Oper}{a:Act}{K:Act->World->Prop}{Q:Exit->Act->World->Prop}(s x:Operand)(t:TypeId)
  (ho:o.op=.call {callee:=.builtin .append,args:=#[s,x],argTypes:=#[t,t]})
  (base:Nat) (e:TypeId) (i:TypeInfo) (z:Value) (size bytes:Nat) (ht:P.underlying t=some (.slice e)) (hi:P.info? e=some i) (hz:i.zero=some z)
  (hsize:i.size=size) (hby:i.bytes=bytes) (hzs:z.cells.size=size) (hsz:0<size)
  (v:Value) (n:Nat) (xs:List Value) (hs:a.eval s=v) (hown:w.ownsRow base e size v n xs)
  (ad:Addr) (m c:Nat) (news:List Value) (hx:a.eval x=.slice (some ad) m c) (hl:news.length=m * size) (hnews:∀j u,news[j]? =some u->w.cell? (ad.add j)=some u) (h1:∀u∈news,u.oneCell'=true)
  (h63:n+m<=maxLen) (hbytes:(n+m) * bytes<=140737488355328) (hbase:base<=w.heap.size)
  (h:∀v' w',w'.ownsRow base e size v' (n+m) (xs++news)->w.grownBy w' v.ownBlock->w.drawn<=w'.drawn->K (a.put o.dst v') w'):o.wp P a w K Q:=by
 obtain⟨v',w',hr,h2,h3,_⟩:=run_append_own (P:=P) w base t o.type e i z size bytes ht hi hz hsize hby hzs hsz v n xs hown ad m c news hl hnews h1 h63 hbytes hbase
 subst hsize
 subst hby
 have hd:=wT (P:=P) base t o.type e i z ht hi hz v n xs hown ad m c news hl hnews h1 h63 hbytes hr
 unfold Oper.wp execOp
 simp only[ho,resolve,invoke,builtin,Sem.run_bind,Sem.run_pure,Result.andThen_ok,List.map_toArray,vaX,vcE,hs,hx,hr]
 exact h v' w' h2 h3 hd
theorem kR(w:World){ops:Array Oper}{rest:List Oper}{o:Oper}{a:Act}{Q:Exit->Act->World->Prop}(hgd:o.guard=none)(s x:Operand)(t:TypeId)
  (ho:o.op=.call {callee:=.builtin .append,args:=#[s,x],argTypes:=#[t,t]})
  (base:Nat) (e:TypeId) (i:TypeInfo) (z:Value) (size bytes:Nat) (ht:P.underlying t=some (.slice e)) (hi:P.info? e=some i) (hz:i.zero=some z)
  (hsize:i.size=size) (hby:i.bytes=bytes) (hzs:z.cells.size=size) (hsz:0<size)
  (v:Value) (n:Nat) (xs:List Value) (hs:a.eval s=v) (hown:w.ownsRow base e size v n xs)
  (ad:Addr) (m c:Nat) (news:List Value) (hx:a.eval x=.slice (some ad) m c) (hl:news.length=m * size) (hnews:∀j u,news[j]? =some u->w.cell? (ad.add j)=some u) (h1:∀u∈news,u.oneCell'=true)
  (h63:n+m<=maxLen) (hbytes:(n+m) * bytes<=140737488355328) (hbase:base<=w.heap.size)
  (h:∀v' w',w'.ownsRow base e size v' (n+m) (xs++news)->w.grownBy w' v.ownBlock->w.drawn<=w'.drawn->wpList P ops Q rest (a.put o.dst v') w'):wpList P ops Q (o::rest) a w:=
 wpList_plain hgd fun _ hK=>u7 w s x t ho base e i z size bytes ht hi hz hsize hby hzs hsz v n xs hs hown ad m c news hx hl hnews h1 h63 hbytes hbase fun v' w' h2 h3 h4=>hK _ _ (h v' w' h2 h3 h4)
set_option maxHeartbeats 2000000 in
set_option maxRecDepth 100000 in
theorem zb(L:SlLaysE0.n41 P ρ)(i0:TypeInfo)(z:Value)(size bytes:Nat)(hi:P.info? (ρ.t 23)=some i0)(hz0:i0.zero=some z)(hz1:i0.size=size)(hz2:i0.bytes=bytes)(hzs:z.cells.size=size)(hsz:0<size)
  (z23:∀w,(Go.sizeOf (ρ.t 23)).run P w=.ok size w) (b off n c:Nat) (news:List Value) (w:World) (hl:news.length=n * size) (hn:n<=maxLen) (hbig:n * bytes<=140737488355328)
  (hc:∀j u,news[j]? =some u->w.cell? ⟨b,off+j,none⟩=some u) (h1:∀u∈news,u.oneCell'=true):
  Calls P (ρ.f 41) #[.slice (some ⟨b,off,none⟩) n c] w fun e w'=>∃v',e=.returned v'/\w'.ownsRow w.heap.size (ρ.t 23) size v' n news/\(Below w.heap.size w w'/\w.drawn<=w'.drawn):=by
 have mixed:=L.mixed;have t4:=L.t4;have a4:=L.a4;have z4:=L.z4;have v4:=L.v4;have t22:=L.t22;have a22:=L.a22;have z22:=L.z22;have v22:=L.v22
 have q22:∀(w:World) (a:Option Addr) (n c n' c':Nat),(binOp .eql (ρ.t 22) (.slice a n c) (.slice none n' c')).run P w=.ok (.bool a.isNone) w:=fun w a n c n' c'=>Lib.run_eql_slice_nil w _ _ a n c n' c' L.t22
 have u22:∀w,Sem.run P (underlying (ρ.t 22)) w=.ok (TypeDesc.slice (ρ.t 23)) w:=run_underlying t22
 have A:Aside (∀j u,news[j]? =some u->w.cell? ⟨b,off+j,none⟩=some u):=hc
 clear hc
 obtain⟨_,_,FG⟩:=L.f41
 go_enter FG,SlBodyN.n41_ntmps ρ
 go_wp2_with (at_builtin;refine kR _ rfl _ _ (ρ.t 22) rfl w.heap.size (ρ.t 23) i0 z size bytes t22 hi hz0 hz1 hz2 hzs hsz _ _ _ rfl (World.ownsRow_made w #[] 0 (vam _) (vaF _) (by simp)) ⟨b,off,none⟩ n c news rfl ?qc1 ?qc2 ?qc3 ?qc4 ?qc5 ?qc6 ?_)
 case qc1=>exact hl
 case qc2=>
  intro j u hj
  rw[Addr.add_lit]
  exact Lib.cell?_alloc_some _ (A.out j u hj)
 case qc3=>exact h1
 case qc4=>rw[vaA];exact hn
 case qc5=>rw[vaA];exact hbig
 case qc6=>simp
 intro v' w1 hown hgrow hdr
 go_wp2
 go_ret
 refine⟨v',rfl,by simpa using hown,?_,hdr⟩
 exact((Below.refl _ w).alloc (vam _) _).grown hgrow (by simp) (by intro k hk;simp[Value.ownBlock]at hk;omega)
set_option maxHeartbeats 2000000 in
set_option maxRecDepth 100000 in
theorem yf(L:SlLaysE0.n41 P ρ)(i0:TypeInfo)(z:Value)(hi:P.info? (ρ.t 23)=some i0)(hz0:i0.zero=some z)(hzs:z.cells.size=i0.size)(hsz:0<i0.size)
  (z23:∀w,(Go.sizeOf (ρ.t 23)).run P w=.ok i0.size w) (ad:Addr) (c:Nat) (w:World):
  Calls P (ρ.f 41) #[.slice (some ad) 0 c] w fun r w'=>∃v',r=.returned v'/\w'.ownsRow w.heap.size (ρ.t 23) i0.size v' 0 []/\(Below w.heap.size w w'/\w.drawn<=w'.drawn):=by
 have mixed:=L.mixed;have t4:=L.t4;have a4:=L.a4;have z4:=L.z4;have v4:=L.v4;have t22:=L.t22;have a22:=L.a22;have z22:=L.z22;have v22:=L.v22
 have q22:∀(w:World) (a:Option Addr) (n c n' c':Nat),(binOp .eql (ρ.t 22) (.slice a n c) (.slice none n' c')).run P w=.ok (.bool a.isNone) w:=fun w a n c n' c'=>Lib.run_eql_slice_nil w _ _ a n c n' c' L.t22
 have u22:∀w,Sem.run P (underlying (ρ.t 22)) w=.ok (TypeDesc.slice (ρ.t 23)) w:=run_underlying t22
 obtain⟨_,_,FG⟩:=L.f41
 go_enter FG,SlBodyN.n41_ntmps ρ
 go_wp2_with (at_builtin;refine kR _ rfl _ _ (ρ.t 22) rfl w.heap.size (ρ.t 23) i0 z i0.size i0.bytes t22 hi hz0 rfl rfl hzs hsz _ _ _ rfl (World.ownsRow_made w #[] 0 (vam _) (vaF _) (by simp)) ad 0 c [] rfl (by simp) (by simp) (by simp) (by simp) (by simp) (by simp) ?_)
 intro v' w1 hown hgrow hdr
 go_wp2
 go_ret
 exact⟨v',rfl,by simpa using hown,((Below.refl _ w).alloc (vam _) _).grown hgrow (by simp) (by intro k hk;simp[Value.ownBlock]at hk;omega),hdr⟩
theorem AB(L:SlLaysE0.n41 P ρ)(i0:TypeInfo)(z:Value)(hi:P.info? (ρ.t 23)=some i0)(hz0:i0.zero=some z)(hzs:z.cells.size=i0.size)(hsz:0<i0.size)(hby:i0.bytes<=65536)
  (hcall:∀vs w,(callFunc (ρ.f 41) vs).run P w=.ok (.enter (ρ.f 41) vs) w):ke P (ρ.f 41) (ρ.t 23):=by
 have hc:P.cellsOf (ρ.t 23)=i0.size:=by simp[Program.cellsOf,hi]
 have z23:∀w,(Go.sizeOf (ρ.t 23)).run P w=.ok i0.size w:=fun w=>by rw[<-hc];exact run_sizeOf w hi
 refine⟨hcall,fun w x n news hx hl h1 hn=>?_⟩
 rw[hc]at hl ⊢
 rcases hx with⟨rfl,rfl⟩|⟨a,c,rfl,hcell⟩
 ·have hnews:news=[]:=van (by simpa using hl)
  subst hnews
  refine(AnyE.slices_Clone_nil L 0 0 w).mono fun r w' hr=>?_
  obtain⟨rfl,rfl⟩:=hr
  exact⟨_,rfl,World.ownsRow_nil _ _ _ _,Below.refl _ _,vam _⟩
 ·by_cases h0:n=0
  ·subst h0
   have hnews:news=[]:=van (by simpa using hl)
   subst hnews
   exact yf L i0 z hi hz0 hzs hsz z23 a c w
  ·have hpos:0<news.length:=by rw[hl];exact vcG (Nat.pos_of_ne_zero h0) hsz
   have hsp:a.spot=none:=by
    have hk:=hcell 0 _ (vaa hpos)
    unfold Addr.add at hk
    simp only[if_true]at hk
    unfold World.cell? at hk
    split at hk
    ·split at hk
     ·cases hk
     ·rename_i hs;simpa using hs
    ·cases hk
   obtain⟨b,off,sp⟩:=a
   simp only at hsp
   subst hsp
   refine zb L i0 z i0.size i0.bytes hi hz0 rfl rfl hzs hsz z23 b off n c news w hl (by unfold maxLen;unfold dJ at hn;omega) ?_ (fun j u hj=>by rw[<-Addr.add_lit];exact hcell j u hj) h1
   have:n * i0.bytes<=1073741824 * 65536:=vcu (by unfold dJ at hn;omega) hby
   omega
theorem AA(L:SlLaysE0.n41 P ρ){f:FuncId}{e:TypeId}(hf:ρ.f 41=f)(he:ρ.t 23=e)(hq:(P.info? e).any (fun i=>(i.zero.any fun z=>z.cells.size==i.size)&&decide (0<i.size)&&decide (i.bytes<=65536))=true)
  (hcall:∀vs w,(callFunc f vs).run P w=.ok (.enter f vs) w):ke P f e:=by
 subst hf;subst he
 cases hi:P.info? (ρ.t 23)with
 |none=>rw[hi]at hq;cases hq
 | some i0 =>
  rw[hi]at hq
  simp only[Option.any_some,vac,vag]at hq
  obtain⟨⟨h1,h2⟩,h3⟩:=hq
  cases hz:i0.zero with
  |none=>rw[hz]at h1;cases h1
  |some z=>
   rw[hz]at h1
   simp only[Option.any_some,vaH]at h1
   exact AB L i0 z hi hz h1 h2 h3 hcall
end Go.Proofs.YtoficachfgggjaaDoor
namespace Go.Proofs.YtoficachfgggjaaDoor
open Go
def uc{α:Type}(l:List α):Option (List α):=if l.length<=dJ then some l else none
section
variable{P:Program}{GE:List (Nat×List PVal)}{T e:TypeId}{α:Type}{c:α->List PVal}
theorem ye{l r:List α}(h:uc l=some r):l.length<=dJ/\r=l:=by
 unfold uc at h
 split at h
 ·rename_i hl;cases h;exact⟨hl,rfl⟩
 ·cases h
theorem vC.mapOk(s:vC P T e c)(l:List α):∀x∈l.map c,x.length=P.cellsOf e/\∀q∈x,q.one=true:=fun x hx=>by
 obtain⟨y,_,rfl⟩:=vap.1 hx
 exact⟨s.hc y,s.ho y⟩
theorem vC.cloneCC(s:vC P T e c){f:FuncId}(hC:ke P f e){l r:List α}(h:uc l=some r):CC P GE f [sl c l] (sl c r) [(0,e)]:=by
 obtain⟨hl,rfl⟩:=ye h
 exact CC.clone hC ⟨aB s.cl r,trivial⟩ s.hp (s.mapOk r) (by simpa using hl)
end
def PS(_:List It)(F:Prop):Prop:=F
section
variable{sc:List It}{F X Y:Prop}
theorem en(h:F):PS [] F:=h
theorem sv{o:Option PVal}{p:PVal}(h:o=some p)(r:PS sc F):PS (.v p::sc) (o=some p/\F):=⟨h,r⟩
theorem eP{o:List ai->Option PVal}{p:PVal}(h:∀H,o H=some p)(r:PS sc F):PS (.v p::sc) ((∀H,o H=some p)/\F):=⟨h,r⟩
theorem sx{o:Option (List PVal)}{l:List PVal}(h:o=some l)(r:PS sc F):PS (.x l::sc) (o=some l/\F):=⟨h,r⟩
theorem se{o:Option (List PVal)}{l:List PVal}(h:o=some l)(r:PS sc F):PS (.e l::sc) (o=some l/\F):=⟨h,r⟩
theorem sg(n:Nat){x b:Bool}(h:x=b)(r:PS sc F):PS (.g n b::sc) (x=b/\F):=⟨h,r⟩
theorem sk(r:PS sc F):PS (.k::sc) F:=r
theorem ss(r:PS sc F):PS (.s::sc) F:=r
theorem co{P:Program}{GE:List (Nat×List PVal)}{g:FuncId}{vs:List PVal}{p:PVal}{ro:List (Nat×TypeId)}(h:CC P GE g vs p ro)(r:PS sc F):PS (.c p ro::sc) (CC P GE g vs p ro/\F):=⟨h,r⟩
theorem sb{P:Program}{T:TypeId}{ps:List (Nat×PVal)}{p:PVal}{L:List (Nat×TypeId)}(h:d7 P T ps=some p)(h':xq P T ps L)(r:PS sc F):PS (.b p L::sc) (d7 P T ps=some p/\xq P T ps L/\F):=⟨h,h',r⟩
theorem sy{l vs:List PVal}(h:l=vs)(r:PS sc F):PS (.y vs::sc) (l=vs/\F):=⟨h,r⟩
theorem sz{o:Option PVal}{l:List PVal}(h:o=some (.agg l))(r:PS sc F):PS (.z l::sc) (o=some (.agg l)/\F):=⟨h,r⟩
theorem yP(an:List Nat)(r:PS sc F):PS (.dr an::sc) F:=r
theorem pH(n:Nat)(r:PS sc F):PS (.pa n::sc) F:=r
theorem dG{P:Program}{GE:List (Nat×List PVal)}{m:Nat}{c:Code}{e:Exit}{s0 s1:al}(h:aE P GE m c (EX e s1) s0)(r:PS sc F):PS (.pc s0 e s1::sc) ((s0.tmps=s0.tmps/\s0.boxes=s0.boxes/\true=true)/\aE P GE m c (EX e s1) s0/\F):=⟨fr s0,h,r⟩
theorem EH(i:It)(r:PS sc F):PS (i::sc) F:=r
theorem si(i:It)(h:X)(r:PS sc F):PS (i::sc) (X/\F):=⟨h,r⟩
theorem sf(h:X)(r:PS sc F):PS sc (X/\F):=⟨h,r⟩
theorem Ft{o:Option (List ai)}{B:ai}(h:o=some [B])(r:PS sc F):PS (.w 0 B::sc) (o=some [B]/\F):=⟨h,r⟩
theorem Gk{o:Option (List (PVal×PVal))}{m:List (PVal×PVal)}(h:o=some m)(r:PS sc F):PS (.w 0 (.map m)::sc) (o=some m/\F):=⟨h,r⟩
end
section
variable{P:Program}{GE:List (Nat×List PVal)}{A:List Nat}{m:Nat}
theorem Dx(hf:P.follows .mixedOrders=true){c:Code}{e0:Exit}{st0 st:al}{sc:List It}{F:Prop}(h:PS sc F)(he:F=mK P GE A m c sc st (FN e0 st0)):aE P GE m c (EX e0 st0) st:=BU hf sc (Eq.mp he h)
theorem Ew(hf:P.follows .mixedOrders=true){σ X:Type}{S:σ->al}{ex:X->Exit}{so:X->al}{c:Code}{s:σ}{st:al}{sc:List It}{F:Prop}(h:PS sc F)(he:F=mK P GE A m c sc st (FN .normal (S s))):aE P GE m c (LQ S ex so (.inl s)) st:=qR hf sc (Eq.mp he h)
theorem Ez(hf:P.follows .mixedOrders=true){σ X:Type}{S:σ->al}{ex:X->Exit}{so:X->al}{c:Code}{x:X}{st:al}{sc:List It}{F:Prop}(hn:ex x≠.normal)(h:PS sc F)(he:F=mK P GE A m c sc st (FN (ex x) (so x))):aE P GE m c (LQ S ex so (.inr x)) st:=Fl hf sc hn (Eq.mp he h)
theorem C.evp(hf:P.follows .mixedOrders=true){f:FuncId}{fn:Func}{c:Code}{args:List PVal}{r:PVal}{ro:List (Nat×TypeId)}
  (hcall:∀vs w,(callFunc f vs).run P w=.ok (.enter f vs) w) (hfn:P.funcs[f]? =some fn) (hb:fn.body=some c) (hcl:iP 0 args) {sc:List It} {F:Prop} (h:PS sc F)
  (he:F=mK P GE A 0 c sc ⟨args++List.replicate (fn.ntmps - args.length) .undef,[],[]⟩ (FR P fn.results.toList r ro)):CC P GE f args r ro:=C.ev hf hcall hfn hb hcl sc (Eq.mp he h)
theorem C.evGp(hf:P.follows .mixedOrders=true){f:FuncId}{fn:Func}{c:Code}{args:List PVal}{oa:List ((Nat×Nat)×TypeId)}{H:List ai}{r:PVal}{ro:List (Nat×TypeId)}{H':List ai}
  (hm:decide (m % 1000=H.length)&&decide (m≠0)&&decide (H'.length=H.length)=true) (hcall:∀vs w,(callFunc f vs).run P w=.ok (.enter f vs) w) (hfn:P.funcs[f]? =some fn) (hb:fn.body=some c) {sc:List It} {F:Prop} (h:PS sc F)
  (he:F=mK P GE A m c sc ⟨args++List.replicate (fn.ntmps - args.length) .undef,H,oa⟩ (D1 P fn.results.toList r ro H')):C P GE f args oa H r ro H':=C.evG hf hm hcall hfn hb sc (Eq.mp he h)
end
section
variable{P:Program}{GE:List (Nat×List PVal)}{A:List Nat}{m:Nat}
theorem d6(hf:P.follows .mixedOrders=true){σ X:Type}{S:σ->al}{ex:X->Exit}{so:X->al}{c:Code}{s:σ}{st:al}{sc:List It}{F:Prop}(h:PS sc F)(he:F=mK P GE A m c sc st (D0 m .normal (S s))):aE P GE m c (LQ S ex so (.inl s)) st:=Ex hf sc (Eq.mp he h)
theorem jD(hf:P.follows .mixedOrders=true){σ X:Type}{S:σ->al}{ex:X->Exit}{so:X->al}{c:Code}{x:X}{st:al}{sc:List It}{F:Prop}(hn:ex x≠.normal)(h:PS sc F)(he:F=mK P GE A m c sc st (D0 m (ex x) (so x))):aE P GE m c (LQ S ex so (.inr x)) st:=EA hf sc hn (Eq.mp he h)
end
def tm(n:Nat):Nat->List (Nat×PVal)->List PVal
 |k,[]=>List.replicate (n - k) .undef
 |k,x::l=>List.replicate (x.1 - k) .undef++x.2::tm n (x.1+1) l
abbrev be(n:Nat)(l:List (Nat×PVal))(H:List ai)(o:List ((Nat×Nat)×TypeId)):al:=⟨tm n 0 l,H,o⟩
def Ei(n:Nat):List (Nat×PVal)->Prop
 |[]=>True
 |x::l=>x.2.cl n/\Ei n l
theorem wW{n:Nat}{l:List PVal}(h:iP n l):∀k,iP n (List.replicate k .undef++l)
 |0=>h
 |k+1=>by rw[List.replicate_succ,vcj];exact⟨trivial,wW h k⟩
theorem cG{n N:Nat}:∀{l:List (Nat×PVal)} {k:Nat},Ei n l->iP n (tm N k l)
 |[],k,_=>by unfold tm;have:=wW (n:=n) (l:=[]) trivial (N - k);rwa[vbp]at this
 |x::l,k,h=>by unfold tm;exact wW (l:=x.2::tm N (x.1+1) l) (by simp only[iP];exact⟨h.1,cG h.2⟩) _
def bits:Nat->Nat->List Bool->List Bool
 |0,_,l=>l
 |k+1,n,l=>if n<=1 then l else bits k (n / 2) ((n % 2==1)::l)
def cA(c:Code)(n:Nat):Code:=pQ c (bits 100 n [])
theorem eF(e:Exit)(s:al):PS [] (e=e/\s.tmps=s.tmps/\s.boxes=s.boxes/\true=true):=⟨rfl,fr s⟩
theorem pw(m:Nat)(e:Exit)(s:al)(h4:decide (m % 1000<=s.boxes.length)=true)(h5:iP s.boxes.length s.tmps)(h6:wU s.boxes.length s.boxes):PS [] (e=e/\s.tmps=s.tmps/\s.boxes=s.boxes/\true=true/\decide (m % 1000<=s.boxes.length)=true/\iP s.boxes.length s.tmps/\wU s.boxes.length s.boxes):=⟨rfl,Gg m s h4 h5 h6⟩
def nO(n:Nat)(i:Int):Option Nat:=if 0<=i/\i<n then some i.toNat else none
def cN{α:Type}(n:Nat)(f:α->PVal)(x:Nat->α):List PVal:=(List.range n).map fun k=>f (x k)
def fR{α:Type}(x:Nat->α)(L:Nat)(v:α):Nat->α:=fun k=>if k=L then v else x k
def pO{α:Type}(z:α):Nat->α:=fun _=>z
def lI{α:Type}(z:α)(l:List α):Nat->α:=fun k=>l.getD k z
theorem qG{n x:Nat}{i:Int}(h:nO n i=some x):0<=i/\i<n/\x=i.toNat/\x<n:=by
 unfold nO at h
 split at h
 ·rename_i hh;cases h;exact⟨hh.1,hh.2,rfl,by omega⟩
 ·cases h
theorem Fi{n x:Nat}{i:Int}(h:nO n i=some x):0+x * 1<n:=by
 have:=(qG h).2.2.2;omega
theorem CY{n m x y:Nat}{i j:Int}(h:nO n i=some x)(h':nO m j=some y):0+x * m+y * 1<n * m:=by
 have h1:=(qG h).2.2.2
 have h2:=(qG h').2.2.2
 have h3:(x+1) * m<=n * m:=vaG m h1
 rw[vaY,vbF]at h3
 omega
section
variable{P:Program}{α:Type}{n:Nat}{f:α->PVal}{x:Nat->α}
theorem pP:(cN n f x).length=n:=by simp[cN]
theorem zQ{k:Nat}(h:k<n):(cN n f x)[k]? =some (f (x k)):=by
 unfold cN;rw[vax,vaT h];rfl
theorem Bk(h:∀a,(f a).cl 0):iP 0 (cN n f x):=wV fun p hp=>by
 obtain⟨k,_,rfl⟩:=vap.1 hp;exact h _
theorem Dp(h:∀a,(f a).one=true):∀q∈cN n f x,q.one=true:=fun p hp=>by
 obtain⟨k,_,rfl⟩:=vap.1 hp;exact h _
theorem yb{t e:TypeId}{m:Nat}(hu:P.underlying t=some (.array n e))(hi:(P.info? e).isSome=true)(hm:P.cellsOf e=m){b off y:Nat}{k:IntKind}{i:Int}(h:nO n i=some y):cq P t (.bptr b off) (.int k i)=some (.bptr b (off+y * m)):=by
 obtain⟨h0,h1,rfl,_⟩:=qG h
 unfold cq
 rw[hu]
 simp only
 rw[vas ⟨h0,h1,hi⟩,hm]
theorem Bl{t:TypeId}(hs:(P.underlying t).any oI=true){L:Nat}(h:L<n):bj P t ((cN n f x).drop L)=some (f (x L)):=by
 have hl:L<(cN n f x).length:=by rw[pP];exact h
 rw[va3 hl]
 have:=zQ (f:=f) (x:=x) h
 rw[vaa hl]at this
 rw[va2 this]
 exact ng hs _ _
theorem Dq{L:Nat}(h:L<n)(v:α):(cN n f x).take L++[f v]++(cN n f x).drop (L+1)=cN n f (fR x L v):=by
 have hl:((cN n f x).take L).length=L:=by rw[va4,pP];omega
 apply va7
 intro k
 by_cases hk:k<n
 ·rw[zQ hk]
  unfold fR
  by_cases h1:k<L
  ·rw[vbM,vad (by omega),vau h1,zQ hk,vav (by omega)]
  ·by_cases h2:k=L
   ·subst h2
    rw[vbM,vaf (by omega),hl,vbG,vas rfl]
    rfl
   ·rw[vaf (by simp;omega),vaR,vav h2]
    have:L+1+(k - ((cN n f x).take L++[f v]).length)=k:=by simp[hl];omega
    rw[this,zQ hk]
 ·rw[vaz (by simp[pP];omega),vaz (by rw[pP];omega)]
theorem CW{t:TypeId}(hc:P.cellsOf t=1)(hi:(P.info? t).isSome=true)(ho:∀a,(f a).one=true){L:Nat}{v:α}(h:L<n)(hp:∀a,bD (f a)=some [f a]):bA P t (.bptr 0 L) (f v) [.cells (cN n f x) []]=some [.cells (cN n f (fR x L v)) []]:=by
 unfold bA
 simp only[hp,List.getElem?_cons_zero]
 rw[vas ⟨hc.symm,hi,by rw[pP];show L+1<=n;omega,by simp[ho]⟩]
 have:=Dq (f:=f) (x:=x) h v
 simp only[List.length_singleton]
 rw[this]
 rfl
end
open Go Go.Proofs.Tryd
set_option linter.unusedVariables false
set_option maxRecDepth 100000
noncomputable abbrev Pg:=Tryd.prog
theorem mixed:Pg.follows .mixedOrders=true:=by kernel_rfl
structure ah where
 From:Int
 To:Int
 Strict:Bool
deriving DecidableEq
def aj(x:ah):List PVal:=[.int .i64 x.From,.int .i64 x.To,.bool x.Strict]
theorem mV(x:ah):aj x=[.int .i64 x.From,.int .i64 x.To,.bool x.Strict]:=rfl
theorem au(x:ah):iP 0 (aj x):=(aI trivial (aI trivial (aI trivial trivial)))
abbrev xF(x:ah):PVal:=.agg (aj x)
theorem uB(x:ah):(aj x).length=3:=by rw[mV];rfl
theorem nd(x:ah):bD (.agg (aj x))=some (aj x):=rfl
theorem uJ(x:ah):bD (xF x)=some (aj x):=rfl
theorem eN(x:ah):bD (.agg (aj x))=some [.int .i64 x.From,.int .i64 x.To,.bool x.Strict]:=by rw[mV];rfl
theorem BN(x:ah):∀q∈aj x,q.one=true:=by
 intro q hq
 rw[mV]at hq
 simp only[vaE,vbW,or_false]at hq
 rcases hq with rfl|rfl|rfl<;>rfl
theorem Cv:Pg.cellsOf 43=3:=by kernel_rfl
theorem dO(x:ah):bj Pg 43 (aj x)=some (.agg (aj x)):=by
 have:=rX (P:=Pg) (t:=43) (l:=aj x) (r:=[]) (by kernel_rfl) (Cv.trans (uB x).symm)
 rwa[vbp]at this
theorem mf(x:ah)(r:List PVal):bj Pg 43 ([.int .i64 x.From,.int .i64 x.To,.bool x.Strict]++r)=some (.agg (aj x)):=by
 rw[<-mV];exact rX (by kernel_rfl) (Cv.trans (uB x).symm)
theorem B9(x:ah):PVal.agg [.int .i64 x.From,.int .i64 x.To,.bool x.Strict]=.agg (aj x):=by rw[mV]
def j5(x y:ah):Bool:=(x.From==y.From)&&((x.To==y.To)&&((x.Strict==y.Strict)&&(true)))
theorem yu(x y:ah):yz Pg .neq 43 (.agg (aj x)) (.agg (aj y))=some (.bool (!(j5 x y))):=by kernel_rfl
theorem zf(x y:ah):j5 x y=decide (x=y):=by
 cases x;cases y;rw[vbC];simp[j5]
theorem ya(x0:Int)(x1:Int):d7 Pg 43 [(0,.int .i64 x0),(1,.int .i64 x1)]=some (.agg (aj (⟨x0,x1,false⟩:ah))):=by
 kernel_rfl
theorem pr(x0:Int)(x1:Int)(x2:Bool):d7 Pg 43 [(0,.int .i64 x0),(1,.int .i64 x1),(2,.bool x2)]=some (.agg (aj (⟨x0,x1,x2⟩:ah))):=by
 kernel_rfl
theorem b6(x:ah):dc Pg 43 (.eptr (aj x)) 0=some (.eptr ((aj x).drop 0)):=by kernel_rfl
theorem eA(x:ah):dc Pg 43 (.eptr (aj x)) 1=some (.eptr ((aj x).drop 1)):=by kernel_rfl
theorem mW(x:ah):dc Pg 43 (.eptr (aj x)) 2=some (.eptr ((aj x).drop 2)):=by kernel_rfl
theorem cw(x:ah):bj Pg 3 ((aj x).drop 0)=some (.int .i64 x.From):=by kernel_rfl
theorem fA(x:ah):bj Pg 3 ((aj x).drop 1)=some (.int .i64 x.To):=by kernel_rfl
theorem ou(x:ah):bj Pg 4 ((aj x).drop 2)=some (.bool x.Strict):=by kernel_rfl
structure aa where
 Caller:ag
 Callee:ag
 Arcs:(List ah)
deriving DecidableEq
def ae(x:aa):List PVal:=[.str x.Caller,.str x.Callee,sl aj x.Arcs]
theorem bo(x:aa):ae x=[.str x.Caller,.str x.Callee,sl aj x.Arcs]:=rfl
theorem af(x:aa):iP 0 (ae x):=(aI trivial (aI trivial (aI (aB au x.Arcs) trivial)))
abbrev mJ(x:aa):PVal:=.agg (ae x)
theorem pW(x:aa):(ae x).length=3:=by rw[bo];rfl
theorem bq(x:aa):bD (.agg (ae x))=some (ae x):=rfl
theorem kB(x:aa):bD (mJ x)=some (ae x):=rfl
theorem fF(x:aa):bD (.agg (ae x))=some [.str x.Caller,.str x.Callee,sl aj x.Arcs]:=by rw[bo];rfl
theorem zr(x:aa):∀q∈ae x,q.one=true:=by
 intro q hq
 rw[bo]at hq
 simp only[vaE,vbW,or_false]at hq
 rcases hq with rfl|rfl|rfl<;>rfl
theorem Cu:Pg.cellsOf 24=3:=by kernel_rfl
theorem aV(x:aa):bj Pg 24 (ae x)=some (.agg (ae x)):=by
 have:=rX (P:=Pg) (t:=24) (l:=ae x) (r:=[]) (by kernel_rfl) (Cu.trans (pW x).symm)
 rwa[vbp]at this
theorem bK(x:aa)(r:List PVal):bj Pg 24 ([.str x.Caller,.str x.Callee,sl aj x.Arcs]++r)=some (.agg (ae x)):=by
 rw[<-bo];exact rX (by kernel_rfl) (Cu.trans (pW x).symm)
theorem dL(x:aa):PVal.agg [.str x.Caller,.str x.Callee,sl aj x.Arcs]=.agg (ae x):=by rw[bo]
theorem gP:d7 Pg 24 []=some (.agg (ae (⟨([]:ag),([]:ag),([]:List ah)⟩:aa))):=by
 kernel_rfl
theorem gO:xq Pg 24 [] [(2,43)]:=by
 exact⟨[.str ([]:ag),.str ([]:ag),.val yv],by kernel_rfl,(aI rfl trivial)⟩
theorem lK(x0:ag)(x1:ag):d7 Pg 24 [(0,.str x0),(1,.str x1)]=some (.agg (ae (⟨x0,x1,([]:List ah)⟩:aa))):=by
 kernel_rfl
theorem lJ(x0:ag)(x1:ag):xq Pg 24 [(0,.str x0),(1,.str x1)] [(2,43)]:=by
 exact⟨[.str x0,.str x1,.val yv],by kernel_rfl,(aI rfl trivial)⟩
theorem aO(x:aa):dc Pg 24 (.eptr (ae x)) 0=some (.eptr ((ae x).drop 0)):=by kernel_rfl
theorem aQ(x:aa):dc Pg 24 (.eptr (ae x)) 1=some (.eptr ((ae x).drop 1)):=by kernel_rfl
theorem aw(x:aa):dc Pg 24 (.eptr (ae x)) 2=some (.eptr ((ae x).drop 2)):=by kernel_rfl
theorem aT(x:aa):bj Pg 9 ((ae x).drop 0)=some (.str x.Caller):=by kernel_rfl
theorem aU(x:aa):bj Pg 9 ((ae x).drop 1)=some (.str x.Callee):=by kernel_rfl
theorem ax(x:aa):bj Pg 22 ((ae x).drop 2)=some (sl aj x.Arcs):=by kernel_rfl
theorem F0:Pg.cellsOf 4=1:=by kernel_rfl
abbrev jQ:=Nat->Bool
def jC(x:jQ):List PVal:=cN 36 PVal.bool x
theorem tu(x:jQ):iP 0 (jC x):=Bk (fun _=>trivial)
theorem E3{x:jQ}{L:Nat}(h:L<36):bj Pg 4 ((jC x).drop L)=some (PVal.bool (x L)):=Bl (show(Pg.underlying 4).any oI=true by kernel_rfl) h
theorem E4{x:jQ}{L:Nat}{v:Bool}(h:L<36):bA Pg 4 (.bptr 0 L) (PVal.bool v) [.cells (jC x) []]=some [.cells (jC (fR x L v)) []]:=CW F0 (by kernel_rfl) (fun _=>rfl) h (fun _=>rfl)
theorem Ds:Pg.cellsOf 52=3:=by kernel_rfl
theorem En:Pg.cellsOf 3=1:=by kernel_rfl
abbrev jA:=Nat->Int
def ii(x:jA):List PVal:=cN 3 (PVal.int .i64) x
abbrev oQ(x:jA):PVal:=.agg (ii x)
theorem wX(x:jA):iP 0 (ii x):=Bk (fun _=>trivial)
theorem yr(x:jA):(ii x).length=3:=pP
theorem jv(x:jA):bD (oQ x)=some (ii x):=rfl
theorem BM(x:jA):∀q∈ii x,q.one=true:=Dp (fun _=>rfl)
theorem CB(x:jA):bj Pg 52 (ii x)=some (.agg (ii x)):=by
 have:=rX (P:=Pg) (t:=52) (l:=ii x) (r:=[]) (by kernel_rfl) (Ds.trans (yr x).symm)
 rwa[vbp]at this
theorem Df{x:jA}{L:Nat}(h:L<3):bj Pg 3 ((ii x).drop L)=some ((PVal.int .i64) (x L)):=Bl (show(Pg.underlying 3).any oI=true by kernel_rfl) h
theorem cr(x0:Int)(x1:Int)(x2:Int):d7 Pg 52 [(0,(PVal.int .i64) x0),(1,(PVal.int .i64) x1),(2,(PVal.int .i64) x2)]=some (.agg (ii (lI 0 [x0,x1,x2]))):=by kernel_rfl
theorem Fe:Pg.cellsOf 74=36:=by kernel_rfl
abbrev g9:=Nat->Int
def bE(x:g9):List PVal:=cN 36 (PVal.int .i64) x
abbrev DI(x:g9):PVal:=.agg (bE x)
theorem qx(x:g9):iP 0 (bE x):=Bk (fun _=>trivial)
theorem BJ(x:g9):(bE x).length=36:=pP
theorem uI(x:g9):bD (DI x)=some (bE x):=rfl
theorem CD(x:g9):bj Pg 74 (bE x)=some (.agg (bE x)):=by
 have:=rX (P:=Pg) (t:=74) (l:=bE x) (r:=[]) (by kernel_rfl) (Fe.trans (BJ x).symm)
 rwa[vbp]at this
theorem Cr{x:g9}{L:Nat}(h:L<36):bj Pg 3 ((bE x).drop L)=some ((PVal.int .i64) (x L)):=Bl (show(Pg.underlying 3).any oI=true by kernel_rfl) h
theorem Eb{x:g9}{L:Nat}{v:Int}(h:L<36):bA Pg 3 (.bptr 0 L) ((PVal.int .i64) v) [.cells (bE x) []]=some [.cells (bE (fR x L v)) []]:=CW En (by kernel_rfl) (fun _=>rfl) h (fun _=>rfl)
theorem D8{b off:Nat}{k:IntKind}{i:Int}{x:Nat}(h:nO 6 i=some x):cq Pg 45 (.bptr b off) (.int k i)=some (.bptr b (off+x * 1)):=yb underlying45 (by kernel_rfl) F0 h
theorem Fc:Pg.cellsOf 45=6:=by kernel_rfl
theorem D9{b off:Nat}{k:IntKind}{i:Int}{x:Nat}(h:nO 6 i=some x):cq Pg 46 (.bptr b off) (.int k i)=some (.bptr b (off+x * 6)):=yb underlying46 (by kernel_rfl) Fc h
theorem De{b off:Nat}{k:IntKind}{i:Int}{x:Nat}(h:nO 3 i=some x):cq Pg 52 (.bptr b off) (.int k i)=some (.bptr b (off+x * 1)):=yb underlying52 (by kernel_rfl) En h
theorem At{b off:Nat}{k:IntKind}{i:Int}{x:Nat}(h:nO 6 i=some x):cq Pg 72 (.bptr b off) (.int k i)=some (.bptr b (off+x * 1)):=yb underlying72 (by kernel_rfl) En h
theorem Fd:Pg.cellsOf 72=6:=by kernel_rfl
theorem Au{b off:Nat}{k:IntKind}{i:Int}{x:Nat}(h:nO 6 i=some x):cq Pg 74 (.bptr b off) (.int k i)=some (.bptr b (off+x * 6)):=yb underlying74 (by kernel_rfl) Fd h
theorem cF:vC Pg 22 43 aj:=⟨underlying22,fun x=>(uB x).trans Cv.symm,by kernel_rfl,by rw[Cv];decide,by kernel_rfl,vbq (by kernel_rfl),BN,au⟩
theorem gq:vC Pg 33 24 ae:=⟨underlying33,fun x=>(pW x).trans Cu.symm,by kernel_rfl,by rw[Cu];decide,by kernel_rfl,vbq (by kernel_rfl),zr,af⟩
theorem ES:Pg.cellsOf 9=1:=by kernel_rfl
theorem oH:vC Pg 68 9 cS:=⟨underlying68,fun _=>ES.symm,by kernel_rfl,by rw[ES];decide,by kernel_rfl,vbq (by kernel_rfl),Fk,Eh⟩
theorem F1:Pg.cellsOf 5=1:=by kernel_rfl
theorem xy:vC Pg 71 52 ii:=⟨underlying71,fun x=>(yr x).trans Ds.symm,by kernel_rfl,by rw[Ds];decide,by kernel_rfl,vbq (by kernel_rfl),BM,wX⟩
theorem yN:vC Pg 100 3 (cI .i64):=⟨underlying100,fun _=>En.symm,by kernel_rfl,by rw[En];decide,by kernel_rfl,vbq (by kernel_rfl),(Fj .i64),(Fb .i64)⟩
theorem Gj:(Pg.underlying 3).any oI=true:=by kernel_rfl
theorem Fs:(Pg.underlying 33).any oI=true:=by kernel_rfl
theorem EE:(Pg.underlying 9).any oI=true:=by kernel_rfl
theorem Gm:rY Pg 4=some (PVal.bool false):=by kernel_rfl
theorem EB:fa Pg 46=some (jC (pO false)):=by kernel_rfl
theorem Fq:fa Pg 52=some (ii (pO 0)):=by kernel_rfl
theorem EC:fa Pg 74=some (bE (pO 0)):=by kernel_rfl
theorem qY:fa Pg 24=some [.str ([]:ag),.str ([]:ag),sl aj ([]:List ah)]:=by kernel_rfl
theorem Fp:fa Pg 33=some [sl ae ([]:List aa)]:=by kernel_rfl
theorem tk:fa Pg 43=some [.int .i64 0,.int .i64 0,.bool false]:=by kernel_rfl
theorem Fr:fa Pg 56=some [.val (.map none)]:=by kernel_rfl
def aX:List ag:=[([97,110,100]:ag),([97,115,115,117,109,101]:ag),([98,111,111,108]:ag),([98,111,117,110,100]:ag),([99,97,115,101]:ag),([99,101,108,108]:ag),([99,108,97,115,115]:ag),([100,97,116,97]:ag),([100,101,102]:ag),([100,105,118]:ag),([101,108,115,101]:ag),([101,110,100]:ag),([102,97,108,115,101]:ag),([102,111,114,97,108,108]:ag),([102,117,110]:ag),([103,101,116]:ag),([105,102]:ag),([105,110]:ag),([105,110,115,116]:ag),([105,110,116]:ag),([105,110,118,97,114,105,97,110,116]:ag),([108,101,116]:ag),([109,97,116,99,104]:ag),([109,101,97,115,117,114,101]:ag),([109,101,116,114,105,99]:ag),([109,111,100]:ag),([109,117]:ag),([110,101,119]:ag),([110,111,116]:ag),([111,102]:ag),([111,114]:ag),([113,117,97,108]:ag),([114,101,102,108,101,99,116]:ag),([115,101,116]:ag),([116,104,101,110]:ag),([116,114,117,101]:ag),([117,115,101]:ag),([118]:ag),([118,97,108]:ag),([116,97,103]:ag),([119,104,101,114,101]:ag),([119,105,116,104]:ag)]
theorem Ej:Pg.cellsOf 101=42:=by kernel_rfl
theorem lx:bj Pg 101 (aX.map PVal.str)=some (.agg (aX.map PVal.str)):=by kernel_rfl
theorem qM{k:IntKind}{i:Int}{x:ag}(h:gz aX i=some x):nf Pg 101 (.agg (aX.map PVal.str)) (.int k i)=some (PVal.str x):=Ea underlying101 ES (by kernel_rfl) (by kernel_rfl) (by kernel_rfl) h
def eC:List Int:=[1,10,100,1000,10000,100000,1000000,10000000,100000000,1000000000,10000000000,100000000000,1000000000000,10000000000000,100000000000000,1000000000000000,10000000000000000,100000000000000000,1000000000000000000,10000000000000000000]
theorem Ek:Pg.cellsOf 115=20:=by kernel_rfl
theorem Ff:Pg.cellsOf 99=1:=by kernel_rfl
def mh:List Int:=[0,1,28,2,29,14,24,3,30,22,20,15,25,17,4,8,31,27,13,23,21,19,16,7,26,12,18,6,11,5,10,9]
theorem El:Pg.cellsOf 120=32:=by kernel_rfl
def mi:List Int:=[0,1,56,2,57,49,28,3,61,58,42,50,38,29,17,4,62,47,59,36,45,43,51,22,53,39,33,30,24,18,12,5,63,55,48,27,60,41,37,16,46,35,44,21,52,32,23,11,54,26,40,15,34,20,31,10,25,14,19,9,13,8,7,6]
theorem Em:Pg.cellsOf 121=64:=by kernel_rfl
def GE:List (Nat×List PVal):=[(0,aX.map PVal.str),(1,eC.map (PVal.int .u64)),(2,mh.map (PVal.int .u8)),(3,mi.map (PVal.int .u8))]
theorem dH(A:List Nat){m:Nat}{c:Code}{sc:List It}{F:Prop}{e0:Exit}{st0 st:al}(h:PS sc F)(he:F=mK Pg GE A m c sc st (FN e0 st0)):aE Pg GE m c (EX e0 st0) st:=Dx mixed h he
theorem rf(A:List Nat){m:Nat}{c:Code}{sc:List It}{F:Prop}{σ X:Type}{S:σ->al}{ex:X->Exit}{so:X->al}{s:σ}{st:al}(h:PS sc F)(he:F=mK Pg GE A m c sc st (FN .normal (S s))):aE Pg GE m c (LQ S ex so (.inl s)) st:=Ew mixed h he
theorem jK(A:List Nat){m:Nat}{c:Code}{sc:List It}{F:Prop}{σ X:Type}{S:σ->al}{ex:X->Exit}{so:X->al}{x:X}{st:al}(hn:ex x≠.normal)(h:PS sc F)(he:F=mK Pg GE A m c sc st (FN (ex x) (so x))):aE Pg GE m c (LQ S ex so (.inr x)) st:=Ez mixed hn h he
theorem bC(A:List Nat){f:FuncId}{fn:Func}{c:Code}{args:List PVal}{r:PVal}{ro:List (Nat×TypeId)}(hcall:∀vs w,(callFunc f vs).run Pg w=.ok (.enter f vs) w)(hfn:Pg.funcs[f]? =some fn)(hb:fn.body=some c)(hcl:iP 0 args){sc:List It}{F:Prop}(h:PS sc F)(he:F=mK Pg GE A 0 c sc ⟨args++List.replicate (fn.ntmps - args.length) .undef,[],[]⟩ (FR Pg fn.results.toList r ro)):CC Pg GE f args r ro:=C.evp mixed hcall hfn hb hcl h he
abbrev waA:=List ah
abbrev waB:=List aa
abbrev waC:=List ag
theorem CA:∀n,(∀l,Sh Pg n 43 l->∃x,l=aj x):=by
 intro n
 induction n using Nat.strongRecOn with
 | ind n ih =>
  cases n with
  |zero=>exact fun l h=>h.elim
  | succ n =>
   exact fun l h=>by
    unfold Sh at h
    rw[underlying43]at h
    obtain⟨a0,b0,rfl,_,h0,a1,b1,rfl,_,h1,a2,b2,rfl,_,h2,rfl⟩:=h
    obtain⟨x0,rfl⟩:=(Ep underlying3) n _ h0
    obtain⟨x1,rfl⟩:=(Ep underlying3) n _ h1
    obtain⟨x2,rfl⟩:=(Fg underlying4) n _ h2
    exact⟨(⟨x0,x1,x2⟩:ah),by rw[mV];rfl⟩
theorem wm:∀n,(∀l,Sh Pg n 24 l->∃x,l=ae x):=by
 intro n
 induction n using Nat.strongRecOn with
 | ind n ih =>
  cases n with
  |zero=>exact fun l h=>h.elim
  | succ n =>
   exact fun l h=>by
    unfold Sh at h
    rw[underlying24]at h
    obtain⟨a0,b0,rfl,_,h0,a1,b1,rfl,_,h1,a2,b2,rfl,_,h2,rfl⟩:=h
    obtain⟨x0,rfl⟩:=(Es underlying9) n _ h0
    obtain⟨x1,rfl⟩:=(Es underlying9) n _ h1
    obtain⟨x2,rfl⟩:=(Fh underlying22 CA) n _ h2
    exact⟨(⟨x0,x1,x2⟩:aa),by rw[bo];rfl⟩
set_option linter.unusedSimpArgs false
section
variable{α:Type}
def Ab(ord:α->α->Option Int)(x y:α):Bool:=match ord x y with
 |some r=>decide (r<0)
 |none=>false
def zm(lt:α->α->Bool)(x:α):List α->List α
 |[]=>[x]
 |y::r=>if lt y x=true then y::zm lt x r else x::y::r
def pV(lt:α->α->Bool):List α->List α
 |[]=>[]
 |x::r=>zm lt x (pV lt r)
structure Cl(lt:α->α->Bool)(S:α->Prop):Prop where
 irr:∀x,S x->lt x x=false
 trans:∀x y z,S x->S y->S z->lt x y=true->lt y z=true->lt x z=true
 ntrans:∀x y z,S x->S y->S z->lt x y=false->lt y z=false->lt x z=false
 tot:∀x y,S x->S y->lt x y=false->lt y x=false->x=y
theorem rt(lt:α->α->Bool)(x:α):∀l,(zm lt x l).Perm (x::l)
 |[]=>.refl _
 | y :: r => by
  unfold zm
  split
  ·exact((rt lt x r).cons y).trans (List.Perm.swap x y r)
  ·exact .refl _
theorem lu(lt:α->α->Bool):∀l,(pV lt l).Perm l
 |[]=>.refl _
 |x::r=>(rt lt x (pV lt r)).trans ((lu lt r).cons x)
abbrev vD(lt:α->α->Bool)(l:List α):Prop:=l.Pairwise fun x y=>lt y x=false
theorem sC{lt:α->α->Bool}{S:α->Prop}(h:Cl lt S)(x:α)(hx:S x):∀{l},(∀y∈l,S y)->vD lt l->vD lt (zm lt x l)
 |[],_,_=>by simp[zm,vD]
 | y :: r,hS,hs => by
  unfold vD at hs ⊢
  have h':=vbc.1 hs
  have hy:=hS y (by simp)
  have hr:∀z∈r,S z:=fun z hz=>hS z (by simp[hz])
  unfold zm
  split
  ·rename_i hyx
   rw[vbc]
   refine⟨fun z hz=>?_,sC h x hx hr h'.2⟩
   rcases vaE.1 ((rt lt x r).mem_iff.1 hz)with rfl|hz
   ·cases hc:lt z y with
    |false=>rfl
    |true=>
     have:=h.trans _ _ _ hy hx hy hyx hc
     rw[h.irr _ hy]at this;cases this
   ·exact h'.1 z hz
  ·rename_i hyx
   have hyx:lt y x=false:=by simpa using hyx
   rw[vbc]
   refine⟨fun z hz=>?_,hs⟩
   rcases vaE.1 hz with rfl|hz
   ·exact hyx
   ·exact h.ntrans _ _ _ (hr z hz) hy hx (h'.1 z hz) hyx
theorem pB{lt:α->α->Bool}{S:α->Prop}(h:Cl lt S):∀{l},(∀y∈l,S y)->vD lt (pV lt l)
 |[],_=>by simp[pV,vD]
 |x::r,hS=>by
  unfold pV
  exact sC h x (hS x (by simp)) (fun y hy=>hS y (by have:=(lu lt r).mem_iff.1 hy;simp[this])) (pB h fun y hy=>hS y (by simp[hy]))
theorem sI{lt:α->α->Bool}{S:α->Prop}(h:Cl lt S):∀{l r:List α},(∀y∈l,S y)->l.Perm r->vD lt l->vD lt r->l=r
 |[],r,_,hp,_,_=>(List.Perm.nil_eq hp)
 | x :: l,r,hS,hp,hl,hr => by
  cases r with
  |nil=>exact absurd hp.length_eq (by simp)
  | cons y r =>
   have hl':=vbc.1 hl
   have hr':=vbc.1 hr
   have hxS:=hS x (by simp)
   have hyS:=hS y (hp.mem_iff.2 (by simp))
   have hxy:x=y:=by
    have h1:x∈y::r:=hp.mem_iff.1 (by simp)
    have h2:y∈x::l:=hp.mem_iff.2 (by simp)
    rcases vaE.1 h1 with h1|h1
    ·exact h1
    ·rcases vaE.1 h2 with h2|h2
     ·exact h2.symm
     ·exact h.tot _ _ hxS hyS (hr'.1 x h1) (hl'.1 y h2)
   subst hxy
   rw[sI h (fun z hz=>hS z (by simp[hz])) hp.cons_inv hl'.2 hr'.2]
end
section
variable{α:Type}[DecidableEq α]
def ET(ord:α->α->Option Int)(l:List α):Bool:=
 decide (l.length<=dJ)&&(l.all (fun x=>l.all fun y=>(ord x y).isSome)&&(l.all (fun x=>!Ab ord x x)&&
 (l.all (fun x=>l.all fun y=>l.all fun z=>(!(Ab ord x y&&Ab ord y z)||Ab ord x z)&&((Ab ord x y||Ab ord y z)||!Ab ord x z))&&
 l.all fun x=>l.all fun y=>Ab ord x y||(Ab ord y x||decide (x=y)))))
def sH(ord:α->α->Option Int)(l:List α):Option (List α):=if ET ord l=true then some (pV (Ab ord) l)else none
theorem yw{ord:α->α->Option Int}{l:List α}(h:ET ord l=true):l.length<=dJ/\(∀x∈l,∀y∈l,∃r,ord x y=some r)/\Cl (Ab ord) (·∈l):=by
  unfold ET at h
  simp only[vac,vag,vao,vaK,vaL]at h
  obtain⟨h1,h2,h3,h4,h5⟩:=h
  refine⟨h1,fun x hx y hy=>vay.1 (h2 x hx y hy),fun x hx=>h3 x hx,fun x y z hx hy hz a b=>?_,fun x y z hx hy hz a b=>?_,fun x y hx hy a b=>?_⟩
  · rcases (h4 x hx y hy z hz).1 with h | h
    ·rw[a,b]at h;cases h
    ·exact h
  · rcases (h4 x hx y hy z hz).2 with (h | h) | h
    ·rw[a]at h;cases h
    ·rw[b]at h;cases h
    ·exact h
  · rcases h5 x hx y hy with h | h | h
    ·rw[a]at h;cases h
    ·rw[b]at h;cases h
    ·exact h
theorem xC{ord:α->α->Option Int}{l r l':List α}(h:sH ord l=some r)(hp:l'.Perm l)(hs:vD (Ab ord) l'):l'=r:=by
 unfold sH at h
 split at h
 ·rename_i hk
  cases h
  obtain⟨_,_,ho⟩:=yw hk
  exact sI ho (fun y hy=>hp.mem_iff.1 hy) (hp.trans (lu _ l).symm) hs (pB ho fun y hy=>hy)
 ·cases h
theorem Cd{ord:α->α->Option Int}{l r:List α}(h:sH ord l=some r):ET ord l=true/\r.length=l.length:=by
 unfold sH at h
 split at h
 ·rename_i hk
  cases h
  exact⟨hk,(lu _ l).length_eq⟩
 ·cases h
end
theorem kQ{n:Int}(h1: -9223372036854775808<=n)(h2:n<9223372036854775808):b5 n=n:=DJ h1 h2
theorem ja{α:Type}(l:List α)(i:Nat)(h:i<l.length):gz l (i:Int)=some l[i]:=by
 unfold gz
 rw[vas (by omega)]
 simp[h]
theorem gm(l:ag)(i:Nat)(h:i<l.length):fY l (i:Int)=some ((l[i].toNat:Int)):=by
 unfold fY;rw[ja l i h];rfl
theorem me(c:UInt8)(l:ag):fY (c::l) 0=some (c.toNat:Int):=by
 have:=gm (c::l) 0 (by simp)
 simpa using this
theorem BC{α:Type}(c:α)(l:List α):gz (c::l) 0=some c:=by
 have:=ja (c::l) 0 (by simp)
 simpa using this
theorem Cb{α:Type}(l:List α)(i:Nat)(h:i<=l.length):yQ l none (some (i:Int))=some (l.take i):=by
 simp[yQ,bd,h]
theorem u3{α:Type}(l:List α)(i:Nat)(h:i<=l.length):yQ l (some (i:Int)) none=some (l.drop i):=by
 simp[yQ,bd,h]
theorem wS{α:Type}{l r:List α}(h:l.length+r.length<=1073741824):app l r=some (l++r):=vas h
theorem pb{σ X:Type}{body:σ->Option (σ⊕X)}{s s':σ}(h:body s=some (.inl s')):loop body s=loop body s':=by rw[tA,h]
theorem iS{σ X:Type}{body:σ->Option (σ⊕X)}{s:σ}{x:X}(h:body s=some (.inr x)):loop body s=some x:=by rw[tA,h]
def jy{α σ X:Type}(f:Nat->α->σ->σ⊕X)(e:σ->X):List α->Nat->σ->X
 |[],_,s=>e s
 |x::r,i,s=>match f i x s with
  |.inl s'=>jy f e r (i+1) s'
  |.inr y=>y
theorem mg{α σ τ X:Type}(l:List α)(hl:l.length<9223372036854775808)(mk:Int->σ->τ)(body:τ->Option (τ⊕X))(I:Nat->σ->Prop)(f:Nat->α->σ->σ⊕X)(e:σ->X)
  (hin:∀(i:Nat) (h:i<l.length) s,I i s->body (mk i s)=some (match f i l[i] s with|.inl s'=>.inl (mk (b5 ((i:Int)+1)) s')|.inr y=>.inr y)/\∀s',f i l[i] s=.inl s'->I (i+1) s')
  (hend:∀s,I l.length s->body (mk l.length s)=some (.inr (e s))):∀(i:Nat) (s:σ),i<=l.length->I i s->loop body (mk i s)=some (jy f e (l.drop i) i s):=by
 intro i s hi hI
 obtain⟨k,hk⟩:∃k,k+i=l.length:=⟨l.length - i,by omega⟩
 induction k generalizing i s with
 |zero=>
  have:i=l.length:=by omega
  subst this
  rw[tA,hend s hI,List.drop_length]
  rfl
 | succ k ih =>
  have hlt:i<l.length:=by omega
  obtain⟨h1,h2⟩:=hin i hlt s hI
  rw[tA,h1,va3 hlt]
  unfold jy
  cases hf:f i l[i] s with
  |inl s'=>
   simp only
   rw[kQ (by omega) (by omega)]
   have:=ih (i+1) s' (by omega) (h2 s' hf) (by omega)
   rw[show((i:Int)+1)=((i+1:Nat):Int) by omega]
   exact this
  |inr y=>rfl
theorem yM{α X:Type}(p:α->Bool)(y e:X):∀(l:List α) (i:Nat),jy (fun _ x (_:Unit)=>if p x=true then Sum.inr y else .inl ()) (fun _=>e) l i ()=if l.any p=true then y else e
 |[],i=>by simp[jy]
 | x :: l,i => by
  have ih:=yM p y e l (i+1)
  unfold jy
  by_cases h:p x=true
  ·simp[h]
  ·simp only[h,if_false,ih,List.any_cons,vce,vaw]
theorem jt{α X:Type}(l:List α)(hl:l.length<9223372036854775808)(body:Int->Option (Int⊕X))(p:α->Bool)(y e:X)
  (hin:∀(i:Nat) (h:i<l.length),body i=some (if p l[i]=true then .inr y else .inl (b5 ((i:Int)+1)))) (hend:body l.length=some (.inr e)) (i:Nat) (hi:i<=l.length):
  loop body (i:Int)=some (if(l.drop i).any p=true then y else e):=by
 have:=mg l hl (fun i (_:Unit)=>i) body (fun _ _=>True) (fun _ x _=>if p x=true then Sum.inr y else .inl ()) (fun _=>e) (fun i h s _=>⟨?_,fun _ _=>trivial⟩) (fun s _=>hend) i () hi trivial
 ·rw[this,yM]
 ·rw[hin i h]
  by_cases hp:p l[i]=true<;>simp[hp]
theorem wD{α X:Type}(p:α->Bool)(y:Nat->X)(e:X):∀(l:List α) (i:Nat),jy (fun j x (_:Unit)=>if p x=true then Sum.inr (y j)else .inl ()) (fun _=>e) l i ()=match l.findIdx? p with|some j=>y (i+j)|none=>e
 |[],i=>by simp[jy]
 | x :: l,i => by
  have ih:=wD p y e l (i+1)
  unfold jy
  rw[List.findIdx?_cons]
  by_cases h:p x=true
  ·simp[h]
  ·simp only[h,if_false,ih,vaw]
   cases l.findIdx? p with
   |none=>rfl
   |some j=>simp only[vah];congr 1;omega
theorem ws{α X:Type}(l:List α)(hl:l.length<9223372036854775808)(body:Int->Option (Int⊕X))(p:α->Bool)(y:Nat->X)(e:X)
  (hin:∀(i:Nat) (h:i<l.length),body i=some (if p l[i]=true then .inr (y i)else .inl (b5 ((i:Int)+1)))) (hend:body l.length=some (.inr e)):
  loop body (0:Int)=some (match l.findIdx? p with|some j=>y j|none=>e):=by
 have:=mg l hl (fun i (_:Unit)=>i) body (fun _ _=>True) (fun j x _=>if p x=true then Sum.inr (y j)else .inl ()) (fun _=>e) (fun i h s _=>⟨?_,fun _ _=>trivial⟩) (fun s _=>hend) 0 () (vaF _) trivial
 ·simp only[Int.ofNat_zero,va9]at this
  have this2:=wD p y e l 0
  simp only[vaA]at this2
  rw[<-this2]
  exact this
 ·rw[hin i h]
  by_cases hp:p l[i]=true<;>simp[hp]
section
variable{α β σ τ X Y:Type}
theorem wr(l:List α)(hl:l.length<9223372036854775808)(body:Int->Option (Int⊕X))(k:Int->α->Option (Int⊕X))(p:α->Bool)(y e:X)
  (hb:∀(i:Int),body i=if decide (i<(l.length:Int))=true then(gz l i).bind (k i)else some (.inr e))
  (hk:∀x∈l,∀i,k i x=some (if p x=true then .inr y else .inl (b5 (i+1)))):loop body 0=some (if l.any p=true then y else e):=by
 have:=jt l hl body p y e (fun i hi=>?_) (by rw[hb,vav (by simp)]) 0 (vaF _)
 ·rw[va9]at this
  exact this
 ·rw[hb,vas (by simp;omega),ja l i hi]
  simp only[vab]
  exact hk _ (vbm hi) i
theorem pZ(l:List α)(hl:l.length<9223372036854775808)(mk:Int->σ->τ)(body:τ->Option (τ⊕X))(k:Int->σ->α->Option (τ⊕X))(I:Nat->σ->Prop)(g:α->σ->σ)(e:σ->X)(s0:σ)(h0:I 0 s0)
  (hb:∀(i:Int) (s:σ),body (mk i s)=if decide (i<(l.length:Int))=true then(gz l i).bind (k i s)else some (.inr (e s)))
  (hin:∀(i:Nat) (h:i<l.length) s,I i s->k i s l[i]=some (.inl (mk (b5 ((i:Int)+1)) (g l[i] s)))/\I (i+1) (g l[i] s)):loop body (mk 0 s0)=some (e (l.foldl (fun s x=>g x s) s0)):=by
 have:=mg l hl mk body I (fun _ x s=>.inl (g x s)) e (fun i h s hs=>⟨?_,fun s' hs'=>by cases hs';exact(hin i h s hs).2⟩) (fun s hs=>by rw[hb,vav (by simp)]) 0 s0 (vaF _) h0
 ·rw[va9,show((0:Nat):Int)=0 from rfl]at this
  rw[this]
  have key:∀(l:List α) (i:Nat) (s:σ),jy (fun _ x (s:σ)=>(Sum.inl (g x s):σ⊕X)) e l i s=e (l.foldl (fun s x=>g x s) s):=by
   intro l
   induction l with
   |nil=>intro i s;rfl
   |cons x l ih=>intro i s;unfold jy;simp only;rw[ih];rfl
  rw[key]
 ·rw[hb,vas (by simp;omega),ja l i h]
  simp only[vab]
  exact(hin i h s hs).1
end
theorem pY{σ X:Type}(n:Nat)(body:σ->Option (σ⊕X))(S:Nat->σ)(e:X)(hin:∀i,i<n->body (S i)=some (.inl (S (i+1))))(hend:body (S n)=some (.inr e)):loop body (S 0)=some e:=by
 have key:∀k i,k+i=n->loop body (S i)=some e:=by
  intro k
  induction k with
  |zero=>
   intro i hi
   have:i=n:=by omega
   subst this
   exact iS hend
  |succ k ih=>
   intro i hi
   rw[pb (hin i (by omega))]
   exact ih (i+1) (by omega)
 exact key n 0 (by omega)
def Et(X:Nat->Int):Prop:=∀L,X L=0\/X L=1\/X L=2
def mx(a b:Int):Int:=if b>a then b else a
def wd(X Y:Nat->Int)(f t m:Nat)(b:Int):Int:=if X (f * 6+m)>0/\Y (m * 6+t)>0 then mx (mx b (X (f * 6+m))) (Y (m * 6+t))else b
def x6(X Y:Nat->Int)(f t:Nat):Nat->Int
 |0=>0
 |m+1=>wd X Y f t m (x6 X Y f t m)
theorem Ad(a b:Int):a<=mx a b/\b<=mx a b/\(mx a b=a\/mx a b=b):=by unfold mx;split<;>omega
theorem Gh{a x y:Int}(ha:a=0\/a=1\/a=2)(hx:x=0\/x=1\/x=2)(hy:y=0\/y=1\/y=2)(h1:x>0)(h2:y>0):(mx (mx a x) y=0\/mx (mx a x) y=1\/mx (mx a x) y=2)/\mx (mx a x) y>0/\(mx (mx a x) y=2↔a=2\/x=2\/y=2):=by
 have s1:=Ad a x
 have s2:=Ad (mx a x) y
 omega
theorem ub{X Y:Nat->Int}(hX:Et X)(hY:Et Y)(f t:Nat):∀n,(x6 X Y f t n=0\/x6 X Y f t n=1\/x6 X Y f t n=2)/\(x6 X Y f t n>0↔∃m,m<n/\X (f * 6+m)>0/\Y (m * 6+t)>0)/\
  (x6 X Y f t n=2↔∃m,m<n/\X (f * 6+m)>0/\Y (m * 6+t)>0/\(X (f * 6+m)=2\/Y (m * 6+t)=2))
 | 0 => by
  refine⟨.inl rfl,⟨fun h=>?_,fun⟨m,h,_⟩=>absurd h (vaQ _)⟩,⟨fun h=>?_,fun⟨m,h,_⟩=>absurd h (vaQ _)⟩⟩
  ·simp[x6]at h
  ·simp[x6]at h
 | n + 1 => by
  obtain⟨h1,h2,h3⟩:=ub hX hY f t n
  have hx:=hX (f * 6+n)
  have hy:=hY (n * 6+t)
  unfold x6 wd
  by_cases hc:X (f * 6+n)>0/\Y (n * 6+t)>0
  ·rw[vas hc]
   obtain⟨m1,m2,m3⟩:=Gh h1 hx hy hc.1 hc.2
   refine⟨m1,⟨fun _=>⟨n,vbU n,hc.1,hc.2⟩,fun _=>m2⟩,m3.trans ⟨fun h=>?_,fun⟨m,hm,a,b,hh⟩=>?_⟩⟩
   ·rcases h with h|h
    ·obtain⟨m,hm,hh⟩:=h3.1 h
     exact⟨m,Nat.lt_succ_of_lt hm,hh⟩
    ·exact⟨n,vbU n,hc.1,hc.2,h⟩
   ·by_cases hmn:m=n
    ·subst hmn;exact .inr hh
    ·exact .inl (h3.2 ⟨m,by omega,a,b,hh⟩)
  ·rw[vav hc]
   refine⟨h1,h2.trans ⟨fun⟨m,hm,hh⟩=>⟨m,by omega,hh⟩,fun⟨m,hm,a,b⟩=>?_⟩,h3.trans ⟨fun⟨m,hm,hh⟩=>⟨m,by omega,hh⟩,fun⟨m,hm,a,b,hh⟩=>?_⟩⟩
   ·by_cases hmn:m=n
    ·subst hmn;exact absurd ⟨a,b⟩ hc
    ·exact⟨m,by omega,a,b⟩
   ·by_cases hmn:m=n
    ·subst hmn;exact absurd ⟨a,b⟩ hc
    ·exact⟨m,by omega,a,b,hh⟩
def vS(X Y:Nat->Int)(L:Nat):Int:=if L<36 then x6 X Y (L / 6) (L % 6) 6 else 0
theorem xg{X Y:Nat->Int}{f t:Nat}(hf:f<6)(ht:t<6):vS X Y (f * 6+t)=x6 X Y f t 6:=by
 unfold vS
 rw[vas (by omega),show(f * 6+t) / 6=f by omega,show(f * 6+t) % 6=t by omega]
def rg(x:ah):Prop:=0<=x.From/\x.From<6/\0<=x.To/\x.To<6
instance(x:ah):Decidable (rg x):=by unfold rg;infer_instance
def ix(x:ah):Nat:=x.From.toNat * 6+x.To.toNat
def wt(x:ah):Int:=if x.Strict=true then 2 else 1
def xK(l:List ah):Prop:=(∀x∈l,rg x)/\l.Pairwise fun x y=>ix x<ix y
def xE:List ah->(Nat->Int)->(Nat->Int)
 |[],m=>m
 |x::r,m=>xE r (fR m (ix x) (wt x))
def g7(l:List ah):Nat->Int:=xE l (pO 0)
theorem Eu{x:ah}(h:rg x):ix x<36:=by unfold rg at h;unfold ix;omega
theorem u9(x:ah):wt x=1\/wt x=2:=by unfold wt;split<;>simp
theorem sd:∀(l:List ah) (m:Nat->Int) (L:Nat),(∀x∈l,ix x≠L)->xE l m L=m L
 |[],_,_,_=>rfl
 |x::r,m,L,h=>by
  unfold xE
  rw[sd r _ L fun y hy=>h y (by simp[hy])]
  unfold fR
  rw[vav (fun e=>h x (by simp) e.symm)]
theorem wG:∀(l:List ah) (m:Nat->Int),(l.Pairwise fun x y=>ix x<ix y)->∀x∈l,xE l m (ix x)=wt x
 |[],_,_,x,h=>by cases h
 | y :: r,m,hp,x,h => by
  obtain⟨h1,h2⟩:=vbc.1 hp
  unfold xE
  rcases vaE.1 h with rfl|h
  ·rw[sd r _ _ fun z hz=>by have:=h1 z hz;omega]
   unfold fR;rw[vas rfl]
  ·exact wG r _ h2 x h
theorem yU:∀(l:List ah) (m:Nat->Int),Et m->Et (xE l m)
 |[],_,h=>h
 | x :: r,m,h => by
  unfold xE
  refine yU r _ fun L=>?_
  unfold fR
  split
  ·have:=u9 x;omega
  ·exact h L
theorem ra(l:List ah):Et (g7 l):=yU l _ fun L=>.inl rfl
theorem rb{l:List ah}(h:xK l){x:ah}(hx:x∈l):g7 l (ix x)=wt x:=wG l _ h.2 x hx
theorem yS{l:List ah}{L:Nat}(h:g7 l L>0):∃x∈l,ix x=L:=by
 by_cases hc:∃x∈l,ix x=L
 ·exact hc
 ·have:g7 l L=0:=by
   unfold g7
   rw[sd l _ L fun x hx e=>hc ⟨x,hx,e⟩]
   rfl
  omega
def nz(M:Nat->Int)(L:Nat):ah:=⟨(L / 6:Nat),(L % 6:Nat),M L==2⟩
def sm(M:Nat->Int):List ah:=(List.range 36).filterMap fun L=>if M L>0 then some (nz M L)else none
theorem yq(M:Nat->Int)(L:Nat):ix (nz M L)=L:=by
 unfold ix nz
 simp only[Int.toNat_natCast]
 omega
theorem ru{M:Nat->Int}{x:ah}:x∈sm M↔∃L,L<36/\M L>0/\x=nz M L:=by
 unfold sm
 rw[vbx]
 constructor
 ·rintro⟨L,hL,hx⟩
  split at hx
  ·cases hx;exact⟨L,va8.1 hL,by assumption,rfl⟩
  ·cases hx
 ·rintro⟨L,hL,hp,rfl⟩
  exact⟨L,va8.2 hL,by rw[vas hp]⟩
theorem wv(M:Nat->Int):xK (sm M):=by
 refine⟨fun x hx=>?_,?_⟩
 ·obtain⟨L,hL,_,rfl⟩:=ru.1 hx
  unfold rg nz
  simp only
  omega
 ·unfold sm
  rw[List.pairwise_filterMap]
  refine List.Pairwise.imp ?_ List.pairwise_lt_range
  intro a b hab x hx y hy
  split at hx
  ·split at hy
   ·cases hx;cases hy;rw[yq,yq];exact hab
   ·cases hy
  ·cases hx
theorem z7{α:Type}(f:α->Nat):∀{l r:List α},l.Pairwise (fun x y=>f x<f y)->r.Pairwise (fun x y=>f x<f y)->(∀x,x∈l↔x∈r)->l=r
 |[],[],_,_,_=>rfl
 |[],y::r,_,_,h=>by have:=(h y).2 (by simp);cases this
 |x::l,[],_,_,h=>by have:=(h x).1 (by simp);cases this
 | x :: l,y :: r,hl,hr,h => by
  obtain⟨l1,l2⟩:=vbc.1 hl
  obtain⟨r1,r2⟩:=vbc.1 hr
  have hxy:x=y:=by
   have h1:=(h x).1 (by simp)
   have h2:=(h y).2 (by simp)
   rcases vaE.1 h1 with h1|h1
   ·exact h1
   ·rcases vaE.1 h2 with h2|h2
    ·exact h2.symm
    ·have:=r1 x h1;have:=l1 y h2;omega
  subst hxy
  rw[z7 f l2 r2 fun z=>⟨fun hz=>?_,fun hz=>?_⟩]
  ·rcases vaE.1 ((h z).1 (by simp[hz]))with rfl|hh
   ·exact absurd (l1 z hz) (vbs _)
   ·exact hh
  ·rcases vaE.1 ((h z).2 (by simp[hz]))with rfl|hh
   ·exact absurd (r1 z hz) (vbs _)
   ·exact hh
theorem xY{l:List ah}(h:xK l){x:ah}(hx:x∈l):nz (g7 l) (ix x)=x:=by
 obtain⟨a,b,c,d⟩:=h.1 x hx
 have hw:=rb h hx
 unfold nz
 rw[hw]
 have e1:((ix x / 6:Nat):Int)=x.From:=by unfold ix;omega
 have e2:((ix x % 6:Nat):Int)=x.To:=by unfold ix;omega
 obtain⟨xf,xt,xs⟩:=x
 simp only at e1 e2 ⊢
 rw[e1,e2]
 unfold wt
 cases xs<;>rfl
theorem Av{l:List ah}(h:xK l):sm (g7 l)=l:=by
 refine z7 ix (wv _).2 h.2 fun x=>⟨fun hx=>?_,fun hx=>?_⟩
 ·obtain⟨L,hL,hp,rfl⟩:=ru.1 hx
  obtain⟨y,hy,rfl⟩:=yS hp
  rw[xY h hy];exact hy
 ·refine ru.2 ⟨ix x,Eu (h.1 x hx),?_,(xY h hx).symm⟩
  rw[rb h hx]
  have:=u9 x;omega
def Bq(a b:aa):aa:=⟨a.Caller,b.Callee,sm (vS (g7 a.Arcs) (g7 b.Arcs))⟩
end Go.Proofs.YtoficachfgggjaaDoor
namespace Go.Proofs
open Go.Shelf
noncomputable def Tryd.laysM171_ren : Go.Shelf.Ren := ⟨fun | 171 => 31 | 243 => 54 | 246 => 74 | 283 => 89 | 284 => 90 | 285 => 91 | 286 => 92 | 129 => 84 | 317 => 98 | 318 => 99 | 319 => 100 | 320 => 101 | 337 => 103 | 338 => 104 | n => n, fun | 3 => 3 | 9 => 9 | 2 => 2 | 4 => 4 | 171 => 104 | 0 => 0 | 53 => 99 | 37 => 70 | 5 => 5 | 173 => 106 | 212 => 115 | 51 => 97 | 20 => 20 | 213 => 116 | 46 => 78 | 232 => 120 | 233 => 121 | n => n, fun | 17 => 1 | 18 => 2 | 19 => 3 | n => n⟩
theorem Tryd.laysM171 : Go.Proofs.LaysM.n171 Tryd.prog Tryd.laysM171_ren := {
 mixed := by kernel_rfl
 f129 := Tryd.func84.trans (congrArg some (by kernel_rfl))
 f171 := Tryd.func31.trans (congrArg some (by kernel_rfl))
 f243 := Tryd.func54.trans (congrArg some (by kernel_rfl))
 f246 := Tryd.func74.trans (congrArg some (by kernel_rfl))
 f283 := Tryd.func89.trans (congrArg some (by kernel_rfl))
 f284 := Tryd.func90.trans (congrArg some (by kernel_rfl))
 f285 := Tryd.func91.trans (congrArg some (by kernel_rfl))
 f286 := Tryd.func92.trans (congrArg some (by kernel_rfl))
 f317 := Tryd.func98.trans (congrArg some (by kernel_rfl))
 f318 := Tryd.func99.trans (congrArg some (by kernel_rfl))
 f319 := Tryd.func100.trans (congrArg some (by kernel_rfl))
 f320 := Tryd.func101.trans (congrArg some (by kernel_rfl))
 f337 := Tryd.func103.trans (congrArg some (by kernel_rfl))
 f338 := Tryd.func104.trans (congrArg some (by kernel_rfl))
 t0 := Tryd.underlying0
 a0 := Tryd.isAgg0
 z0 := Tryd.sizeOf0
 v0 := Tryd.zeroValue0
 t2 := Tryd.underlying2
 a2 := Tryd.isAgg2
 z2 := Tryd.sizeOf2
 v2 := Tryd.zeroValue2
 t3 := Tryd.underlying3
 a3 := Tryd.isAgg3
 z3 := Tryd.sizeOf3
 v3 := Tryd.zeroValue3
 t4 := Tryd.underlying4
 a4 := Tryd.isAgg4
 z4 := Tryd.sizeOf4
 v4 := Tryd.zeroValue4
 t5 := Tryd.underlying5
 a5 := Tryd.isAgg5
 z5 := Tryd.sizeOf5
 v5 := Tryd.zeroValue5
 t9 := Tryd.underlying9
 a9 := Tryd.isAgg9
 z9 := Tryd.sizeOf9
 v9 := Tryd.zeroValue9
 t20 := Tryd.underlying20
 a20 := Tryd.isAgg20
 z20 := Tryd.sizeOf20
 v20 := Tryd.zeroValue20
 t37 := Tryd.underlying70
 a37 := Tryd.isAgg70
 z37 := Tryd.sizeOf70
 v37 := Tryd.zeroValue70
 t46 := Tryd.underlying78
 a46 := Tryd.isAgg78
 z46 := Tryd.sizeOf78
 v46 := Tryd.zeroValue78
 t51 := Tryd.underlying97
 a51 := Tryd.isAgg97
 z51 := Tryd.sizeOf97
 v51 := Tryd.zeroValue97
 t53 := Tryd.underlying99
 a53 := Tryd.isAgg99
 z53 := Tryd.sizeOf99
 v53 := Tryd.zeroValue99
 t171 := Tryd.underlying104
 a171 := Tryd.isAgg104
 z171 := Tryd.sizeOf104
 v171 := Tryd.zeroValue104
 t173 := Tryd.underlying106
 a173 := Tryd.isAgg106
 z173 := Tryd.sizeOf106
 v173 := Tryd.zeroValue106
 t212 := Tryd.underlying115
 a212 := Tryd.isAgg115
 z212 := Tryd.sizeOf115
 v212 := Tryd.zeroValue115
 t213 := Tryd.underlying116
 a213 := Tryd.isAgg116
 z213 := Tryd.sizeOf116
 t232 := Tryd.underlying120
 a232 := Tryd.isAgg120
 z232 := Tryd.sizeOf120
 v232 := Tryd.zeroValue120
 t233 := Tryd.underlying121
 a233 := Tryd.isAgg121
 z233 := Tryd.sizeOf121
 v233 := Tryd.zeroValue121
 g17 := by kernel_rfl
 g18 := by kernel_rfl
 g19 := by kernel_rfl
 i0 := by kernel_rfl
 i2 := by kernel_rfl
 i3 := by kernel_rfl
 i4 := by kernel_rfl
 i5 := by kernel_rfl
 i9 := by kernel_rfl
 i20 := by kernel_rfl
 i37 := by kernel_rfl
 i46 := by kernel_rfl
 i51 := by kernel_rfl
 i53 := by kernel_rfl
 i171 := by kernel_rfl
 i173 := by kernel_rfl
 i212 := by kernel_rfl
 i232 := by kernel_rfl
 i233 := by kernel_rfl
 m17 := by kernel_rfl
 m18 := by kernel_rfl
 m19 := by kernel_rfl }
noncomputable def Tryd.lc37_ren : Go.Shelf.Ren := ⟨fun | 41 => 37 | n => n, fun | 22 => 22 | 23 => 43 | 4 => 4 | n => n, fun | n => n⟩
theorem Tryd.lc37 : Go.Proofs.SlLaysE0.n41 Tryd.prog Tryd.lc37_ren := {
 mixed := by kernel_rfl
 f41 := ⟨Tryd.f37.name, by decide, Tryd.func37.trans (congrArg some (by kernel_rfl))⟩
 t4 := Tryd.underlying4
 a4 := Tryd.isAgg4
 z4 := Tryd.sizeOf4
 v4 := Tryd.zeroValue4
 t22 := Tryd.underlying22
 a22 := Tryd.isAgg22
 z22 := Tryd.sizeOf22
 v22 := Tryd.zeroValue22 }
noncomputable def Tryd.sf38_ren : Go.Shelf.Ren := ⟨fun | 6 => 38 | 15 => 57 | 14 => 56 | 28 => 83 | 29 => 84 | 20 => 75 | 21 => 76 | 22 => 77 | 23 => 78 | 24 => 79 | 25 => 80 | 26 => 81 | 27 => 82 | 46 => 93 | 47 => 94 | 48 => 95 | 49 => 96 | 50 => 97 | 57 => 102 | n => n, fun | 22 => 33 | 24 => 24 | 25 => 60 | 3 => 3 | 39 => 78 | 0 => 0 | 53 => 97 | 55 => 99 | 4 => 4 | 46 => 90 | 45 => 89 | 50 => 94 | 5 => 5 | 9 => 9 | 66 => 108 | 70 => 112 | 76 => 117 | 77 => 118 | n => n, fun | n => n⟩
theorem Tryd.sf38 : Go.Proofs.SlLaysF0.n6 Tryd.prog Tryd.sf38_ren := {
 mixed := by kernel_rfl
 f6 := ⟨Tryd.f38.name, by decide, Tryd.func38.trans (congrArg some (by kernel_rfl))⟩
 f14 := ⟨Tryd.f56.name, by decide, Tryd.func56.trans (congrArg some (by kernel_rfl))⟩
 f15 := Tryd.func57.trans (congrArg some (by kernel_rfl))
 f20 := ⟨Tryd.f75.name, by decide, Tryd.func75.trans (congrArg some (by kernel_rfl))⟩
 f21 := ⟨Tryd.f76.name, by decide, Tryd.func76.trans (congrArg some (by kernel_rfl))⟩
 f22 := ⟨Tryd.f77.name, by decide, Tryd.func77.trans (congrArg some (by kernel_rfl))⟩
 f23 := ⟨Tryd.f78.name, by decide, Tryd.func78.trans (congrArg some (by kernel_rfl))⟩
 f24 := ⟨Tryd.f79.name, by decide, Tryd.func79.trans (congrArg some (by kernel_rfl))⟩
 f25 := ⟨Tryd.f80.name, by decide, Tryd.func80.trans (congrArg some (by kernel_rfl))⟩
 f26 := ⟨Tryd.f81.name, by decide, Tryd.func81.trans (congrArg some (by kernel_rfl))⟩
 f27 := ⟨Tryd.f82.name, by decide, Tryd.func82.trans (congrArg some (by kernel_rfl))⟩
 f28 := Tryd.func83.trans (congrArg some (by kernel_rfl))
 f29 := Tryd.func84.trans (congrArg some (by kernel_rfl))
 f46 := ⟨Tryd.f93.name, by decide, Tryd.func93.trans (congrArg some (by kernel_rfl))⟩
 f47 := Tryd.func94.trans (congrArg some (by kernel_rfl))
 f48 := Tryd.func95.trans (congrArg some (by kernel_rfl))
 f49 := ⟨Tryd.f96.name, by decide, Tryd.func96.trans (congrArg some (by kernel_rfl))⟩
 f50 := ⟨Tryd.f97.name, by decide, Tryd.func97.trans (congrArg some (by kernel_rfl))⟩
 f57 := ⟨Tryd.f102.name, by decide, Tryd.func102.trans (congrArg some (by kernel_rfl))⟩
 t0 := Tryd.underlying0
 a0 := Tryd.isAgg0
 z0 := Tryd.sizeOf0
 v0 := Tryd.zeroValue0
 t3 := Tryd.underlying3
 a3 := Tryd.isAgg3
 z3 := Tryd.sizeOf3
 v3 := Tryd.zeroValue3
 t4 := Tryd.underlying4
 a4 := Tryd.isAgg4
 z4 := Tryd.sizeOf4
 v4 := Tryd.zeroValue4
 t5 := Tryd.underlying5
 a5 := Tryd.isAgg5
 z5 := Tryd.sizeOf5
 v5 := Tryd.zeroValue5
 t9 := Tryd.underlying9
 a9 := Tryd.isAgg9
 z9 := Tryd.sizeOf9
 v9 := Tryd.zeroValue9
 t22 := Tryd.underlying33
 a22 := Tryd.isAgg33
 z22 := Tryd.sizeOf33
 v22 := Tryd.zeroValue33
 t25 := Tryd.underlying60
 a25 := Tryd.isAgg60
 z25 := Tryd.sizeOf60
 v25 := Tryd.zeroValue60
 t39 := Tryd.underlying78
 a39 := Tryd.isAgg78
 z39 := Tryd.sizeOf78
 v39 := Tryd.zeroValue78
 t45 := Tryd.underlying89
 a45 := Tryd.isAgg89
 z45 := Tryd.sizeOf89
 v45 := Tryd.zeroValue89
 t46 := Tryd.underlying90
 a46 := Tryd.isAgg90
 z46 := Tryd.sizeOf90
 v46 := Tryd.zeroValue90
 t50 := Tryd.underlying94
 a50 := Tryd.isAgg94
 z50 := Tryd.sizeOf94
 v50 := Tryd.zeroValue94
 t53 := Tryd.underlying97
 a53 := Tryd.isAgg97
 z53 := Tryd.sizeOf97
 v53 := Tryd.zeroValue97
 t55 := Tryd.underlying99
 a55 := Tryd.isAgg99
 z55 := Tryd.sizeOf99
 v55 := Tryd.zeroValue99
 t66 := Tryd.underlying108
 a66 := Tryd.isAgg108
 z66 := Tryd.sizeOf108
 v66 := Tryd.zeroValue108
 t70 := Tryd.underlying112
 a70 := Tryd.isAgg112
 z70 := Tryd.sizeOf112
 v70 := Tryd.zeroValue112
 t76 := Tryd.underlying117
 a76 := Tryd.isAgg117
 z76 := Tryd.sizeOf117
 v76 := Tryd.zeroValue117
 t77 := Tryd.underlying118
 a77 := Tryd.isAgg118
 z77 := Tryd.sizeOf118
 v77 := Tryd.zeroValue118 }
end Go.Proofs
namespace Go.Proofs.YtoficachfgggjaaDoor
open Go Go.Shelf Go.RowKit Go.Lib Go.Sort
set_option linter.unusedSimpArgs false
set_option linter.unusedVariables false
def PVal.kd:PVal->Nat
 |.int _ _=>1
 |.bool _=>2
 |.str _=>3
 |.slice _=>4
 |_=>0
def EV:Value->Nat
 |.int _ _=>1
 |.bool _=>2
 |.string _=>3
 |.slice _ _ _=>4
 |_=>0
theorem VR.kd_eq{Γ:ay}{bs:aC}{w:World}{p:PVal}{v:Value}(h:VR Γ bs w p v)(hp:p.kd≠0):EV v=p.kd:=by
 cases h<;>first|rfl|exact absurd rfl hp
def EF(K:List Nat)(p:PVal):Prop:=p.kd∉K/\(p.kd=1\/p.kd=2\/p.kd=3)
def yl(K:List Nat):PVal->Prop
 |.int _ _=>True
 |.bool _=>True
 |.str _=>True
 |.slice es=>∀e∈es,∀q∈e,EF K q
 |_=>False
theorem VR.scal{Γ Γ':ay}{bs bs':aC}{w w':World}{p:PVal}{v:Value}(h:VR Γ bs w p v)(hp:p.kd=1\/p.kd=2\/p.kd=3):VR Γ' bs' w' p v:=by
 cases h with
 |int k n=>exact .int k n
 |bool b=>exact .bool b
 |str l=>exact .str l
 |_=>exact absurd hp (by simp[PVal.kd])
theorem VR.off_row{K:List Nat}{Γ Γ':ay}{bs bs':aC}{w w':World}{b M:Nat}(hΓ:Γ b=some M)(hrow:∀o,o<M->∃u,w.cell? ⟨b,o,none⟩=some u/\EV u∈K)
  (hle:∀x n,x≠b->Γ x=some n->Γ' x=some n/\∀o,w'.cell? ⟨x,o,none⟩=w.cell? ⟨x,o,none⟩) {p:PVal} {v:Value} (hp:yl K p) (h:VR Γ bs w p v):VR Γ' bs' w' p v:=by
 cases h with
 |int k n=>exact .int k n
 |bool b=>exact .bool b
 |str l=>exact .str l
 |sliceNil=>exact .sliceNil
 |sliceE a cap=>exact .sliceE a cap
 | slice es b' off cap n sz vals h0 hcap hg hn hsz hc hv =>
  cases es with
  |nil=>exact .sliceE _ _
  | cons e0 es =>
   have hlen0:=hsz 0 e0 rfl
   have h00:0<e0.length:=by omega
   have q0:e0[0]? =some e0[0]:=vaa h00
   have hne:b'≠b:=by
    intro hbb
    subst hbb
    rw[hΓ]at hg;cases hg
    have hcell:=hc 0 e0 0 _ rfl q0
    simp only[vcq,Nat.add_zero]at hcell
    obtain⟨u,hu,hk⟩:=hrow off (by
     have:1 * sz<=(e0::es).length * sz:=vaG sz (by simp)
     omega)
    rw[hu]at hcell;cases hcell
    have hs:=hp e0 (by simp) e0[0] (vbm h00)
    have:=VR.kd_eq (hv 0 e0 0 _ rfl q0) (by rcases hs.2 with h|h|h<;>omega)
    rw[this]at hk
    exact hs.1 hk
   obtain⟨g1,g2⟩:=hle b' n hne hg
   refine .slice _ b' off cap n sz vals h0 hcap g1 hn hsz (fun i e k p he hp'=>(g2 _).trans (hc i e k p he hp')) (fun i e k p he hp'=>VR.scal (hv i e k p he hp') ?_)
   exact(hp e (var he) p (var hp')).2
 |undef v=>exact hp.elim
 |val v=>exact hp.elim
 |agg=>exact hp.elim
 |tuple=>exact hp.elim
 |eptrE=>exact hp.elim
 |eptr=>exact hp.elim
 |bptr=>exact hp.elim
 |bsl=>exact hp.elim
 |mapr=>exact hp.elim
 |func=>exact hp.elim
def zO(P:Program)(fs:FuncId)(k:Nat):Prop:=
 (∀vs w,(callFunc fs vs).run P w=.ok (.enter fs vs) w)/\
 (∀(enc:Nat->List Value) (cf:Nat->Nat->Int) (g blk cap:Nat) (d:Array Nat) (w:World),(∀x,(enc x).length=k)->(∀x,∀v∈enc x,v.oneCell'=true)->SWO (ltOf cf)->(∀vs w,(callFunc g vs).run P w=.ok (.enter g vs) w)->
  CmpLays P g #[] enc k cf blk 0 d.size w->HoldsK enc k w blk 0 d->blk<w.heap.size->d.size<4611686018427387904->
  Calls P fs #[.slice (some ⟨blk,0,none⟩) d.size cap,.func (.func g) #[] #[]] w fun e w'=>e=.returned (.tuple #[])/\∃d' n os,PermIn 0 d.size d d'/\SortedIn (ltOf cf) 0 d.size d'/\w'=sortWorldK enc k w blk 0 n d' os)/\
 ∀(p:Option Addr) (cap:Nat) (fv:Value) (w:World),Calls P fs #[.slice p 0 cap,fv] w fun e w'=>e=.returned (.tuple #[])/\w'=w
theorem u4{enc:Nat->List Value}{k b m:Nat}{dk:Array Nat}{os:Array Obj}{w:World}{x:Nat}(hx:x<w.heap.size)(hb:x≠b):(sortWorldK enc k w b 0 m dk os).heap[x]? =w.heap[x]?:=by
 show((putRowK enc k (Sort.ahead w m) b 0 dk).heap++os)[x]? =_
 have hsz:(putRowK enc k (Sort.ahead w m) b 0 dk).heap.size=w.heap.size:=by simp[putRowK,putRow,mapBlock,Sort.ahead]
 rw[vaJ (by rw[hsz];exact hx)]
 show(w.heap.modify b (onCells _))[x]? =_
 rw[vbP,vav (fun e=>hb e.symm)]
theorem u5{enc:Nat->List Value}{k b m:Nat}{dk:Array Nat}{os:Array Obj}{w:World}:w.heap.size<=(sortWorldK enc k w b 0 m dk os).heap.size:=by
 show _<=((putRowK enc k (Sort.ahead w m) b 0 dk).heap++os).size
 have hsz:(putRowK enc k (Sort.ahead w m) b 0 dk).heap.size=w.heap.size:=by simp[putRowK,putRow,mapBlock,Sort.ahead]
 rw[Array.size_append,hsz];omega
theorem AZ{enc:Nat->List Value}{k b m:Nat}{dk:Array Nat}{os:Array Obj}{w:World}{cur:Array Value}{e:TypeId}(hh:w.heap[b]? =some (.cells cur e (0,0))):(sortWorldK enc k w b 0 m dk os).heap[b]? =some (.cells (putCells id 0 (flatK enc k dk) cur) e (0,0)):=by
 have hb:b<w.heap.size:=(vai.1 hh).1
 show((putRowK enc k (Sort.ahead w m) b 0 dk).heap++os)[b]? =_
 have hsz:(putRowK enc k (Sort.ahead w m) b 0 dk).heap.size=w.heap.size:=by simp[putRowK,putRow,mapBlock,Sort.ahead]
 rw[vaJ (by rw[hsz];exact hb)]
 show(w.heap.modify b (onCells _))[b]? =_
 rw[vbP,vas rfl,hh]
 rfl
section
variable{P:Program}{GE:List (Nat×List PVal)}{α:Type}{c:α->List PVal}{ord:α->α->Option Int}
theorem Bp{E:kS}{Γ:ay}{bs:aC}{ow:Nat->Option hU}{w:World}{a:Array Value}{st:al}(h:SR P E Γ bs ow w a st)(hE:zM GE 0 E){K:List Nat}{fo b M k N:Nat}
  (hΓ:Γ b=some M) (hb:E.w.heap.size<=b) (hrow:∀o,o<M->∃u,w.cell? ⟨b,o,none⟩=some u/\EV u∈K)
  (hcc:∀x y r,ord x y=some r->CC P GE fo [.agg (c x),.agg (c y)] (.int .i64 r) []) (hfl:∀x,∀q∈c x,yl K q)
  {enc:Nat->List Value} {el:Nat->α} (hlen:∀i,(enc i).length=(c (el i)).length) (hvr:∀(i j:Nat) q u,(c (el i))[j]? =some q->(enc i)[j]? =some u->VR Γ bs w q u)
  {cf:Nat->Nat->Int} (hcf:∀i j,ord (el i) (el j)=some (cf i j)):CmpLays P fo #[] enc k cf b 0 N w:=by
 intro m os dk hdk x y
 generalize hWe:sortWorldK enc k w b 0 m dk os=W
 have hkeep:∀x,x<w.heap.size->x≠b->W.heap[x]? =w.heap[x]?:=fun x hx hxb=>by rw[<-hWe];exact u4 hx hxb
 have hsz:w.heap.size<=W.heap.size:=by rw[<-hWe];exact u5
 let Γm:ay:=fun x=>if x=b then none else Γ x
 have hm:∀x n,x≠b->Γ x=some n->Γm x=some n/\∀o,W.cell? ⟨x,o,none⟩=w.cell? ⟨x,o,none⟩:=fun x n hx hn=>⟨by show(if x=b then none else Γ x)=_;rw[vav hx];exact hn,fun o=>aD (hkeep x (h.lt_of_ghost hn) hx) o⟩
 have hmr:∀x n,Γm x=some n->x≠b/\Γ x=some n:=fun x n hx=>by
  have hx:(if x=b then none else Γ x)=some n:=hx
  split at hx
  ·cases hx
  ·exact⟨by assumption,hx⟩
 have hagg:∀i,VR Γm [] W (.agg (c (el i))) (.agg (enc i).toArray):=fun i=>.agg _ _ (by simp[hlen]) fun j p v hp hv=>(hvr i j p v hp (by simpa using hv)).off_row hΓ hrow hm (hfl _ _ (var hp))
 have hpre:SR P ⟨GE,Γm,W,bk [] fun _=>none⟩ Γm [] (fun _=>none) W #[.agg (enc x).toArray,.agg (enc y).toArray] ⟨[.agg (c (el x)),.agg (c (el y))],[],[]⟩:={
  wi:=fun x n hx=>by
   obtain⟨h1,h2⟩:=hmr x n hx
   obtain⟨cc,t,fr,k1,k2⟩:=h.wi x n h2
   exact⟨cc,t,fr,(hkeep x (h.lt_of_ghost h2) h1).trans k1,k2⟩
  sz:=rfl
  tm:=fun t p v hp hv=>by
   match t with
   |0=>simp at hp hv;subst hp;subst hv;exact hagg x
   |1=>simp at hp hv;subst hp;subst hv;exact hagg y
   |t+2=>simp at hp
  bl:=rfl
  bx:=fun i b B hb=>by simp at hb
  inj:=fun i j b hb=>by simp at hb
  bn:=fun i b hb=>by simp at hb
  on:=fun b L hL=>by cases hL
  ot:=fun t k e he=>by simp at he
  ob:=fun i j e cs own b hB=>by simp at hB
  gl:=fun g cs hg=>(hE.gl g cs hg).mono (fun x n hx hn=>by
   have hlt:=hE.low x n hx
   obtain⟨n',k1,k2,k3⟩:=h.step.le x n hx hn
   obtain⟨g1,g2⟩:=hm x n' (by omega) k1
   exact⟨n',g1,k2,fun o ho=>(g2 o).trans (k3 o ho)⟩) (.refl _)
  gc:=fun g cs hg=>h.gc g cs (by rw[hE.ge];exact hg)
  gx:=fun g cs hg=>by
   obtain⟨k1,_,_,cc,t,fr,k4,k5⟩:=h.gnow (by rw[hE.ge];exact hg)
   obtain⟨g1,_⟩:=h.gx g cs (by rw[hE.ge];exact hg)
   refine⟨vaB k1 hsz,fun hT=>hT.elim (fun hx=>by obtain⟨i,hi⟩:=hx;simp at hi) (fun hx=>hx rfl),cc,t,fr,(hkeep g k1 (by omega)).trans k4,k5⟩
  step:=.refl _ _ _ _}
 refine((hcc _ _ _ (hcf x y)).2.2 Γm [] (fun _=>none) W _ hpre).mono fun e w' he=>?_
 obtain⟨v,Γ',ow',rfl,hS⟩:=he
 have hv:VR Γ' [] w' (.int .i64 (cf x y)) v:=hS.tm 0 _ _ rfl rfl
 cases hv
 refine⟨rfl,w'.drawn - W.drawn,w'.heap.extract W.heap.size w'.heap.size,?_⟩
 have h1:=hS.step.os
 have h2:=hS.step.tape
 have h3:=hS.step.output
 have h4:=hS.step.size
 have h5:=hS.step.drawn
 have h6:=hS.step.keep
 simp only at h1 h2 h3 h4 h5 h6
 have hT:∀b,¬bk [] (fun _=>none) b:=fun b hb=>by
  rcases hb with⟨i,hi⟩|hb
  ·simp at hi
  ·exact hb rfl
 have hheap:w'.heap=W.heap++w'.heap.extract W.heap.size w'.heap.size:=by
  apply vcA
  intro i
  by_cases hi:i<W.heap.size
  ·rw[vaJ hi,(h6 i hi (hT i)).1]
  ·rw[vbA (by omega)]
   by_cases hi2:i<w'.heap.size
   ·rw[vck]
    rw[vas (by omega)]
    congr 1;omega
   ·rw[vbf (by omega),vbf (by simp;omega)]
 show w'={heap:=W.heap++_,tape:=W.tape,drawn:=W.drawn+(w'.drawn - W.drawn),os:=W.os,output:=W.output}
 rw[<-hheap,show W.drawn+(w'.drawn - W.drawn)=w'.drawn by omega,<-h1,<-h2,<-h3]
end
end Go.Proofs.YtoficachfgggjaaDoor
