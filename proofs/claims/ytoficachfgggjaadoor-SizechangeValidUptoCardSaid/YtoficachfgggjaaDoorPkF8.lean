/- PROVED: a part of the proof. Conditions: none. -/
import Derived.Test.YtoficachfgggjaaDoorPkF7
import Derived.Test.YtoficachfgggjaaDoorPkF3
import Derived.Shelf.SlicesE.Clone
import Derived.Test.YtoficachfgggjaaDoorChecked
import Derived.Test.YtoficachfgggjaaDoorProg
import Derived.Ground.SlgnProg
import Derived.Ground.SlsfProg
import Derived.Shelf.Lays
import Derived.Shelf.LaysM
import Derived.Shelf.SlGeneric
import Derived.Shelf.SlLaysE0
import Derived.Shelf.SlLaysF0
import Derived.Shelf.SlSortCmp.NoneTotal
noncomputable section
namespace Go.Proofs.YtoficachfgggjaaDoor
open Go
theorem pd{k:Nat}{B:ah}:∀{ps qs:List ah} {i:Nat},qs.length<=i->bh k ps qs->bh k (ps.set i B) qs
 |_,[],_,_,_=>by unfold bh;trivial
 |[],_::_,_,_,h=>by simpa using h
 |p::ps,q::qs,0,hi,_=>by simp at hi
 |p::ps,q::qs,i+1,hi,h=>by
  simp only[List.set_cons_succ]
  exact⟨h.1,pd (by simpa using hi) h.2⟩
def uK(P:Program)(rs:List ResultVar)(r:PVal)(ro:List (Nat×TypeId))(H':List ah)(st:aj):Prop:=
 ∃(t:Tmp) (ty:TypeId) (i off:Nat) (cs:List PVal) (own:List (Nat×TypeId)) (l:List PVal),rs=[.cell t ty]/\(∃fs,P.underlying ty=some (.struct fs))/\st.tmps.getD t .undef=.bptr i off/\st.boxes[i]? =some (.cells cs own)/\
  r=.agg l/\be P ty (cs.drop off)=some (.agg l)/\r.cl H'.length/\H'.length<=i/\bh H'.length st.boxes H'/\(∀x∈ro,(off+x.1,x.2)∈own/\x.1<l.length)/\(ro.map (·.1)).Nodup
def BC(P:Program)(rs:List ResultVar)(r:PVal)(ro:List (Nat×TypeId))(H':List ah)(e:Exit)(st:aj):Prop:=
 D6 P rs r ro H' e st\/((e=.normal\/e=.ret)/\uK P rs r ro H' st)
section
variable{P:Program}{E:kF}{Γ:ax}{bs:aB}{ow:Nat->Option gY}{w:World}{a:Array Value}{st:aj}
theorem SR.finishCellG(h:SR P E Γ bs ow w a st){fn:Func}{r:PVal}{ro:List (Nat×TypeId)}{H':List ah}(hr:uK P fn.results.toList r ro H' st):∃v ow',(results fn a).run P w=.ok v w/\SR P E Γ (bs.take H'.length) ow' w #[v] ⟨[r],H',ro.map fun x=>((0,x.1),x.2)⟩:=by
 obtain⟨t,ty,i,off,cs,own,l,hrs,⟨fs,hfs⟩,ht,hB,rfl,hp,hcl,hi,hbl,hro,hnd⟩:=hr
 have hrv:qI P st fn.results.toList=some (.agg l):=by
  rw[hrs]
  show fI P ty (st.tmps.getD t .undef) st.boxes=_
  rw[ht]
  simp only[fI,hB,hp]
 obtain⟨v,e1,e2,_⟩:=qJ h hrv
 have hvt:=h.getD t
 rw[ht]at hvt
 generalize hva:a.getD t undef=vt at hvt
 cases hvt with
 |bptr _ _ b hb=>
 obtain⟨v2,q1,q2,q3⟩:=pJ h hb hB hp
 have hvv:v2=v:=by
  have hres:fn.results=#[.cell t ty]:=by
   have:fn.results=fn.results.toList.toArray:=by simp
   rw[this,hrs]
  have hrun:(results fn a).run P w=.ok v2 w:=by
   simp[results,hres,asAddr]
   have hva':a[t]?.getD undef=.pointer (some ⟨b,off,none⟩):=by rw[<-vat];exact hva
   rw[hva']
   simp[q1]
  rw[e1]at hrun
  cases hrun
  rfl
 subst hvv
 have g1:=h.pushed e2
 obtain⟨ow',g2⟩:=SR.takeOwns (off:=off) (d:=a.size) (u:=v2) hb (by simp) ro g1 hB (fun x hx=>(hro x hx).1) hnd fun x hx=>by
  have:=q3 ⟨_,hfs,trivial⟩ x.1 (hro x hx).2
  obtain⟨v',z1,_⟩:=h.ob i (off+x.1) x.2 cs own b hB (hro x hx).1 hb
  exact⟨v',this.trans z1,z1⟩
 refine⟨v2,rQ (fun k=>(a.size,k)) ro ow',e1,?_⟩
 exact g2.finish (H':=H') (src:=fun k=>(a.size,k)) (ro:=ro) e2 hcl (pd hi hbl) (fun x hx=>⟨vaW _ (vbR.2 (vap.2 ⟨x,hx,rfl⟩)),fun u v' hu hv'=>by simp at hu;subst hu;exact hv'⟩) (fun x _ y _ e=>by simpa using e)
end
theorem C.ofSatG{P:Program}{GE:List (Nat×List PVal)}{m:Nat}{f:FuncId}{fn:Func}{c:Code}{args:List PVal}{oa:List ((Nat×Nat)×TypeId)}{H:List ah}{r:PVal}{ro:List (Nat×TypeId)}{H':List ah}(hm:m % 1000=H.length)(hm0:m≠0)
  (hcall:∀vs w,(callFunc f vs).run P w=.ok (.enter f vs) w) (hfn:P.funcs[f]? =some fn) (hb:fn.body=some c) (hH:H'.length=H.length)
  (hp:aE P GE m c (BC P fn.results.toList r ro H') ⟨args++List.replicate (fn.ntmps - args.length) .undef,H,oa⟩):C P GE f args oa H r ro H':=by
 refine⟨hcall,fun Γ bs ow w vs h=>calls_of_wp hfn hb ?_⟩
 have hbl:bs.length=H.length:=h.bl
 have h0:SR P ⟨GE,Γ,w,bg bs ow⟩ Γ bs ow w (vs++Array.replicate (fn.ntmps - vs.size) undef) ⟨args++List.replicate (fn.ntmps - args.length) .undef,H,oa⟩:=by
  have hsz:vs.size=args.length:=h.sz
  exact{h with
   sz:=by simp[hsz]
   tm:=fun t p v hp hv=>by
    simp only at hp
    by_cases ht:t<args.length
    ·rw[vad ht]at hp
     rw[vaH (by omega)]at hv
     exact h.tm t p v hp hv
    ·rw[vaf (by omega),vaN]at hp
     split at hp<;>cases hp
     exact .undef v
   ot:=fun t k e he=>by
    obtain⟨u,v,h1,h2⟩:=h.ot t k e he
    exact⟨u,v,by rw[vaH (vai.1 h1).1];exact h1,h2⟩}
 have hE:zj GE m ⟨GE,Γ,w,bg bs ow⟩:={
  ge:=rfl
  low:=fun b n hb=>h.lt_of_ghost hb
  nt:=fun h0=>absurd h0 hm0
  gl:=fun g cs hg=>(h.gl g cs hg).restrict (n:=0) (by simp only[PVal.cl];exact h.gc g cs hg) (fun i b hi _=>absurd hi (vaY _))}
 have hwp:=hp none ⟨GE,Γ,w,bg bs ow⟩ bs ⟨vs++Array.replicate (fn.ntmps - vs.size) undef,[]⟩ w hE (by rw[hbl,hm]) ⟨Γ,bs,ow,h0,fun i _=>rfl⟩
 refine wp_mono hwp fun e a w' hq=>?_
 obtain⟨hd,st,⟨Γ1,bs1,ow1,hS,hk⟩,hQ⟩:=hq
 have htake:H'.length<=bs1.length->bs1.take H'.length=bs:=by
  intro hl1
  refine va7 fun i=>?_
  by_cases hi:i<H'.length
  ·rw[vau hi];exact hk i (by omega)
  ·rw[List.getElem?_take_eq_none (by omega),vaz (by omega)]
 have hlen:∀{B:List ah},bh H'.length B H'->B.length=bs1.length->H'.length<=bs1.length:=fun hB he=>by
  obtain⟨hl,_⟩:=iQ hB;omega
 have key:(qI P st fn.results.toList=some r/\r.cl H'.length/\bh H'.length st.boxes H'/\(∀x∈ro,(bU fn.results.toList x.1,x.2)∈st.own/\jb st fn.results.toList x.1)/\
   (∀x∈ro,∀y∈ro,bU fn.results.toList x.1=bU fn.results.toList y.1->x.1=y.1))->
   a.defers=[]/\∃v,(results fn a.tmps).run P w'=.ok v w'/\∃v' Γ' ow',Ending.returned v=.returned v'/\SR P ⟨GE,Γ,w,bg bs ow⟩ Γ' bs ow' w' #[v'] ⟨[r],H',ro.map fun x=>((0,x.1),x.2)⟩:=by
  rintro⟨k1,k2,k3,k4,k5⟩
  obtain⟨v,e1,e2,e3⟩:=qJ hS k1
  refine⟨hd,v,e1,v,Γ1,rQ (bU fn.results.toList) ro ow1,rfl,?_⟩
  have hf:=hS.finish (H':=H') (src:=bU fn.results.toList) (ro:=ro) e2 k2 k3 (fun x hx=>⟨(k4 x hx).1,fun u v'=>e3 x.1 u v' (k4 x hx).2⟩) k5
  rw[htake (hlen k3 hS.bl.symm)]at hf
  exact hf
 have key2:uK P fn.results.toList r ro H' st->
   a.defers=[]/\∃v,(results fn a.tmps).run P w'=.ok v w'/\∃v' Γ' ow',Ending.returned v=.returned v'/\SR P ⟨GE,Γ,w,bg bs ow⟩ Γ' bs ow' w' #[v'] ⟨[r],H',ro.map fun x=>((0,x.1),x.2)⟩:=by
  intro hc
  obtain⟨v,ow',e1,e2⟩:=hS.finishCellG hc
  obtain⟨_,_,_,_,_,_,_,_,_,_,_,_,_,_,_,hbl2,_,_⟩:=hc
  rw[htake (hlen hbl2 hS.bl.symm)]at e2
  exact⟨hd,v,e1,v,Γ1,ow',rfl,e2⟩
 rcases hQ with hQ|⟨he,hQ⟩
 ·cases e with
  |normal=>exact key hQ
  |ret=>exact key hQ
  |exit id=>exact hQ.elim
  |goto l=>exact hQ.elim
  |panic c=>exact hQ.elim
  |outgrown=>exact hQ.elim
 ·rcases he with rfl|rfl
  ·exact key2 hQ
  ·exact key2 hQ
def yn(P:Program)(rs:List ResultVar)(ro:List (Nat×TypeId))(n:Nat)(st:aj):Bool:=match rs with
 | [.cell t ty] => match P.underlying ty with
  | some (.struct _) => match st.tmps.getD t .undef with
   |.bptr i off=>decide (n<=i)&&match st.boxes[i]? with
    |some (.cells _ own)=>ro.all (fun x=>decide ((off+x.1,x.2)∈own)&&decide (x.1<P.cellsOf ty))&&kq (ro.map (·.1))
    |_=>false
   |_=>false
  |_=>false
 |_=>false
def AH(P:Program)(rs:List ResultVar)(r:PVal)(ro:List (Nat×TypeId))(H':List ah)(st:aj):Prop:=match oU rs ro st with
 |true=>match qI P st rs with
  |some p=>p=r/\r.cl H'.length/\xp (st.boxes.take H'.length) H'=H'/\wG H'.length H'
  |none=>False
 | false => match yn P rs ro H'.length st with
  |true=>match qI P st rs with
   |some p=>p=r/\r.cl H'.length/\xp (st.boxes.take H'.length) H'=H'/\wG H'.length H'/\r.isAgg=true
   |none=>False
  |false=>False
def Du(P:Program)(rs:List ResultVar)(r:PVal)(ro:List (Nat×TypeId))(H':List ah):Exit->List It->aj->Prop:=fun e _ st=>match e with
 |.normal=>AH P rs r ro H' st
 |.ret=>AH P rs r ro H' st
 |_=>False
theorem xf{rs:List ResultVar}{ro:List (Nat×TypeId)}{st:aj}(hc:oU rs ro st=true):(∀x∈ro,(bU rs x.1,x.2)∈st.own/\jb st rs x.1)/\(∀x∈ro,∀y∈ro,bU rs x.1=bU rs y.1->x.1=y.1):=by
 have:=uM (r:=.undef) (P:=default) (rs:=rs) (ro:=ro) (st:=⟨st.tmps,st.boxes,st.own⟩) hc
 by_cases hr:qI default st rs=some .undef
 ·exact(this hr trivial).2.2.2
 ·clear this
  unfold oU at hc
  rw[vac]at hc
  obtain⟨c1,c2⟩:=hc
  refine⟨fun x hx=>?_,fun x hx y hy hxy=>?_⟩
  ·have:=vao.1 c1 x hx
   rw[vac]at this
   refine⟨by simpa using this.1,?_⟩
   have h2:=this.2
   clear this c1 c2 hr
   rcases rs with _|⟨y,_|⟨z,rs⟩⟩
   ·simp at h2
   ·cases y with
    |tmp t=>trivial
    |cell t ty=>cases h2
   ·have key:∀o:Option ResultVar,(match o with
     |some (.tmp t)=>(st.tmps.getD t .undef).isSlice
     |_=>false)=true->(match o with
     |some (.tmp t)=>(st.tmps.getD t .undef).isSlice=true
     |_=>False):=by
     intro o
     cases o with
     |none=>intro h;cases h
     |some q=>cases q<;>intro h<;>first|exact h|cases h
    cases y with
    |tmp t=>exact key _ h2
    |cell t ty=>exact key _ h2
  ·have:=vao.1 (vao.1 c2 x hx) y hy
   simpa[hxy]using this
theorem AH.to{P:Program}{rs:List ResultVar}{r:PVal}{ro:List (Nat×TypeId)}{H':List ah}{st:aj}{e:Exit}(he:e=.normal\/e=.ret)(h:AH P rs r ro H' st):BC P rs r ro H' e st:=by
 unfold AH at h
 split at h
 ·rename_i hc
  split at h
  ·rename_i p hp
   obtain⟨rfl,hcl,hfg,hcb⟩:=h
   obtain⟨s1,s2⟩:=xf hc
   have:qI P st rs=some p/\p.cl H'.length/\bh H'.length st.boxes H'/\_/\_:=⟨hp,hcl,ql hfg hcb,s1,s2⟩
   rcases he with rfl|rfl<;>exact .inl this
  ·exact h.elim
 ·split at h
  ·rename_i hc
   split at h
   ·rename_i p hp
    obtain⟨rfl,hcl,hfg,hcb,hagg⟩:=h
    refine .inr ⟨he,?_⟩
    unfold yn at hc
    split at hc
    ·rename_i t ty _
     split at hc
     ·rename_i fs hfs
      split at hc
      ·rename_i i off ht
       rw[vac,vah]at hc
       obtain⟨hi,hc⟩:=hc
       split at hc
       ·rename_i cs own hB
        rw[vac]at hc
        obtain⟨c1,c2⟩:=hc
        have hpl:be P ty (cs.drop off)=some p:=by
         have hp':fI P ty (st.tmps.getD t .undef) st.boxes=some p:=hp
         rw[ht]at hp'
         simpa only[fI,hB]using hp'
        cases p<;>simp only[PVal.isAgg]at hagg<;>first|(cases hagg;done)|skip
        rename_i l
        have hlen:l.length=P.cellsOf ty:=by
         have hq:=hpl
         unfold be at hq
         rw[hfs]at hq
         simp only at hq
         split at hq
         ·rename_i hh;cases hq;rw[va4];omega
         ·cases hq
        refine⟨t,ty,i,off,cs,own,l,rfl,⟨fs,hfs⟩,ht,hB,rfl,hpl,hcl,hi,ql hfg hcb,fun x hx=>?_,gJ c2⟩
        have:=vao.1 c1 x hx
        simp only[vac,vah]at this
        exact⟨this.1,by rw[hlen];exact this.2⟩
       ·cases hc
      ·cases hc
     ·cases hc
    ·cases hc
   ·exact h.elim
  ·exact h.elim
theorem Du.to{P:Program}{rs:List ResultVar}{r:PVal}{ro:List (Nat×TypeId)}{H':List ah}{e:Exit}{sc:List It}{st:aj}(h:Du P rs r ro H' e sc st):BC P rs r ro H' e st:=by
 unfold Du at h
 split at h
 ·exact h.to (.inl rfl)
 ·exact h.to (.inr rfl)
 ·exact h.elim
theorem C.evG{P:Program}{GE:List (Nat×List PVal)}{A:List Nat}(hf:P.follows .mixedOrders=true){m:Nat}{f:FuncId}{fn:Func}{c:Code}{args:List PVal}{oa:List ((Nat×Nat)×TypeId)}{H:List ah}{r:PVal}{ro:List (Nat×TypeId)}{H':List ah}
  (hm:decide (m % 1000=H.length)&&decide (m≠0)&&decide (H'.length=H.length)=true) (hcall:∀vs w,(callFunc f vs).run P w=.ok (.enter f vs) w) (hfn:P.funcs[f]? =some fn) (hb:fn.body=some c) (sc:List It)
  (h:mt P GE A m c sc ⟨args++List.replicate (fn.ntmps - args.length) .undef,H,oa⟩ (Du P fn.results.toList r ro H')):C P GE f args oa H r ro H':=by
 simp only[vac,vah]at hm
 exact C.ofSatG hm.1.1 hm.1.2 hcall hfn hb hm.2 ((dj hf c sc _ _ h).imp fun e st hx=>by obtain⟨sc',hx⟩:=hx;exact hx.to)
theorem rT:true=true:=rfl
theorem rL(l:List ah):l=l:=rfl
theorem rB(B:ah):B=B:=rfl
theorem rW(l:List (Nat×TypeId)):l=l:=rfl
theorem rM(l:List (PVal×PVal)):l=l:=rfl
theorem xR(ρ:List Nat)(p:PVal)(h:p.cl 0):pQ ρ p p:=.refl p h
theorem xB(ρ:List Nat)(i j off:Nat)(h:ρ[i]? =some j):pQ ρ (.bptr j off) (.bptr i off):=.bptr i j off h
theorem xM(ρ:List Nat)(i j:Nat)(h:ρ[i]? =some j):pQ ρ (.mapr j) (.mapr i):=.mapr i j h
theorem rJ{a a':PVal}{l l':List PVal}(h:a=a')(h':l=l'):a::l=a'::l':=by rw[h,h']
open Go Go.Shelf Go.RowKit Go.Lib
variable{P:Program}{ρ:Ren}
theorem wF{w:World}(base:Nat)(t ty e:TypeId)(i:TypeInfo)(z:Value)(ht:P.underlying t=some (.slice e))(hi:P.info? e=some i)(hz:i.zero=some z)
  (v:Value) (n:Nat) (xs:List Value) (hown:w.ownsRow base e i.size v n xs)
  (a:Addr) (m c:Nat) (news:List Value) (hl:news.length=m * i.size) (hnews:∀j u,news[j]? =some u->w.cell? (a.add j)=some u) (h1:∀u∈news,u.oneCell'=true)
  (h63:n+m<=maxLen) (hbytes:(n+m) * i.bytes<=140737488355328) {v':Value} {w':World} (hr:(Builtin.append_ #[t,t] ty #[v,.slice (some a) m c]).run P w=.ok v' w'):w.drawn<=w'.drawn:=by
 have hsmall:n+m<=9223372036854775807:=by simp only[maxLen]at h63;omega
 rcases hown.2 with⟨rfl,rfl⟩|⟨g,cap,cur,rfl,hbg,hg,hnc,hcm,hcs,htake⟩
 ·by_cases hm:m=0
  ·subst hm
   have hn:news=[]:=van (by simpa using hl)
   subst hn
   have:(Builtin.append_ #[t,t] ty #[.slice none 0 0,.slice (some a) 0 c]).run P w=.ok (.slice none 0 0) w:=by
    simp[Builtin.append_,run_underlying ht,Go.sizeOf,typeInfo,hi,Builtin.lenOf,Builtin.firstCells,loadCells,loadCellsFrom]
   rw[this]at hr;cases hr;exact vam _
  ·rw[run_append_nil (P:=P) w t ty e i z ht hi hz a m c news hl hnews (by omega) (by omega) (by have hb:=hbytes;simp only[vaB]at hb;omega)]at hr
   cases hr;exact vcu _
 ·by_cases hroom:n+m<=cap
  ·have hfit:n * i.size+news.length<=cur.size:=by rw[hl,hcs,<-vaX];exact vaE _ hroom
   rw[run_append_room (P:=P) w t ty e i ht hi g n cap cur hg a m c news hl hnews h1 hroom hfit]at hr
   cases hr;exact vam _
  ·have holds:∀j u,xs[j]? =some u->w.cell? ((⟨g,0,none⟩:Addr).add j)=some u:=hown.cells (g:=g) rfl
   rw[run_append_grow (P:=P) w t ty e i z ht hi hz ⟨g,0,none⟩ n cap xs hown.1 holds a m c news hl hnews (by omega) (by omega) (growslice_fits (by omega) hbytes)]at hr
   cases hr;exact vcu _
theorem uV(w:World){o:Oper}{a:Act}{K:Act->World->Prop}{Q:Exit->Act->World->Prop}(s x:Operand)(t:TypeId)
  (ho:o.op=.call {callee:=.builtin .append,args:=#[s,x],argTypes:=#[t,t]})
  (base:Nat) (e:TypeId) (i:TypeInfo) (z:Value) (size bytes:Nat) (ht:P.underlying t=some (.slice e)) (hi:P.info? e=some i) (hz:i.zero=some z)
  (hsize:i.size=size) (hby:i.bytes=bytes) (hzs:z.cells.size=size) (hsz:0<size)
  (v:Value) (n:Nat) (xs:List Value) (hs:a.eval s=v) (hown:w.ownsRow base e size v n xs)
  (ad:Addr) (m c:Nat) (news:List Value) (hx:a.eval x=.slice (some ad) m c) (hl:news.length=m * size) (hnews:∀j u,news[j]? =some u->w.cell? (ad.add j)=some u) (h1:∀u∈news,u.oneCell'=true)
  (h63:n+m<=maxLen) (hbytes:(n+m) * bytes<=140737488355328) (hbase:base<=w.heap.size)
  (h:∀v' w',w'.ownsRow base e size v' (n+m) (xs++news)->w.grownBy w' v.ownBlock->w.drawn<=w'.drawn->K (a.put o.dst v') w'):o.wp P a w K Q:=by
 obtain⟨v',w',hr,h2,h3,_⟩:=run_append_own (P:=P) w base t o.type e i z size bytes ht hi hz hsize hby hzs hsz v n xs hown ad m c news hl hnews h1 h63 hbytes hbase
 subst hsize
 subst hby
 have hd:=wF (P:=P) base t o.type e i z ht hi hz v n xs hown ad m c news hl hnews h1 h63 hbytes hr
 unfold Oper.wp execOp
 simp only[ho,resolve,invoke,builtin,Sem.run_bind,Sem.run_pure,Result.andThen_ok,List.map_toArray,vaU,vcC,hs,hx,hr]
 exact h v' w' h2 h3 hd
theorem kE(w:World){ops:Array Oper}{rest:List Oper}{o:Oper}{a:Act}{Q:Exit->Act->World->Prop}(hgd:o.guard=none)(s x:Operand)(t:TypeId)
  (ho:o.op=.call {callee:=.builtin .append,args:=#[s,x],argTypes:=#[t,t]})
  (base:Nat) (e:TypeId) (i:TypeInfo) (z:Value) (size bytes:Nat) (ht:P.underlying t=some (.slice e)) (hi:P.info? e=some i) (hz:i.zero=some z)
  (hsize:i.size=size) (hby:i.bytes=bytes) (hzs:z.cells.size=size) (hsz:0<size)
  (v:Value) (n:Nat) (xs:List Value) (hs:a.eval s=v) (hown:w.ownsRow base e size v n xs)
  (ad:Addr) (m c:Nat) (news:List Value) (hx:a.eval x=.slice (some ad) m c) (hl:news.length=m * size) (hnews:∀j u,news[j]? =some u->w.cell? (ad.add j)=some u) (h1:∀u∈news,u.oneCell'=true)
  (h63:n+m<=maxLen) (hbytes:(n+m) * bytes<=140737488355328) (hbase:base<=w.heap.size)
  (h:∀v' w',w'.ownsRow base e size v' (n+m) (xs++news)->w.grownBy w' v.ownBlock->w.drawn<=w'.drawn->wpList P ops Q rest (a.put o.dst v') w'):wpList P ops Q (o::rest) a w:=
 wpList_plain hgd fun _ hK=>uV w s x t ho base e i z size bytes ht hi hz hsize hby hzs hsz v n xs hs hown ad m c news hx hl hnews h1 h63 hbytes hbase fun v' w' h2 h3 h4=>hK _ _ (h v' w' h2 h3 h4)
set_option maxHeartbeats 2000000 in
set_option maxRecDepth 100000 in
theorem yI(L:SlLaysE0.n41 P ρ)(i0:TypeInfo)(z:Value)(size bytes:Nat)(hi:P.info? (ρ.t 23)=some i0)(hz0:i0.zero=some z)(hz1:i0.size=size)(hz2:i0.bytes=bytes)(hzs:z.cells.size=size)(hsz:0<size)
  (z23:∀w,(Go.sizeOf (ρ.t 23)).run P w=.ok size w) (b off n c:Nat) (news:List Value) (w:World) (hl:news.length=n * size) (hn:n<=maxLen) (hbig:n * bytes<=140737488355328)
  (hc:∀j u,news[j]? =some u->w.cell? ⟨b,off+j,none⟩=some u) (h1:∀u∈news,u.oneCell'=true):
  Calls P (ρ.f 41) #[.slice (some ⟨b,off,none⟩) n c] w fun e w'=>∃v',e=.returned v'/\w'.ownsRow w.heap.size (ρ.t 23) size v' n news/\(Below w.heap.size w w'/\w.drawn<=w'.drawn):=by
 have mixed:=L.mixed;have t4:=L.t4;have a4:=L.a4;have z4:=L.z4;have v4:=L.v4;have t22:=L.t22;have a22:=L.a22;have z22:=L.z22;have v22:=L.v22
 have q22:∀(w:World) (a:Option Addr) (n c n' c':Nat),(binOp .eql (ρ.t 22) (.slice a n c) (.slice none n' c')).run P w=.ok (.bool a.isNone) w:=fun w a n c n' c'=>Lib.run_eql_slice_nil w _ _ a n c n' c' L.t22
 have u22:∀w,Sem.run P (underlying (ρ.t 22)) w=.ok (TypeDesc.slice (ρ.t 23)) w:=run_underlying t22
 have A:Aside (∀j u,news[j]? =some u->w.cell? ⟨b,off+j,none⟩=some u):=hc
 clear hc
 obtain⟨_,_,FG⟩:=L.f41
 go_enter FG,SlBodyN.n41_ntmps ρ
 go_wp2_with (at_builtin;refine kE _ rfl _ _ (ρ.t 22) rfl w.heap.size (ρ.t 23) i0 z size bytes t22 hi hz0 hz1 hz2 hzs hsz _ _ _ rfl (World.ownsRow_made w #[] 0 (vam _) (vaF _) (by simp)) ⟨b,off,none⟩ n c news rfl ?qc1 ?qc2 ?qc3 ?qc4 ?qc5 ?qc6 ?_)
 case qc1=>exact hl
 case qc2=>
  intro j u hj
  rw[Addr.add_lit]
  exact Lib.cell?_alloc_some _ (A.out j u hj)
 case qc3=>exact h1
 case qc4=>rw[vaB];exact hn
 case qc5=>rw[vaB];exact hbig
 case qc6=>simp
 intro v' w1 hown hgrow hdr
 go_wp2
 go_ret
 refine⟨v',rfl,by simpa using hown,?_,hdr⟩
 exact((Below.refl _ w).alloc (vam _) _).grown hgrow (by simp) (by intro k hk;simp[Value.ownBlock]at hk;omega)
set_option maxHeartbeats 2000000 in
set_option maxRecDepth 100000 in
theorem xG(L:SlLaysE0.n41 P ρ)(i0:TypeInfo)(z:Value)(hi:P.info? (ρ.t 23)=some i0)(hz0:i0.zero=some z)(hzs:z.cells.size=i0.size)(hsz:0<i0.size)
  (z23:∀w,(Go.sizeOf (ρ.t 23)).run P w=.ok i0.size w) (ad:Addr) (c:Nat) (w:World):
  Calls P (ρ.f 41) #[.slice (some ad) 0 c] w fun r w'=>∃v',r=.returned v'/\w'.ownsRow w.heap.size (ρ.t 23) i0.size v' 0 []/\(Below w.heap.size w w'/\w.drawn<=w'.drawn):=by
 have mixed:=L.mixed;have t4:=L.t4;have a4:=L.a4;have z4:=L.z4;have v4:=L.v4;have t22:=L.t22;have a22:=L.a22;have z22:=L.z22;have v22:=L.v22
 have q22:∀(w:World) (a:Option Addr) (n c n' c':Nat),(binOp .eql (ρ.t 22) (.slice a n c) (.slice none n' c')).run P w=.ok (.bool a.isNone) w:=fun w a n c n' c'=>Lib.run_eql_slice_nil w _ _ a n c n' c' L.t22
 have u22:∀w,Sem.run P (underlying (ρ.t 22)) w=.ok (TypeDesc.slice (ρ.t 23)) w:=run_underlying t22
 obtain⟨_,_,FG⟩:=L.f41
 go_enter FG,SlBodyN.n41_ntmps ρ
 go_wp2_with (at_builtin;refine kE _ rfl _ _ (ρ.t 22) rfl w.heap.size (ρ.t 23) i0 z i0.size i0.bytes t22 hi hz0 rfl rfl hzs hsz _ _ _ rfl (World.ownsRow_made w #[] 0 (vam _) (vaF _) (by simp)) ad 0 c [] rfl (by simp) (by simp) (by simp) (by simp) (by simp) (by simp) ?_)
 intro v' w1 hown hgrow hdr
 go_wp2
 go_ret
 exact⟨v',rfl,by simpa using hown,((Below.refl _ w).alloc (vam _) _).grown hgrow (by simp) (by intro k hk;simp[Value.ownBlock]at hk;omega),hdr⟩
theorem zZ(L:SlLaysE0.n41 P ρ)(i0:TypeInfo)(z:Value)(hi:P.info? (ρ.t 23)=some i0)(hz0:i0.zero=some z)(hzs:z.cells.size=i0.size)(hsz:0<i0.size)(hby:i0.bytes<=65536)
  (hcall:∀vs w,(callFunc (ρ.f 41) vs).run P w=.ok (.enter (ρ.f 41) vs) w):j6 P (ρ.f 41) (ρ.t 23):=by
 have hc:P.cellsOf (ρ.t 23)=i0.size:=by simp[Program.cellsOf,hi]
 have z23:∀w,(Go.sizeOf (ρ.t 23)).run P w=.ok i0.size w:=fun w=>by rw[<-hc];exact run_sizeOf w hi
 refine⟨hcall,fun w x n news hx hl h1 hn=>?_⟩
 rw[hc]at hl ⊢
 rcases hx with⟨rfl,rfl⟩|⟨a,c,rfl,hcell⟩
 ·have hnews:news=[]:=van (by simpa using hl)
  subst hnews
  refine(AnyE.slices_Clone_nil L 0 0 w).mono fun r w' hr=>?_
  obtain⟨rfl,rfl⟩:=hr
  exact⟨_,rfl,World.ownsRow_nil _ _ _ _,Below.refl _ _,vam _⟩
 ·by_cases h0:n=0
  ·subst h0
   have hnews:news=[]:=van (by simpa using hl)
   subst hnews
   exact xG L i0 z hi hz0 hzs hsz z23 a c w
  ·have hpos:0<news.length:=by rw[hl];exact vcF (Nat.pos_of_ne_zero h0) hsz
   have hsp:a.spot=none:=by
    have hk:=hcell 0 _ (vaa hpos)
    unfold Addr.add at hk
    simp only[if_true]at hk
    unfold World.cell? at hk
    split at hk
    ·split at hk
     ·cases hk
     ·rename_i hs;simpa using hs
    ·cases hk
   obtain⟨b,off,sp⟩:=a
   simp only at hsp
   subst hsp
   refine yI L i0 z i0.size i0.bytes hi hz0 rfl rfl hzs hsz z23 b off n c news w hl (by unfold maxLen;unfold dB at hn;omega) ?_ (fun j u hj=>by rw[<-Addr.add_lit];exact hcell j u hj) h1
   have:n * i0.bytes<=1073741824 * 65536:=vct (by unfold dB at hn;omega) hby
   omega
theorem zY(L:SlLaysE0.n41 P ρ){f:FuncId}{e:TypeId}(hf:ρ.f 41=f)(he:ρ.t 23=e)(hq:(P.info? e).any (fun i=>(i.zero.any fun z=>z.cells.size==i.size)&&decide (0<i.size)&&decide (i.bytes<=65536))=true)
  (hcall:∀vs w,(callFunc f vs).run P w=.ok (.enter f vs) w):j6 P f e:=by
 subst hf;subst he
 cases hi:P.info? (ρ.t 23)with
 |none=>rw[hi]at hq;cases hq
 | some i0 =>
  rw[hi]at hq
  simp only[Option.any_some,vac,vah]at hq
  obtain⟨⟨h1,h2⟩,h3⟩:=hq
  cases hz:i0.zero with
  |none=>rw[hz]at h1;cases h1
  |some z=>
   rw[hz]at h1
   simp only[Option.any_some,vaJ]at h1
   exact zZ L i0 z hi hz h1 h2 h3 hcall
end Go.Proofs.YtoficachfgggjaaDoor
namespace Go.Proofs.YtoficachfgggjaaDoor
open Go
def tQ{α:Type}(l:List α):Option (List α):=if l.length<=dB then some l else none
section
variable{P:Program}{GE:List (Nat×List PVal)}{T e:TypeId}{α:Type}{c:α->List PVal}
theorem xF{l r:List α}(h:tQ l=some r):l.length<=dB/\r=l:=by
 unfold tQ at h
 split at h
 ·rename_i hl;cases h;exact⟨hl,rfl⟩
 ·cases h
theorem uW.mapOk(s:uW P T e c)(l:List α):∀x∈l.map c,x.length=P.cellsOf e/\∀q∈x,q.one=true:=fun x hx=>by
 obtain⟨y,_,rfl⟩:=vap.1 hx
 exact⟨s.hc y,s.ho y⟩
theorem uW.cloneCC(s:uW P T e c){f:FuncId}(hC:j6 P f e){l r:List α}(h:tQ l=some r):CC P GE f [sl c l] (sl c r) [(0,e)]:=by
 obtain⟨hl,rfl⟩:=xF h
 exact CC.clone hC ⟨aK s.cl r,trivial⟩ s.hp (s.mapOk r) (by simpa using hl)
end
def PS(_:List It)(F:Prop):Prop:=F
section
variable{sc:List It}{F X Y:Prop}
theorem en(h:F):PS [] F:=h
theorem sv{o:Option PVal}{p:PVal}(h:o=some p)(r:PS sc F):PS (.v p::sc) (o=some p/\F):=⟨h,r⟩
theorem eG{o:List ah->Option PVal}{p:PVal}(h:∀H,o H=some p)(r:PS sc F):PS (.v p::sc) ((∀H,o H=some p)/\F):=⟨h,r⟩
theorem sx{o:Option (List PVal)}{l:List PVal}(h:o=some l)(r:PS sc F):PS (.x l::sc) (o=some l/\F):=⟨h,r⟩
theorem se{o:Option (List PVal)}{l:List PVal}(h:o=some l)(r:PS sc F):PS (.e l::sc) (o=some l/\F):=⟨h,r⟩
theorem sg(n:Nat){x b:Bool}(h:x=b)(r:PS sc F):PS (.g n b::sc) (x=b/\F):=⟨h,r⟩
theorem sk(r:PS sc F):PS (.k::sc) F:=r
theorem ss(r:PS sc F):PS (.s::sc) F:=r
theorem bY{P:Program}{GE:List (Nat×List PVal)}{g:FuncId}{vs:List PVal}{p:PVal}{ro:List (Nat×TypeId)}(h:CC P GE g vs p ro)(r:PS sc F):PS (.c p ro::sc) (CC P GE g vs p ro/\F):=⟨h,r⟩
theorem sb{P:Program}{T:TypeId}{ps:List (Nat×PVal)}{p:PVal}{L:List (Nat×TypeId)}(h:ec P T ps=some p)(h':xa P T ps L)(r:PS sc F):PS (.b p L::sc) (ec P T ps=some p/\xa P T ps L/\F):=⟨h,h',r⟩
theorem sy{l vs:List PVal}(h:l=vs)(r:PS sc F):PS (.y vs::sc) (l=vs/\F):=⟨h,r⟩
theorem sz{o:Option PVal}{l:List PVal}(h:o=some (.agg l))(r:PS sc F):PS (.z l::sc) (o=some (.agg l)/\F):=⟨h,r⟩
theorem xi(an:List Nat)(r:PS sc F):PS (.dr an::sc) F:=r
theorem oX(n:Nat)(r:PS sc F):PS (.pa n::sc) F:=r
theorem dz{P:Program}{GE:List (Nat×List PVal)}{m:Nat}{c:Code}{e:Exit}{s0 s1:aj}(h:aE P GE m c (EX e s1) s0)(r:PS sc F):PS (.pc s0 e s1::sc) ((s0.tmps=s0.tmps/\s0.boxes=s0.boxes/\true=true)/\aE P GE m c (EX e s1) s0/\F):=⟨fr s0,h,r⟩
theorem Ea(i:It)(r:PS sc F):PS (i::sc) F:=r
theorem si(i:It)(h:X)(r:PS sc F):PS (i::sc) (X/\F):=⟨h,r⟩
theorem sf(h:X)(r:PS sc F):PS sc (X/\F):=⟨h,r⟩
theorem EY{o:Option (List ah)}{B:ah}(h:o=some [B])(r:PS sc F):PS (.w 0 B::sc) (o=some [B]/\F):=⟨h,r⟩
theorem FK{o:Option (List (PVal×PVal))}{m:List (PVal×PVal)}(h:o=some m)(r:PS sc F):PS (.w 0 (.map m)::sc) (o=some m/\F):=⟨h,r⟩
end
section
variable{P:Program}{GE:List (Nat×List PVal)}{A:List Nat}{m:Nat}
theorem C1(hf:P.follows .mixedOrders=true){c:Code}{e0:Exit}{st0 st:aj}{sc:List It}{F:Prop}(h:PS sc F)(he:F=mt P GE A m c sc st (FN e0 st0)):aE P GE m c (EX e0 st0) st:=Bq hf sc (Eq.mp he h)
theorem DY(hf:P.follows .mixedOrders=true){σ X:Type}{S:σ->aj}{ex:X->Exit}{so:X->aj}{c:Code}{s:σ}{st:aj}{sc:List It}{F:Prop}(h:PS sc F)(he:F=mt P GE A m c sc st (FN .normal (S s))):aE P GE m c (LQ S ex so (.inl s)) st:=qB hf sc (Eq.mp he h)
theorem D2(hf:P.follows .mixedOrders=true){σ X:Type}{S:σ->aj}{ex:X->Exit}{so:X->aj}{c:Code}{x:X}{st:aj}{sc:List It}{F:Prop}(hn:ex x≠.normal)(h:PS sc F)(he:F=mt P GE A m c sc st (FN (ex x) (so x))):aE P GE m c (LQ S ex so (.inr x)) st:=EO hf sc hn (Eq.mp he h)
theorem C.evp(hf:P.follows .mixedOrders=true){f:FuncId}{fn:Func}{c:Code}{args:List PVal}{r:PVal}{ro:List (Nat×TypeId)}
  (hcall:∀vs w,(callFunc f vs).run P w=.ok (.enter f vs) w) (hfn:P.funcs[f]? =some fn) (hb:fn.body=some c) (hcl:iG 0 args) {sc:List It} {F:Prop} (h:PS sc F)
  (he:F=mt P GE A 0 c sc ⟨args++List.replicate (fn.ntmps - args.length) .undef,[],[]⟩ (FR P fn.results.toList r ro)):CC P GE f args r ro:=C.ev hf hcall hfn hb hcl sc (Eq.mp he h)
theorem C.evGp(hf:P.follows .mixedOrders=true){f:FuncId}{fn:Func}{c:Code}{args:List PVal}{oa:List ((Nat×Nat)×TypeId)}{H:List ah}{r:PVal}{ro:List (Nat×TypeId)}{H':List ah}
  (hm:decide (m % 1000=H.length)&&decide (m≠0)&&decide (H'.length=H.length)=true) (hcall:∀vs w,(callFunc f vs).run P w=.ok (.enter f vs) w) (hfn:P.funcs[f]? =some fn) (hb:fn.body=some c) {sc:List It} {F:Prop} (h:PS sc F)
  (he:F=mt P GE A m c sc ⟨args++List.replicate (fn.ntmps - args.length) .undef,H,oa⟩ (Du P fn.results.toList r ro H')):C P GE f args oa H r ro H':=C.evG hf hm hcall hfn hb sc (Eq.mp he h)
end
section
variable{P:Program}{GE:List (Nat×List PVal)}{A:List Nat}{m:Nat}
theorem h9(hf:P.follows .mixedOrders=true){σ X:Type}{S:σ->aj}{ex:X->Exit}{so:X->aj}{c:Code}{s:σ}{st:aj}{sc:List It}{F:Prop}(h:PS sc F)(he:F=mt P GE A m c sc st (Dt m .normal (S s))):aE P GE m c (LQ S ex so (.inl s)) st:=DZ hf sc (Eq.mp he h)
theorem jt(hf:P.follows .mixedOrders=true){σ X:Type}{S:σ->aj}{ex:X->Exit}{so:X->aj}{c:Code}{x:X}{st:aj}{sc:List It}{F:Prop}(hn:ex x≠.normal)(h:PS sc F)(he:F=mt P GE A m c sc st (Dt m (ex x) (so x))):aE P GE m c (LQ S ex so (.inr x)) st:=D3 hf sc hn (Eq.mp he h)
end
def tm(n:Nat):Nat->List (Nat×PVal)->List PVal
 |k,[]=>List.replicate (n - k) .undef
 |k,x::l=>List.replicate (x.1 - k) .undef++x.2::tm n (x.1+1) l
abbrev a7(n:Nat)(l:List (Nat×PVal))(H:List ah)(o:List ((Nat×Nat)×TypeId)):aj:=⟨tm n 0 l,H,o⟩
def DM(n:Nat):List (Nat×PVal)->Prop
 |[]=>True
 |x::l=>x.2.cl n/\DM n l
theorem wI{n:Nat}{l:List PVal}(h:iG n l):∀k,iG n (List.replicate k .undef++l)
 |0=>h
 |k+1=>by rw[List.replicate_succ,vbT];exact⟨trivial,wI h k⟩
theorem dL{n N:Nat}:∀{l:List (Nat×PVal)} {k:Nat},DM n l->iG n (tm N k l)
 |[],k,_=>by unfold tm;have:=wI (n:=n) (l:=[]) trivial (N - k);rwa[vbo]at this
 |x::l,k,h=>by unfold tm;exact wI (l:=x.2::tm N (x.1+1) l) (by simp only[iG];exact⟨h.1,dL h.2⟩) _
def bits:Nat->Nat->List Bool->List Bool
 |0,_,l=>l
 |k+1,n,l=>if n<=1 then l else bits k (n / 2) ((n % 2==1)::l)
def cA(c:Code)(n:Nat):Code:=pC c (bits 100 n [])
theorem eF(e:Exit)(s:aj):PS [] (e=e/\s.tmps=s.tmps/\s.boxes=s.boxes/\true=true):=⟨rfl,fr s⟩
theorem rK(m:Nat)(e:Exit)(s:aj)(h4:decide (m % 1000<=s.boxes.length)=true)(h5:iG s.boxes.length s.tmps)(h6:wG s.boxes.length s.boxes):PS [] (e=e/\s.tmps=s.tmps/\s.boxes=s.boxes/\true=true/\decide (m % 1000<=s.boxes.length)=true/\iG s.boxes.length s.tmps/\wG s.boxes.length s.boxes):=⟨rfl,FI m s h4 h5 h6⟩
def po(n:Nat)(i:Int):Option Nat:=if 0<=i/\i<n then some i.toNat else none
def cN{α:Type}(n:Nat)(f:α->PVal)(x:Nat->α):List PVal:=(List.range n).map fun k=>f (x k)
def lA{α:Type}(x:Nat->α)(L:Nat)(v:α):Nat->α:=fun k=>if k=L then v else x k
def qV{α:Type}(z:α):Nat->α:=fun _=>z
def lz{α:Type}(z:α)(l:List α):Nat->α:=fun k=>l.getD k z
theorem qo{n x:Nat}{i:Int}(h:po n i=some x):0<=i/\i<n/\x=i.toNat/\x<n:=by
 unfold po at h
 split at h
 ·rename_i hh;cases h;exact⟨hh.1,hh.2,rfl,by omega⟩
 ·cases h
theorem EM{n x:Nat}{i:Int}(h:po n i=some x):0+x * 1<n:=by
 have:=(qo h).2.2.2;omega
theorem Cw{n m x y:Nat}{i j:Int}(h:po n i=some x)(h':po m j=some y):0+x * m+y * 1<n * m:=by
 have h1:=(qo h).2.2.2
 have h2:=(qo h').2.2.2
 have h3:(x+1) * m<=n * m:=vaE m h1
 rw[vaX,vbz]at h3
 omega
section
variable{P:Program}{α:Type}{n:Nat}{f:α->PVal}{x:Nat->α}
theorem pB:(cN n f x).length=n:=by simp[cN]
theorem zo{k:Nat}(h:k<n):(cN n f x)[k]? =some (f (x k)):=by
 unfold cN;rw[vaw,vaV h];rfl
theorem AQ(h:∀a,(f a).cl 0):iG 0 (cN n f x):=wH fun p hp=>by
 obtain⟨k,_,rfl⟩:=vap.1 hp;exact h _
theorem CT(h:∀a,(f a).one=true):∀q∈cN n f x,q.one=true:=fun p hp=>by
 obtain⟨k,_,rfl⟩:=vap.1 hp;exact h _
theorem xC{t e:TypeId}{m:Nat}(hu:P.underlying t=some (.array n e))(hi:(P.info? e).isSome=true)(hm:P.cellsOf e=m){b off y:Nat}{k:IntKind}{i:Int}(h:po n i=some y):ch P t (.bptr b off) (.int k i)=some (.bptr b (off+y * m)):=by
 obtain⟨h0,h1,rfl,_⟩:=qo h
 unfold ch
 rw[hu]
 simp only
 rw[vas ⟨h0,h1,hi⟩,hm]
theorem AR{t:TypeId}(hs:(P.underlying t).any om=true){L:Nat}(h:L<n):be P t ((cN n f x).drop L)=some (f (x L)):=by
 have hl:L<(cN n f x).length:=by rw[pB];exact h
 rw[va3 hl]
 have:=zo (f:=f) (x:=x) h
 rw[vaa hl]at this
 rw[va2 this]
 exact mO hs _ _
theorem CU{L:Nat}(h:L<n)(v:α):(cN n f x).take L++[f v]++(cN n f x).drop (L+1)=cN n f (lA x L v):=by
 have hl:((cN n f x).take L).length=L:=by rw[va4,pB];omega
 apply va7
 intro k
 by_cases hk:k<n
 ·rw[zo hk]
  unfold lA
  by_cases h1:k<L
  ·rw[vbn,vad (by omega),vau h1,zo hk,vav (by omega)]
  ·by_cases h2:k=L
   ·subst h2
    rw[vbn,vaf (by omega),hl,vbA,vas rfl]
    rfl
   ·rw[vaf (by simp;omega),vaR,vav h2]
    have:L+1+(k - ((cN n f x).take L++[f v]).length)=k:=by simp[hl];omega
    rw[this,zo hk]
 ·rw[vaz (by simp[pB];omega),vaz (by rw[pB];omega)]
theorem Cu{t:TypeId}(hc:P.cellsOf t=1)(hi:(P.info? t).isSome=true)(ho:∀a,(f a).one=true){L:Nat}{v:α}(h:L<n)(hp:∀a,bw (f a)=some [f a]):bq P t (.bptr 0 L) (f v) [.cells (cN n f x) []]=some [.cells (cN n f (lA x L v)) []]:=by
 unfold bq
 simp only[hp,List.getElem?_cons_zero]
 rw[vas ⟨hc.symm,hi,by rw[pB];show L+1<=n;omega,by simp[ho]⟩]
 have:=CU (f:=f) (x:=x) h v
 simp only[List.length_singleton]
 rw[this]
 rfl
end
open Go Go.Proofs.Tryd
set_option linter.unusedVariables false
set_option maxRecDepth 100000
noncomputable abbrev Pg:=Tryd.prog
theorem mixed:Pg.follows .mixedOrders=true:=by kernel_rfl
structure am where
 From:Int
 To:Int
 Strict:Bool
deriving DecidableEq
def ak(x:am):List PVal:=[.int .i64 x.From,.int .i64 x.To,.bool x.Strict]
theorem oM(x:am):ak x=[.int .i64 x.From,.int .i64 x.To,.bool x.Strict]:=rfl
theorem aA(x:am):iG 0 (ak x):=(aI trivial (aI trivial (aI trivial trivial)))
abbrev zb(x:am):PVal:=.agg (ak x)
theorem ul(x:am):(ak x).length=3:=by rw[oM];rfl
theorem mM(x:am):bw (.agg (ak x))=some (ak x):=rfl
theorem yd(x:am):bw (zb x)=some (ak x):=rfl
theorem jm(x:am):bw (.agg (ak x))=some [.int .i64 x.From,.int .i64 x.To,.bool x.Strict]:=by rw[oM];rfl
theorem Bk(x:am):∀q∈ak x,q.one=true:=by
 intro q hq
 rw[oM]at hq
 simp only[vaI,vbU,or_false]at hq
 rcases hq with rfl|rfl|rfl<;>rfl
theorem B4:Pg.cellsOf 43=3:=by kernel_rfl
theorem eb(x:am):be Pg 43 (ak x)=some (.agg (ak x)):=by
 have:=rz (P:=Pg) (t:=43) (l:=ak x) (r:=[]) (by kernel_rfl) (B4.trans (ul x).symm)
 rwa[vbo]at this
theorem qp(x:am)(r:List PVal):be Pg 43 ([.int .i64 x.From,.int .i64 x.To,.bool x.Strict]++r)=some (.agg (ak x)):=by
 rw[<-oM];exact rz (by kernel_rfl) (B4.trans (ul x).symm)
def jT(x y:am):Bool:=(x.From==y.From)&&((x.To==y.To)&&((x.Strict==y.Strict)&&(true)))
theorem xY(x y:am):sZ Pg .neq 43 (.agg (ak x)) (.agg (ak y))=some (.bool (!(jT x y))):=by kernel_rfl
theorem yL(x y:am):jT x y=decide (x=y):=by
 cases x;cases y;rw[vbZ];simp[jT]
theorem pe(x0:Int)(x1:Int)(x2:Bool):ec Pg 43 [(0,.int .i64 x0),(1,.int .i64 x1),(2,.bool x2)]=some (.agg (ak (⟨x0,x1,x2⟩:am))):=by
 kernel_rfl
theorem bS(x:am):cU Pg 43 (.eptr (ak x)) 0=some (.eptr ((ak x).drop 0)):=by kernel_rfl
theorem d9(x:am):cU Pg 43 (.eptr (ak x)) 1=some (.eptr ((ak x).drop 1)):=by kernel_rfl
theorem mD(x:am):cU Pg 43 (.eptr (ak x)) 2=some (.eptr ((ak x).drop 2)):=by kernel_rfl
theorem co(x:am):be Pg 3 ((ak x).drop 0)=some (.int .i64 x.From):=by kernel_rfl
theorem fi(x:am):be Pg 3 ((ak x).drop 1)=some (.int .i64 x.To):=by kernel_rfl
theorem nX(x:am):be Pg 4 ((ak x).drop 2)=some (.bool x.Strict):=by kernel_rfl
structure ae where
 Caller:af
 Callee:af
 Arcs:(List am)
deriving DecidableEq
def ac(x:ae):List PVal:=[.str x.Caller,.str x.Callee,sl ak x.Arcs]
theorem cb(x:ae):ac x=[.str x.Caller,.str x.Callee,sl ak x.Arcs]:=rfl
theorem ag(x:ae):iG 0 (ac x):=(aI trivial (aI trivial (aI (aK aA x.Arcs) trivial)))
abbrev ms(x:ae):PVal:=.agg (ac x)
theorem pI(x:ae):(ac x).length=3:=by rw[cb];rfl
theorem bK(x:ae):bw (.agg (ac x))=some (ac x):=rfl
theorem kr(x:ae):bw (ms x)=some (ac x):=rfl
theorem iK(x:ae):bw (.agg (ac x))=some [.str x.Caller,.str x.Callee,sl ak x.Arcs]:=by rw[cb];rfl
theorem yW(x:ae):∀q∈ac x,q.one=true:=by
 intro q hq
 rw[cb]at hq
 simp only[vaI,vbU,or_false]at hq
 rcases hq with rfl|rfl|rfl<;>rfl
theorem B3:Pg.cellsOf 24=3:=by kernel_rfl
theorem aN(x:ae):be Pg 24 (ac x)=some (.agg (ac x)):=by
 have:=rz (P:=Pg) (t:=24) (l:=ac x) (r:=[]) (by kernel_rfl) (B3.trans (pI x).symm)
 rwa[vbo]at this
theorem cx(x:ae)(r:List PVal):be Pg 24 ([.str x.Caller,.str x.Callee,sl ak x.Arcs]++r)=some (.agg (ac x)):=by
 rw[<-cb];exact rz (by kernel_rfl) (B3.trans (pI x).symm)
theorem iL(x:ae):PVal.agg [.str x.Caller,.str x.Callee,sl ak x.Arcs]=.agg (ac x):=by rw[cb]
theorem nO:ec Pg 24 []=some (.agg (ac (⟨([]:af),([]:af),([]:List am)⟩:ae))):=by
 kernel_rfl
theorem nN:xa Pg 24 [] [(2,43)]:=by
 exact⟨[.str ([]:af),.str ([]:af),.val xZ],by kernel_rfl,(aI rfl trivial)⟩
theorem pf(x0:af)(x1:af):ec Pg 24 [(0,.str x0),(1,.str x1)]=some (.agg (ac (⟨x0,x1,([]:List am)⟩:ae))):=by
 kernel_rfl
theorem pb(x0:af)(x1:af):xa Pg 24 [(0,.str x0),(1,.str x1)] [(2,43)]:=by
 exact⟨[.str x0,.str x1,.val xZ],by kernel_rfl,(aI rfl trivial)⟩
theorem aP(x:ae):cU Pg 24 (.eptr (ac x)) 0=some (.eptr ((ac x).drop 0)):=by kernel_rfl
theorem aQ(x:ae):cU Pg 24 (.eptr (ac x)) 1=some (.eptr ((ac x).drop 1)):=by kernel_rfl
theorem av(x:ae):cU Pg 24 (.eptr (ac x)) 2=some (.eptr ((ac x).drop 2)):=by kernel_rfl
theorem aX(x:ae):be Pg 9 ((ac x).drop 0)=some (.str x.Caller):=by kernel_rfl
theorem aY(x:ae):be Pg 9 ((ac x).drop 1)=some (.str x.Callee):=by kernel_rfl
theorem aw(x:ae):be Pg 22 ((ac x).drop 2)=some (sl ak x.Arcs):=by kernel_rfl
theorem Fq:Pg.cellsOf 4=1:=by kernel_rfl
abbrev jF:=Nat->Bool
def jr(x:jF):List PVal:=cN 36 PVal.bool x
theorem tc(x:jF):iG 0 (jr x):=AQ (fun _=>trivial)
theorem Ey{x:jF}{L:Nat}(h:L<36):be Pg 4 ((jr x).drop L)=some (PVal.bool (x L)):=AR (show(Pg.underlying 4).any om=true by kernel_rfl) h
theorem Ez{x:jF}{L:Nat}{v:Bool}(h:L<36):bq Pg 4 (.bptr 0 L) (PVal.bool v) [.cells (jr x) []]=some [.cells (jr (lA x L v)) []]:=Cu Fq (by kernel_rfl) (fun _=>rfl) h (fun _=>rfl)
theorem CW:Pg.cellsOf 52=3:=by kernel_rfl
theorem DR:Pg.cellsOf 3=1:=by kernel_rfl
abbrev jp:=Nat->Int
def g8(x:jp):List PVal:=cN 3 (PVal.int .i64) x
abbrev oC(x:jp):PVal:=.agg (g8 x)
theorem wJ(x:jp):iG 0 (g8 x):=AQ (fun _=>trivial)
theorem xV(x:jp):(g8 x).length=3:=pB
theorem jl(x:jp):bw (oC x)=some (g8 x):=rfl
theorem Bj(x:jp):∀q∈g8 x,q.one=true:=CT (fun _=>rfl)
theorem Ca(x:jp):be Pg 52 (g8 x)=some (.agg (g8 x)):=by
 have:=rz (P:=Pg) (t:=52) (l:=g8 x) (r:=[]) (by kernel_rfl) (CW.trans (xV x).symm)
 rwa[vbo]at this
theorem CM{x:jp}{L:Nat}(h:L<3):be Pg 3 ((g8 x).drop L)=some ((PVal.int .i64) (x L)):=AR (show(Pg.underlying 3).any om=true by kernel_rfl) h
theorem ck(x0:Int)(x1:Int)(x2:Int):ec Pg 52 [(0,(PVal.int .i64) x0),(1,(PVal.int .i64) x1),(2,(PVal.int .i64) x2)]=some (.agg (g8 (lz 0 [x0,x1,x2]))):=by kernel_rfl
theorem EI:Pg.cellsOf 74=36:=by kernel_rfl
abbrev gX:=Nat->Int
def bA(x:gX):List PVal:=cN 36 (PVal.int .i64) x
abbrev Db(x:gX):PVal:=.agg (bA x)
theorem qd(x:gX):iG 0 (bA x):=AQ (fun _=>trivial)
theorem Bh(x:gX):(bA x).length=36:=pB
theorem uy(x:gX):bw (Db x)=some (bA x):=rfl
theorem Cb(x:gX):be Pg 74 (bA x)=some (.agg (bA x)):=by
 have:=rz (P:=Pg) (t:=74) (l:=bA x) (r:=[]) (by kernel_rfl) (EI.trans (Bh x).symm)
 rwa[vbo]at this
theorem BW{x:gX}{L:Nat}(h:L<36):be Pg 3 ((bA x).drop L)=some ((PVal.int .i64) (x L)):=AR (show(Pg.underlying 3).any om=true by kernel_rfl) h
theorem DC{x:gX}{L:Nat}{v:Int}(h:L<36):bq Pg 3 (.bptr 0 L) ((PVal.int .i64) v) [.cells (bA x) []]=some [.cells (bA (lA x L v)) []]:=Cu DR (by kernel_rfl) (fun _=>rfl) h (fun _=>rfl)
theorem Dz{b off:Nat}{k:IntKind}{i:Int}{x:Nat}(h:po 6 i=some x):ch Pg 45 (.bptr b off) (.int k i)=some (.bptr b (off+x * 1)):=xC underlying45 (by kernel_rfl) Fq h
theorem EG:Pg.cellsOf 45=6:=by kernel_rfl
theorem DA{b off:Nat}{k:IntKind}{i:Int}{x:Nat}(h:po 6 i=some x):ch Pg 46 (.bptr b off) (.int k i)=some (.bptr b (off+x * 6)):=xC underlying46 (by kernel_rfl) EG h
theorem CL{b off:Nat}{k:IntKind}{i:Int}{x:Nat}(h:po 3 i=some x):ch Pg 52 (.bptr b off) (.int k i)=some (.bptr b (off+x * 1)):=xC underlying52 (by kernel_rfl) DR h
theorem zT{b off:Nat}{k:IntKind}{i:Int}{x:Nat}(h:po 6 i=some x):ch Pg 72 (.bptr b off) (.int k i)=some (.bptr b (off+x * 1)):=xC underlying72 (by kernel_rfl) DR h
theorem EH:Pg.cellsOf 72=6:=by kernel_rfl
theorem zU{b off:Nat}{k:IntKind}{i:Int}{x:Nat}(h:po 6 i=some x):ch Pg 74 (.bptr b off) (.int k i)=some (.bptr b (off+x * 6)):=xC underlying74 (by kernel_rfl) EH h
theorem cW:uW Pg 22 43 ak:=⟨underlying22,fun x=>(ul x).trans B4.symm,by kernel_rfl,by rw[B4];decide,by kernel_rfl,vbk (by kernel_rfl),Bk,aA⟩
theorem gd:uW Pg 33 24 ac:=⟨underlying33,fun x=>(pI x).trans B3.symm,by kernel_rfl,by rw[B3];decide,by kernel_rfl,vbk (by kernel_rfl),yW,ag⟩
theorem Eo:Pg.cellsOf 9=1:=by kernel_rfl
theorem ol:uW Pg 68 9 cS:=⟨underlying68,fun _=>Eo.symm,by kernel_rfl,by rw[Eo];decide,by kernel_rfl,vbk (by kernel_rfl),EN,DL⟩
theorem En:Pg.cellsOf 5=1:=by kernel_rfl
theorem EV:uW Pg 70 5 (cI .u8):=⟨underlying70,fun _=>En.symm,by kernel_rfl,by rw[En];decide,by kernel_rfl,vbk (by kernel_rfl),(D1 .u8),(Em .u8)⟩
theorem xh:uW Pg 71 52 g8:=⟨underlying71,fun x=>(xV x).trans CW.symm,by kernel_rfl,by rw[CW];decide,by kernel_rfl,vbk (by kernel_rfl),Bj,wJ⟩
theorem yq:uW Pg 100 3 (cI .i64):=⟨underlying100,fun _=>DR.symm,by kernel_rfl,by rw[DR];decide,by kernel_rfl,vbk (by kernel_rfl),(D1 .i64),(Em .i64)⟩
theorem FJ:(Pg.underlying 3).any om=true:=by kernel_rfl
theorem EW:(Pg.underlying 33).any om=true:=by kernel_rfl
theorem D7:(Pg.underlying 9).any om=true:=by kernel_rfl
theorem FM:rA Pg 4=some (PVal.bool false):=by kernel_rfl
theorem D4:eS Pg 46=some (jr (qV false)):=by kernel_rfl
theorem ET:eS Pg 52=some (g8 (qV 0)):=by kernel_rfl
theorem D5:eS Pg 74=some (bA (qV 0)):=by kernel_rfl
theorem vQ:eS Pg 24=some [.str ([]:af),.str ([]:af),sl ak ([]:List am)]:=by kernel_rfl
theorem ES:eS Pg 33=some [sl ac ([]:List ae)]:=by kernel_rfl
theorem yj:eS Pg 43=some [.int .i64 0,.int .i64 0,.bool false]:=by kernel_rfl
theorem EU:eS Pg 56=some [.val (.map none)]:=by kernel_rfl
def aS:List af:=[([97,110,100]:af),([97,115,115,117,109,101]:af),([98,111,111,108]:af),([98,111,117,110,100]:af),([99,97,115,101]:af),([99,101,108,108]:af),([99,108,97,115,115]:af),([100,97,116,97]:af),([100,101,102]:af),([100,105,118]:af),([101,108,115,101]:af),([101,110,100]:af),([102,97,108,115,101]:af),([102,111,114,97,108,108]:af),([102,117,110]:af),([103,101,116]:af),([105,102]:af),([105,110]:af),([105,110,115,116]:af),([105,110,116]:af),([105,110,118,97,114,105,97,110,116]:af),([108,101,116]:af),([109,97,116,99,104]:af),([109,101,97,115,117,114,101]:af),([109,101,116,114,105,99]:af),([109,111,100]:af),([109,117]:af),([110,101,119]:af),([110,111,116]:af),([111,102]:af),([111,114]:af),([113,117,97,108]:af),([114,101,102,108,101,99,116]:af),([115,101,116]:af),([116,104,101,110]:af),([116,114,117,101]:af),([117,115,101]:af),([118]:af),([118,97,108]:af),([116,97,103]:af),([119,104,101,114,101]:af),([119,105,116,104]:af)]
theorem DN:Pg.cellsOf 101=42:=by kernel_rfl
theorem lh:be Pg 101 (aS.map PVal.str)=some (.agg (aS.map PVal.str)):=by kernel_rfl
theorem qw{k:IntKind}{i:Int}{x:af}(h:gk aS i=some x):mN Pg 101 (.agg (aS.map PVal.str)) (.int k i)=some (PVal.str x):=DB underlying101 Eo (by kernel_rfl) (by kernel_rfl) (by kernel_rfl) h
def eh:List Int:=[1,10,100,1000,10000,100000,1000000,10000000,100000000,1000000000,10000000000,100000000000,1000000000000,10000000000000,100000000000000,1000000000000000,10000000000000000,100000000000000000,1000000000000000000,10000000000000000000]
theorem DO:Pg.cellsOf 115=20:=by kernel_rfl
theorem EJ:Pg.cellsOf 99=1:=by kernel_rfl
def lV:List Int:=[0,1,28,2,29,14,24,3,30,22,20,15,25,17,4,8,31,27,13,23,21,19,16,7,26,12,18,6,11,5,10,9]
theorem DP:Pg.cellsOf 120=32:=by kernel_rfl
def lW:List Int:=[0,1,56,2,57,49,28,3,61,58,42,50,38,29,17,4,62,47,59,36,45,43,51,22,53,39,33,30,24,18,12,5,63,55,48,27,60,41,37,16,46,35,44,21,52,32,23,11,54,26,40,15,34,20,31,10,25,14,19,9,13,8,7,6]
theorem DQ:Pg.cellsOf 121=64:=by kernel_rfl
def GE:List (Nat×List PVal):=[(0,aS.map PVal.str),(1,eh.map (PVal.int .u64)),(2,lV.map (PVal.int .u8)),(3,lW.map (PVal.int .u8))]
theorem di(A:List Nat){m:Nat}{c:Code}{sc:List It}{F:Prop}{e0:Exit}{st0 st:aj}(h:PS sc F)(he:F=mt Pg GE A m c sc st (FN e0 st0)):aE Pg GE m c (EX e0 st0) st:=C1 mixed h he
theorem qO(A:List Nat){m:Nat}{c:Code}{sc:List It}{F:Prop}{σ X:Type}{S:σ->aj}{ex:X->Exit}{so:X->aj}{s:σ}{st:aj}(h:PS sc F)(he:F=mt Pg GE A m c sc st (FN .normal (S s))):aE Pg GE m c (LQ S ex so (.inl s)) st:=DY mixed h he
theorem j5(A:List Nat){m:Nat}{c:Code}{sc:List It}{F:Prop}{σ X:Type}{S:σ->aj}{ex:X->Exit}{so:X->aj}{x:X}{st:aj}(hn:ex x≠.normal)(h:PS sc F)(he:F=mt Pg GE A m c sc st (FN (ex x) (so x))):aE Pg GE m c (LQ S ex so (.inr x)) st:=D2 mixed hn h he
theorem bv(A:List Nat){f:FuncId}{fn:Func}{c:Code}{args:List PVal}{r:PVal}{ro:List (Nat×TypeId)}(hcall:∀vs w,(callFunc f vs).run Pg w=.ok (.enter f vs) w)(hfn:Pg.funcs[f]? =some fn)(hb:fn.body=some c)(hcl:iG 0 args){sc:List It}{F:Prop}(h:PS sc F)(he:F=mt Pg GE A 0 c sc ⟨args++List.replicate (fn.ntmps - args.length) .undef,[],[]⟩ (FR Pg fn.results.toList r ro)):CC Pg GE f args r ro:=C.evp mixed hcall hfn hb hcl h he
abbrev waA:=List am
abbrev waB:=List ae
abbrev waC:=List af
theorem B9:∀n,(∀l,Sh Pg n 43 l->∃x,l=ak x):=by
 intro n
 induction n using Nat.strongRecOn with
 | ind n ih =>
  cases n with
  |zero=>exact fun l h=>h.elim
  | succ n =>
   exact fun l h=>by
    unfold Sh at h
    rw[underlying43]at h
    obtain⟨a0,b0,rfl,_,h0,a1,b1,rfl,_,h1,a2,b2,rfl,_,h2,rfl⟩:=h
    obtain⟨x0,rfl⟩:=(DT underlying3) n _ h0
    obtain⟨x1,rfl⟩:=(DT underlying3) n _ h1
    obtain⟨x2,rfl⟩:=(EK underlying4) n _ h2
    exact⟨(⟨x0,x1,x2⟩:am),by rw[oM];rfl⟩
theorem v8:∀n,(∀l,Sh Pg n 24 l->∃x,l=ac x):=by
 intro n
 induction n using Nat.strongRecOn with
 | ind n ih =>
  cases n with
  |zero=>exact fun l h=>h.elim
  | succ n =>
   exact fun l h=>by
    unfold Sh at h
    rw[underlying24]at h
    obtain⟨a0,b0,rfl,_,h0,a1,b1,rfl,_,h1,a2,b2,rfl,_,h2,rfl⟩:=h
    obtain⟨x0,rfl⟩:=(DV underlying9) n _ h0
    obtain⟨x1,rfl⟩:=(DV underlying9) n _ h1
    obtain⟨x2,rfl⟩:=(EL underlying22 B9) n _ h2
    exact⟨(⟨x0,x1,x2⟩:ae),by rw[cb];rfl⟩
set_option linter.unusedSimpArgs false
section
variable{α:Type}
def zE(ord:α->α->Option Int)(x y:α):Bool:=match ord x y with
 |some r=>decide (r<0)
 |none=>false
def yQ(lt:α->α->Bool)(x:α):List α->List α
 |[]=>[x]
 |y::r=>if lt y x=true then y::yQ lt x r else x::y::r
def pH(lt:α->α->Bool):List α->List α
 |[]=>[]
 |x::r=>yQ lt x (pH lt r)
structure BP(lt:α->α->Bool)(S:α->Prop):Prop where
 irr:∀x,S x->lt x x=false
 trans:∀x y z,S x->S y->S z->lt x y=true->lt y z=true->lt x z=true
 ntrans:∀x y z,S x->S y->S z->lt x y=false->lt y z=false->lt x z=false
 tot:∀x y,S x->S y->lt x y=false->lt y x=false->x=y
theorem qZ(lt:α->α->Bool)(x:α):∀l,(yQ lt x l).Perm (x::l)
 |[]=>.refl _
 | y :: r => by
  unfold yQ
  split
  ·exact((qZ lt x r).cons y).trans (List.Perm.swap x y r)
  ·exact .refl _
theorem la(lt:α->α->Bool):∀l,(pH lt l).Perm l
 |[]=>.refl _
 |x::r=>(qZ lt x (pH lt r)).trans ((la lt r).cons x)
abbrev vb(lt:α->α->Bool)(l:List α):Prop:=l.Pairwise fun x y=>lt y x=false
theorem rU{lt:α->α->Bool}{S:α->Prop}(h:BP lt S)(x:α)(hx:S x):∀{l},(∀y∈l,S y)->vb lt l->vb lt (yQ lt x l)
 |[],_,_=>by simp[yQ,vb]
 | y :: r,hS,hs => by
  unfold vb at hs ⊢
  have h':=vbu.1 hs
  have hy:=hS y (by simp)
  have hr:∀z∈r,S z:=fun z hz=>hS z (by simp[hz])
  unfold yQ
  split
  ·rename_i hyx
   rw[vbu]
   refine⟨fun z hz=>?_,rU h x hx hr h'.2⟩
   rcases vaI.1 ((qZ lt x r).mem_iff.1 hz)with rfl|hz
   ·cases hc:lt z y with
    |false=>rfl
    |true=>
     have:=h.trans _ _ _ hy hx hy hyx hc
     rw[h.irr _ hy]at this;cases this
   ·exact h'.1 z hz
  ·rename_i hyx
   have hyx:lt y x=false:=by simpa using hyx
   rw[vbu]
   refine⟨fun z hz=>?_,hs⟩
   rcases vaI.1 hz with rfl|hz
   ·exact hyx
   ·exact h.ntrans _ _ _ (hr z hz) hy hx (h'.1 z hz) hyx
theorem pn{lt:α->α->Bool}{S:α->Prop}(h:BP lt S):∀{l},(∀y∈l,S y)->vb lt (pH lt l)
 |[],_=>by simp[pH,vb]
 |x::r,hS=>by
  unfold pH
  exact rU h x (hS x (by simp)) (fun y hy=>hS y (by have:=(la lt r).mem_iff.1 hy;simp[this])) (pn h fun y hy=>hS y (by simp[hy]))
theorem sm{lt:α->α->Bool}{S:α->Prop}(h:BP lt S):∀{l r:List α},(∀y∈l,S y)->l.Perm r->vb lt l->vb lt r->l=r
 |[],r,_,hp,_,_=>(List.Perm.nil_eq hp)
 | x :: l,r,hS,hp,hl,hr => by
  cases r with
  |nil=>exact absurd hp.length_eq (by simp)
  | cons y r =>
   have hl':=vbu.1 hl
   have hr':=vbu.1 hr
   have hxS:=hS x (by simp)
   have hyS:=hS y (hp.mem_iff.2 (by simp))
   have hxy:x=y:=by
    have h1:x∈y::r:=hp.mem_iff.1 (by simp)
    have h2:y∈x::l:=hp.mem_iff.2 (by simp)
    rcases vaI.1 h1 with h1|h1
    ·exact h1
    ·rcases vaI.1 h2 with h2|h2
     ·exact h2.symm
     ·exact h.tot _ _ hxS hyS (hr'.1 x h1) (hl'.1 y h2)
   subst hxy
   rw[sm h (fun z hz=>hS z (by simp[hz])) hp.cons_inv hl'.2 hr'.2]
end
section
variable{α:Type}[DecidableEq α]
def Ep(ord:α->α->Option Int)(l:List α):Bool:=
 decide (l.length<=dB)&&(l.all (fun x=>l.all fun y=>(ord x y).isSome)&&(l.all (fun x=>!zE ord x x)&&
 (l.all (fun x=>l.all fun y=>l.all fun z=>(!(zE ord x y&&zE ord y z)||zE ord x z)&&((zE ord x y||zE ord y z)||!zE ord x z))&&
 l.all fun x=>l.all fun y=>zE ord x y||(zE ord y x||decide (x=y)))))
def sj(ord:α->α->Option Int)(l:List α):Option (List α):=if Ep ord l=true then some (pH (zE ord) l)else none
theorem x6{ord:α->α->Option Int}{l:List α}(h:Ep ord l=true):l.length<=dB/\(∀x∈l,∀y∈l,∃r,ord x y=some r)/\BP (zE ord) (·∈l):=by
  unfold Ep at h
  simp only[vac,vah,vao,vaK,vaO]at h
  obtain⟨h1,h2,h3,h4,h5⟩:=h
  refine⟨h1,fun x hx y hy=>vax.1 (h2 x hx y hy),fun x hx=>h3 x hx,fun x y z hx hy hz a b=>?_,fun x y z hx hy hz a b=>?_,fun x y hx hy a b=>?_⟩
  · rcases (h4 x hx y hy z hz).1 with h | h
    ·rw[a,b]at h;cases h
    ·exact h
  · rcases (h4 x hx y hy z hz).2 with (h | h) | h
    ·rw[a]at h;cases h
    ·rw[b]at h;cases h
    ·exact h
  · rcases h5 x hx y hy with h | h | h
    ·rw[a]at h;cases h
    ·rw[b]at h;cases h
    ·exact h
theorem xk{ord:α->α->Option Int}{l r l':List α}(h:sj ord l=some r)(hp:l'.Perm l)(hs:vb (zE ord) l'):l'=r:=by
 unfold sj at h
 split at h
 ·rename_i hk
  cases h
  obtain⟨_,_,ho⟩:=x6 hk
  exact sm ho (fun y hy=>hp.mem_iff.1 hy) (hp.trans (la _ l).symm) hs (pn ho fun y hy=>hy)
 ·cases h
theorem BJ{ord:α->α->Option Int}{l r:List α}(h:sj ord l=some r):Ep ord l=true/\r.length=l.length:=by
 unfold sj at h
 split at h
 ·rename_i hk
  cases h
  exact⟨hk,(la _ l).length_eq⟩
 ·cases h
end
theorem m8{n:Int}(h1: -9223372036854775808<=n)(h2:n<9223372036854775808):cD n=n:=ze h1 h2
theorem jV{α:Type}(l:List α)(i:Nat)(h:i<l.length):gk l (i:Int)=some l[i]:=by
 unfold gk
 rw[vas (by omega)]
 simp[h]
theorem f8(l:af)(i:Nat)(h:i<l.length):fL l (i:Int)=some ((l[i].toNat:Int)):=by
 unfold fL;rw[jV l i h];rfl
theorem lU(c:UInt8)(l:af):fL (c::l) 0=some (c.toNat:Int):=by
 have:=f8 (c::l) 0 (by simp)
 simpa using this
theorem A7{α:Type}(c:α)(l:List α):gk (c::l) 0=some c:=by
 have:=jV (c::l) 0 (by simp)
 simpa using this
theorem BH{α:Type}(l:List α)(i:Nat)(h:i<=l.length):yt l none (some (i:Int))=some (l.take i):=by
 simp[yt,bd,h]
theorem uP{α:Type}(l:List α)(i:Nat)(h:i<=l.length):yt l (some (i:Int)) none=some (l.drop i):=by
 simp[yt,bd,h]
theorem AN{α:Type}{l r:List α}(h:l.length+r.length<=1073741824):app l r=some (l++r):=vas h
theorem eI{l r:af}(h:l.length+r.length<=4611686018427387904):vo l r=some (l++r):=vas h
theorem j4{σ X:Type}{body:σ->Option (σ⊕X)}{s s':σ}(h:body s=some (.inl s')):loop body s=loop body s':=by rw[th,h]
theorem eE{σ X:Type}{body:σ->Option (σ⊕X)}{s:σ}{x:X}(h:body s=some (.inr x)):loop body s=some x:=by rw[th,h]
def jZ{α σ X:Type}(f:Nat->α->σ->σ⊕X)(e:σ->X):List α->Nat->σ->X
 |[],_,s=>e s
 |x::r,i,s=>match f i x s with
  |.inl s'=>jZ f e r (i+1) s'
  |.inr y=>y
theorem nY{α σ τ X:Type}(l:List α)(hl:l.length<9223372036854775808)(mk:Int->σ->τ)(body:τ->Option (τ⊕X))(I:Nat->σ->Prop)(f:Nat->α->σ->σ⊕X)(e:σ->X)
  (hin:∀(i:Nat) (h:i<l.length) s,I i s->body (mk i s)=some (match f i l[i] s with|.inl s'=>.inl (mk (cD ((i:Int)+1)) s')|.inr y=>.inr y)/\∀s',f i l[i] s=.inl s'->I (i+1) s')
  (hend:∀s,I l.length s->body (mk l.length s)=some (.inr (e s))):∀(i:Nat) (s:σ),i<=l.length->I i s->loop body (mk i s)=some (jZ f e (l.drop i) i s):=by
 intro i s hi hI
 obtain⟨k,hk⟩:∃k,k+i=l.length:=⟨l.length - i,by omega⟩
 induction k generalizing i s with
 |zero=>
  have:i=l.length:=by omega
  subst this
  rw[th,hend s hI,List.drop_length]
  rfl
 | succ k ih =>
  have hlt:i<l.length:=by omega
  obtain⟨h1,h2⟩:=hin i hlt s hI
  rw[th,h1,va3 hlt]
  unfold jZ
  cases hf:f i l[i] s with
  |inl s'=>
   simp only
   rw[m8 (by omega) (by omega)]
   have:=ih (i+1) s' (by omega) (h2 s' hf) (by omega)
   rw[show((i:Int)+1)=((i+1:Nat):Int) by omega]
   exact this
  |inr y=>rfl
theorem yp{α X:Type}(p:α->Bool)(y e:X):∀(l:List α) (i:Nat),jZ (fun _ x (_:Unit)=>if p x=true then Sum.inr y else .inl ()) (fun _=>e) l i ()=if l.any p=true then y else e
 |[],i=>by simp[jZ]
 | x :: l,i => by
  have ih:=yp p y e l (i+1)
  unfold jZ
  by_cases h:p x=true
  ·simp[h]
  ·simp only[h,if_false,ih,List.any_cons,vce,vay]
theorem jk{α X:Type}(l:List α)(hl:l.length<9223372036854775808)(body:Int->Option (Int⊕X))(p:α->Bool)(y e:X)
  (hin:∀(i:Nat) (h:i<l.length),body i=some (if p l[i]=true then .inr y else .inl (cD ((i:Int)+1)))) (hend:body l.length=some (.inr e)) (i:Nat) (hi:i<=l.length):
  loop body (i:Int)=some (if(l.drop i).any p=true then y else e):=by
 have:=nY l hl (fun i (_:Unit)=>i) body (fun _ _=>True) (fun _ x _=>if p x=true then Sum.inr y else .inl ()) (fun _=>e) (fun i h s _=>⟨?_,fun _ _=>trivial⟩) (fun s _=>hend) i () hi trivial
 ·rw[this,yp]
 ·rw[hin i h]
  by_cases hp:p l[i]=true<;>simp[hp]
theorem wq{α X:Type}(p:α->Bool)(y:Nat->X)(e:X):∀(l:List α) (i:Nat),jZ (fun j x (_:Unit)=>if p x=true then Sum.inr (y j)else .inl ()) (fun _=>e) l i ()=match l.findIdx? p with|some j=>y (i+j)|none=>e
 |[],i=>by simp[jZ]
 | x :: l,i => by
  have ih:=wq p y e l (i+1)
  unfold jZ
  rw[List.findIdx?_cons]
  by_cases h:p x=true
  ·simp[h]
  ·simp only[h,if_false,ih,vay]
   cases l.findIdx? p with
   |none=>rfl
   |some j=>simp only[vag];congr 1;omega
theorem we{α X:Type}(l:List α)(hl:l.length<9223372036854775808)(body:Int->Option (Int⊕X))(p:α->Bool)(y:Nat->X)(e:X)
  (hin:∀(i:Nat) (h:i<l.length),body i=some (if p l[i]=true then .inr (y i)else .inl (cD ((i:Int)+1)))) (hend:body l.length=some (.inr e)):
  loop body (0:Int)=some (match l.findIdx? p with|some j=>y j|none=>e):=by
 have:=nY l hl (fun i (_:Unit)=>i) body (fun _ _=>True) (fun j x _=>if p x=true then Sum.inr (y j)else .inl ()) (fun _=>e) (fun i h s _=>⟨?_,fun _ _=>trivial⟩) (fun s _=>hend) 0 () (vaF _) trivial
 ·simp only[Int.ofNat_zero,vbd]at this
  have this2:=wq p y e l 0
  simp only[vaB]at this2
  rw[<-this2]
  exact this
 ·rw[hin i h]
  by_cases hp:p l[i]=true<;>simp[hp]
section
variable{α β σ τ X Y:Type}
theorem wd(l:List α)(hl:l.length<9223372036854775808)(body:Int->Option (Int⊕X))(k:Int->α->Option (Int⊕X))(p:α->Bool)(y e:X)
  (hb:∀(i:Int),body i=if decide (i<(l.length:Int))=true then(gk l i).bind (k i)else some (.inr e))
  (hk:∀x∈l,∀i,k i x=some (if p x=true then .inr y else .inl (cD (i+1)))):loop body 0=some (if l.any p=true then y else e):=by
 have:=jk l hl body p y e (fun i hi=>?_) (by rw[hb,vav (by simp)]) 0 (vaF _)
 ·rw[vbd]at this
  exact this
 ·rw[hb,vas (by simp;omega),jV l i hi]
  simp only[vab]
  exact hk _ (vbr hi) i
end
def rg(x:am):Prop:=0<=x.From/\x.From<6/\0<=x.To/\x.To<6
instance(x:am):Decidable (rg x):=by unfold rg;infer_instance
end Go.Proofs.YtoficachfgggjaaDoor
namespace Go.Proofs
open Go.Shelf
noncomputable def Tryd.laysM171_ren : Go.Shelf.Ren := ⟨fun | 171 => 31 | 243 => 54 | 246 => 74 | 283 => 89 | 284 => 90 | 285 => 91 | 286 => 92 | 129 => 84 | 317 => 98 | 318 => 99 | 319 => 100 | 320 => 101 | 337 => 103 | 338 => 104 | n => n, fun | 3 => 3 | 9 => 9 | 2 => 2 | 4 => 4 | 171 => 104 | 0 => 0 | 53 => 99 | 37 => 70 | 5 => 5 | 173 => 106 | 212 => 115 | 51 => 97 | 20 => 20 | 213 => 116 | 46 => 78 | 232 => 120 | 233 => 121 | n => n, fun | 17 => 1 | 18 => 2 | 19 => 3 | n => n⟩
theorem Tryd.laysM171 : Go.Proofs.LaysM.n171 Tryd.prog Tryd.laysM171_ren := {
 mixed := by kernel_rfl
 f129 := Tryd.func84.trans (congrArg some (by kernel_rfl))
 f171 := Tryd.func31.trans (congrArg some (by kernel_rfl))
 f243 := Tryd.func54.trans (congrArg some (by kernel_rfl))
 f246 := Tryd.func74.trans (congrArg some (by kernel_rfl))
 f283 := Tryd.func89.trans (congrArg some (by kernel_rfl))
 f284 := Tryd.func90.trans (congrArg some (by kernel_rfl))
 f285 := Tryd.func91.trans (congrArg some (by kernel_rfl))
 f286 := Tryd.func92.trans (congrArg some (by kernel_rfl))
 f317 := Tryd.func98.trans (congrArg some (by kernel_rfl))
 f318 := Tryd.func99.trans (congrArg some (by kernel_rfl))
 f319 := Tryd.func100.trans (congrArg some (by kernel_rfl))
 f320 := Tryd.func101.trans (congrArg some (by kernel_rfl))
 f337 := Tryd.func103.trans (congrArg some (by kernel_rfl))
 f338 := Tryd.func104.trans (congrArg some (by kernel_rfl))
 t0 := Tryd.underlying0
 a0 := Tryd.isAgg0
 z0 := Tryd.sizeOf0
 v0 := Tryd.zeroValue0
 t2 := Tryd.underlying2
 a2 := Tryd.isAgg2
 z2 := Tryd.sizeOf2
 v2 := Tryd.zeroValue2
 t3 := Tryd.underlying3
 a3 := Tryd.isAgg3
 z3 := Tryd.sizeOf3
 v3 := Tryd.zeroValue3
 t4 := Tryd.underlying4
 a4 := Tryd.isAgg4
 z4 := Tryd.sizeOf4
 v4 := Tryd.zeroValue4
 t5 := Tryd.underlying5
 a5 := Tryd.isAgg5
 z5 := Tryd.sizeOf5
 v5 := Tryd.zeroValue5
 t9 := Tryd.underlying9
 a9 := Tryd.isAgg9
 z9 := Tryd.sizeOf9
 v9 := Tryd.zeroValue9
 t20 := Tryd.underlying20
 a20 := Tryd.isAgg20
 z20 := Tryd.sizeOf20
 v20 := Tryd.zeroValue20
 t37 := Tryd.underlying70
 a37 := Tryd.isAgg70
 z37 := Tryd.sizeOf70
 v37 := Tryd.zeroValue70
 t46 := Tryd.underlying78
 a46 := Tryd.isAgg78
 z46 := Tryd.sizeOf78
 v46 := Tryd.zeroValue78
 t51 := Tryd.underlying97
 a51 := Tryd.isAgg97
 z51 := Tryd.sizeOf97
 v51 := Tryd.zeroValue97
 t53 := Tryd.underlying99
 a53 := Tryd.isAgg99
 z53 := Tryd.sizeOf99
 v53 := Tryd.zeroValue99
 t171 := Tryd.underlying104
 a171 := Tryd.isAgg104
 z171 := Tryd.sizeOf104
 v171 := Tryd.zeroValue104
 t173 := Tryd.underlying106
 a173 := Tryd.isAgg106
 z173 := Tryd.sizeOf106
 v173 := Tryd.zeroValue106
 t212 := Tryd.underlying115
 a212 := Tryd.isAgg115
 z212 := Tryd.sizeOf115
 v212 := Tryd.zeroValue115
 t213 := Tryd.underlying116
 a213 := Tryd.isAgg116
 z213 := Tryd.sizeOf116
 t232 := Tryd.underlying120
 a232 := Tryd.isAgg120
 z232 := Tryd.sizeOf120
 v232 := Tryd.zeroValue120
 t233 := Tryd.underlying121
 a233 := Tryd.isAgg121
 z233 := Tryd.sizeOf121
 v233 := Tryd.zeroValue121
 g17 := by kernel_rfl
 g18 := by kernel_rfl
 g19 := by kernel_rfl
 i0 := by kernel_rfl
 i2 := by kernel_rfl
 i3 := by kernel_rfl
 i4 := by kernel_rfl
 i5 := by kernel_rfl
 i9 := by kernel_rfl
 i20 := by kernel_rfl
 i37 := by kernel_rfl
 i46 := by kernel_rfl
 i51 := by kernel_rfl
 i53 := by kernel_rfl
 i171 := by kernel_rfl
 i173 := by kernel_rfl
 i212 := by kernel_rfl
 i232 := by kernel_rfl
 i233 := by kernel_rfl
 m17 := by kernel_rfl
 m18 := by kernel_rfl
 m19 := by kernel_rfl }
noncomputable def Tryd.lc37_ren : Go.Shelf.Ren := ⟨fun | 41 => 37 | n => n, fun | 22 => 22 | 23 => 43 | 4 => 4 | n => n, fun | n => n⟩
theorem Tryd.lc37 : Go.Proofs.SlLaysE0.n41 Tryd.prog Tryd.lc37_ren := {
 mixed := by kernel_rfl
 f41 := ⟨Tryd.f37.name, by decide, Tryd.func37.trans (congrArg some (by kernel_rfl))⟩
 t4 := Tryd.underlying4
 a4 := Tryd.isAgg4
 z4 := Tryd.sizeOf4
 v4 := Tryd.zeroValue4
 t22 := Tryd.underlying22
 a22 := Tryd.isAgg22
 z22 := Tryd.sizeOf22
 v22 := Tryd.zeroValue22 }
noncomputable def Tryd.sf38_ren : Go.Shelf.Ren := ⟨fun | 6 => 38 | 15 => 57 | 14 => 56 | 28 => 83 | 29 => 84 | 20 => 75 | 21 => 76 | 22 => 77 | 23 => 78 | 24 => 79 | 25 => 80 | 26 => 81 | 27 => 82 | 46 => 93 | 47 => 94 | 48 => 95 | 49 => 96 | 50 => 97 | 57 => 102 | n => n, fun | 22 => 33 | 24 => 24 | 25 => 60 | 3 => 3 | 39 => 78 | 0 => 0 | 53 => 97 | 55 => 99 | 4 => 4 | 46 => 90 | 45 => 89 | 50 => 94 | 5 => 5 | 9 => 9 | 66 => 108 | 70 => 112 | 76 => 117 | 77 => 118 | n => n, fun | n => n⟩
theorem Tryd.sf38 : Go.Proofs.SlLaysF0.n6 Tryd.prog Tryd.sf38_ren := {
 mixed := by kernel_rfl
 f6 := ⟨Tryd.f38.name, by decide, Tryd.func38.trans (congrArg some (by kernel_rfl))⟩
 f14 := ⟨Tryd.f56.name, by decide, Tryd.func56.trans (congrArg some (by kernel_rfl))⟩
 f15 := Tryd.func57.trans (congrArg some (by kernel_rfl))
 f20 := ⟨Tryd.f75.name, by decide, Tryd.func75.trans (congrArg some (by kernel_rfl))⟩
 f21 := ⟨Tryd.f76.name, by decide, Tryd.func76.trans (congrArg some (by kernel_rfl))⟩
 f22 := ⟨Tryd.f77.name, by decide, Tryd.func77.trans (congrArg some (by kernel_rfl))⟩
 f23 := ⟨Tryd.f78.name, by decide, Tryd.func78.trans (congrArg some (by kernel_rfl))⟩
 f24 := ⟨Tryd.f79.name, by decide, Tryd.func79.trans (congrArg some (by kernel_rfl))⟩
 f25 := ⟨Tryd.f80.name, by decide, Tryd.func80.trans (congrArg some (by kernel_rfl))⟩
 f26 := ⟨Tryd.f81.name, by decide, Tryd.func81.trans (congrArg some (by kernel_rfl))⟩
 f27 := ⟨Tryd.f82.name, by decide, Tryd.func82.trans (congrArg some (by kernel_rfl))⟩
 f28 := Tryd.func83.trans (congrArg some (by kernel_rfl))
 f29 := Tryd.func84.trans (congrArg some (by kernel_rfl))
 f46 := ⟨Tryd.f93.name, by decide, Tryd.func93.trans (congrArg some (by kernel_rfl))⟩
 f47 := Tryd.func94.trans (congrArg some (by kernel_rfl))
 f48 := Tryd.func95.trans (congrArg some (by kernel_rfl))
 f49 := ⟨Tryd.f96.name, by decide, Tryd.func96.trans (congrArg some (by kernel_rfl))⟩
 f50 := ⟨Tryd.f97.name, by decide, Tryd.func97.trans (congrArg some (by kernel_rfl))⟩
 f57 := ⟨Tryd.f102.name, by decide, Tryd.func102.trans (congrArg some (by kernel_rfl))⟩
 t0 := Tryd.underlying0
 a0 := Tryd.isAgg0
 z0 := Tryd.sizeOf0
 v0 := Tryd.zeroValue0
 t3 := Tryd.underlying3
 a3 := Tryd.isAgg3
 z3 := Tryd.sizeOf3
 v3 := Tryd.zeroValue3
 t4 := Tryd.underlying4
 a4 := Tryd.isAgg4
 z4 := Tryd.sizeOf4
 v4 := Tryd.zeroValue4
 t5 := Tryd.underlying5
 a5 := Tryd.isAgg5
 z5 := Tryd.sizeOf5
 v5 := Tryd.zeroValue5
 t9 := Tryd.underlying9
 a9 := Tryd.isAgg9
 z9 := Tryd.sizeOf9
 v9 := Tryd.zeroValue9
 t22 := Tryd.underlying33
 a22 := Tryd.isAgg33
 z22 := Tryd.sizeOf33
 v22 := Tryd.zeroValue33
 t25 := Tryd.underlying60
 a25 := Tryd.isAgg60
 z25 := Tryd.sizeOf60
 v25 := Tryd.zeroValue60
 t39 := Tryd.underlying78
 a39 := Tryd.isAgg78
 z39 := Tryd.sizeOf78
 v39 := Tryd.zeroValue78
 t45 := Tryd.underlying89
 a45 := Tryd.isAgg89
 z45 := Tryd.sizeOf89
 v45 := Tryd.zeroValue89
 t46 := Tryd.underlying90
 a46 := Tryd.isAgg90
 z46 := Tryd.sizeOf90
 v46 := Tryd.zeroValue90
 t50 := Tryd.underlying94
 a50 := Tryd.isAgg94
 z50 := Tryd.sizeOf94
 v50 := Tryd.zeroValue94
 t53 := Tryd.underlying97
 a53 := Tryd.isAgg97
 z53 := Tryd.sizeOf97
 v53 := Tryd.zeroValue97
 t55 := Tryd.underlying99
 a55 := Tryd.isAgg99
 z55 := Tryd.sizeOf99
 v55 := Tryd.zeroValue99
 t66 := Tryd.underlying108
 a66 := Tryd.isAgg108
 z66 := Tryd.sizeOf108
 v66 := Tryd.zeroValue108
 t70 := Tryd.underlying112
 a70 := Tryd.isAgg112
 z70 := Tryd.sizeOf112
 v70 := Tryd.zeroValue112
 t76 := Tryd.underlying117
 a76 := Tryd.isAgg117
 z76 := Tryd.sizeOf117
 v76 := Tryd.zeroValue117
 t77 := Tryd.underlying118
 a77 := Tryd.isAgg118
 z77 := Tryd.sizeOf118
 v77 := Tryd.zeroValue118 }
end Go.Proofs
namespace Go.Proofs.YtoficachfgggjaaDoor
open Go Go.Shelf Go.RowKit Go.Lib Go.Sort
set_option linter.unusedSimpArgs false
set_option linter.unusedVariables false
def PVal.kd:PVal->Nat
 |.int _ _=>1
 |.bool _=>2
 |.str _=>3
 |.slice _=>4
 |_=>0
def Es:Value->Nat
 |.int _ _=>1
 |.bool _=>2
 |.string _=>3
 |.slice _ _ _=>4
 |_=>0
theorem VR.kd_eq{Γ:ax}{bs:aB}{w:World}{p:PVal}{v:Value}(h:VR Γ bs w p v)(hp:p.kd≠0):Es v=p.kd:=by
 cases h<;>first|rfl|exact absurd rfl hp
def D8(K:List Nat)(p:PVal):Prop:=p.kd∉K/\(p.kd=1\/p.kd=2\/p.kd=3)
def xN(K:List Nat):PVal->Prop
 |.int _ _=>True
 |.bool _=>True
 |.str _=>True
 |.slice es=>∀e∈es,∀q∈e,D8 K q
 |_=>False
theorem VR.scal{Γ Γ':ax}{bs bs':aB}{w w':World}{p:PVal}{v:Value}(h:VR Γ bs w p v)(hp:p.kd=1\/p.kd=2\/p.kd=3):VR Γ' bs' w' p v:=by
 cases h with
 |int k n=>exact .int k n
 |bool b=>exact .bool b
 |str l=>exact .str l
 |_=>exact absurd hp (by simp[PVal.kd])
theorem VR.off_row{K:List Nat}{Γ Γ':ax}{bs bs':aB}{w w':World}{b M:Nat}(hΓ:Γ b=some M)(hrow:∀o,o<M->∃u,w.cell? ⟨b,o,none⟩=some u/\Es u∈K)
  (hle:∀x n,x≠b->Γ x=some n->Γ' x=some n/\∀o,w'.cell? ⟨x,o,none⟩=w.cell? ⟨x,o,none⟩) {p:PVal} {v:Value} (hp:xN K p) (h:VR Γ bs w p v):VR Γ' bs' w' p v:=by
 cases h with
 |int k n=>exact .int k n
 |bool b=>exact .bool b
 |str l=>exact .str l
 |sliceNil=>exact .sliceNil
 |sliceE a cap=>exact .sliceE a cap
 | slice es b' off cap n sz vals h0 hcap hg hn hsz hc hv =>
  cases es with
  |nil=>exact .sliceE _ _
  | cons e0 es =>
   have hlen0:=hsz 0 e0 rfl
   have h00:0<e0.length:=by omega
   have q0:e0[0]? =some e0[0]:=vaa h00
   have hne:b'≠b:=by
    intro hbb
    subst hbb
    rw[hΓ]at hg;cases hg
    have hcell:=hc 0 e0 0 _ rfl q0
    simp only[vcp,Nat.add_zero]at hcell
    obtain⟨u,hu,hk⟩:=hrow off (by
     have:1 * sz<=(e0::es).length * sz:=vaE sz (by simp)
     omega)
    rw[hu]at hcell;cases hcell
    have hs:=hp e0 (by simp) e0[0] (vbr h00)
    have:=VR.kd_eq (hv 0 e0 0 _ rfl q0) (by rcases hs.2 with h|h|h<;>omega)
    rw[this]at hk
    exact hs.1 hk
   obtain⟨g1,g2⟩:=hle b' n hne hg
   refine .slice _ b' off cap n sz vals h0 hcap g1 hn hsz (fun i e k p he hp'=>(g2 _).trans (hc i e k p he hp')) (fun i e k p he hp'=>VR.scal (hv i e k p he hp') ?_)
   exact(hp e (var he) p (var hp')).2
 |undef v=>exact hp.elim
 |val v=>exact hp.elim
 |agg=>exact hp.elim
 |tuple=>exact hp.elim
 |eptrE=>exact hp.elim
 |eptr=>exact hp.elim
 |bptr=>exact hp.elim
 |bsl=>exact hp.elim
 |mapr=>exact hp.elim
 |func=>exact hp.elim
def zm(P:Program)(fs:FuncId)(k:Nat):Prop:=
 (∀vs w,(callFunc fs vs).run P w=.ok (.enter fs vs) w)/\
 (∀(enc:Nat->List Value) (cf:Nat->Nat->Int) (g blk cap:Nat) (d:Array Nat) (w:World),(∀x,(enc x).length=k)->(∀x,∀v∈enc x,v.oneCell'=true)->SWO (ltOf cf)->(∀vs w,(callFunc g vs).run P w=.ok (.enter g vs) w)->
  CmpLays P g #[] enc k cf blk 0 d.size w->HoldsK enc k w blk 0 d->blk<w.heap.size->d.size<4611686018427387904->
  Calls P fs #[.slice (some ⟨blk,0,none⟩) d.size cap,.func (.func g) #[] #[]] w fun e w'=>e=.returned (.tuple #[])/\∃d' n os,PermIn 0 d.size d d'/\SortedIn (ltOf cf) 0 d.size d'/\w'=sortWorldK enc k w blk 0 n d' os)/\
 ∀(p:Option Addr) (cap:Nat) (fv:Value) (w:World),Calls P fs #[.slice p 0 cap,fv] w fun e w'=>e=.returned (.tuple #[])/\w'=w
theorem uQ{enc:Nat->List Value}{k b m:Nat}{dk:Array Nat}{os:Array Obj}{w:World}{x:Nat}(hx:x<w.heap.size)(hb:x≠b):(sortWorldK enc k w b 0 m dk os).heap[x]? =w.heap[x]?:=by
 show((putRowK enc k (Sort.ahead w m) b 0 dk).heap++os)[x]? =_
 have hsz:(putRowK enc k (Sort.ahead w m) b 0 dk).heap.size=w.heap.size:=by simp[putRowK,putRow,mapBlock,Sort.ahead]
 rw[vaH (by rw[hsz];exact hx)]
 show(w.heap.modify b (onCells _))[x]? =_
 rw[vbL,vav (fun e=>hb e.symm)]
theorem uR{enc:Nat->List Value}{k b m:Nat}{dk:Array Nat}{os:Array Obj}{w:World}:w.heap.size<=(sortWorldK enc k w b 0 m dk os).heap.size:=by
 show _<=((putRowK enc k (Sort.ahead w m) b 0 dk).heap++os).size
 have hsz:(putRowK enc k (Sort.ahead w m) b 0 dk).heap.size=w.heap.size:=by simp[putRowK,putRow,mapBlock,Sort.ahead]
 rw[Array.size_append,hsz];omega
theorem Aw{enc:Nat->List Value}{k b m:Nat}{dk:Array Nat}{os:Array Obj}{w:World}{cur:Array Value}{e:TypeId}(hh:w.heap[b]? =some (.cells cur e (0,0))):(sortWorldK enc k w b 0 m dk os).heap[b]? =some (.cells (putCells id 0 (flatK enc k dk) cur) e (0,0)):=by
 have hb:b<w.heap.size:=(vai.1 hh).1
 show((putRowK enc k (Sort.ahead w m) b 0 dk).heap++os)[b]? =_
 have hsz:(putRowK enc k (Sort.ahead w m) b 0 dk).heap.size=w.heap.size:=by simp[putRowK,putRow,mapBlock,Sort.ahead]
 rw[vaH (by rw[hsz];exact hb)]
 show(w.heap.modify b (onCells _))[b]? =_
 rw[vbL,vas rfl,hh]
 rfl
section
variable{P:Program}{GE:List (Nat×List PVal)}{α:Type}{c:α->List PVal}{ord:α->α->Option Int}
theorem AU{E:kF}{Γ:ax}{bs:aB}{ow:Nat->Option gY}{w:World}{a:Array Value}{st:aj}(h:SR P E Γ bs ow w a st)(hE:zj GE 0 E){K:List Nat}{fo b M k N:Nat}
  (hΓ:Γ b=some M) (hb:E.w.heap.size<=b) (hrow:∀o,o<M->∃u,w.cell? ⟨b,o,none⟩=some u/\Es u∈K)
  (hcc:∀x y r,ord x y=some r->CC P GE fo [.agg (c x),.agg (c y)] (.int .i64 r) []) (hfl:∀x,∀q∈c x,xN K q)
  {enc:Nat->List Value} {el:Nat->α} (hlen:∀i,(enc i).length=(c (el i)).length) (hvr:∀(i j:Nat) q u,(c (el i))[j]? =some q->(enc i)[j]? =some u->VR Γ bs w q u)
  {cf:Nat->Nat->Int} (hcf:∀i j,ord (el i) (el j)=some (cf i j)):CmpLays P fo #[] enc k cf b 0 N w:=by
 intro m os dk hdk x y
 generalize hWe:sortWorldK enc k w b 0 m dk os=W
 have hkeep:∀x,x<w.heap.size->x≠b->W.heap[x]? =w.heap[x]?:=fun x hx hxb=>by rw[<-hWe];exact uQ hx hxb
 have hsz:w.heap.size<=W.heap.size:=by rw[<-hWe];exact uR
 let Γm:ax:=fun x=>if x=b then none else Γ x
 have hm:∀x n,x≠b->Γ x=some n->Γm x=some n/\∀o,W.cell? ⟨x,o,none⟩=w.cell? ⟨x,o,none⟩:=fun x n hx hn=>⟨by show(if x=b then none else Γ x)=_;rw[vav hx];exact hn,fun o=>aC (hkeep x (h.lt_of_ghost hn) hx) o⟩
 have hmr:∀x n,Γm x=some n->x≠b/\Γ x=some n:=fun x n hx=>by
  have hx:(if x=b then none else Γ x)=some n:=hx
  split at hx
  ·cases hx
  ·exact⟨by assumption,hx⟩
 have hagg:∀i,VR Γm [] W (.agg (c (el i))) (.agg (enc i).toArray):=fun i=>.agg _ _ (by simp[hlen]) fun j p v hp hv=>(hvr i j p v hp (by simpa using hv)).off_row hΓ hrow hm (hfl _ _ (var hp))
 have hpre:SR P ⟨GE,Γm,W,bg [] fun _=>none⟩ Γm [] (fun _=>none) W #[.agg (enc x).toArray,.agg (enc y).toArray] ⟨[.agg (c (el x)),.agg (c (el y))],[],[]⟩:={
  wi:=fun x n hx=>by
   obtain⟨h1,h2⟩:=hmr x n hx
   obtain⟨cc,t,fr,k1,k2⟩:=h.wi x n h2
   exact⟨cc,t,fr,(hkeep x (h.lt_of_ghost h2) h1).trans k1,k2⟩
  sz:=rfl
  tm:=fun t p v hp hv=>by
   match t with
   |0=>simp at hp hv;subst hp;subst hv;exact hagg x
   |1=>simp at hp hv;subst hp;subst hv;exact hagg y
   |t+2=>simp at hp
  bl:=rfl
  bx:=fun i b B hb=>by simp at hb
  inj:=fun i j b hb=>by simp at hb
  bn:=fun i b hb=>by simp at hb
  on:=fun b L hL=>by cases hL
  ot:=fun t k e he=>by simp at he
  ob:=fun i j e cs own b hB=>by simp at hB
  gl:=fun g cs hg=>(hE.gl g cs hg).mono (fun x n hx hn=>by
   have hlt:=hE.low x n hx
   obtain⟨n',k1,k2,k3⟩:=h.step.le x n hx hn
   obtain⟨g1,g2⟩:=hm x n' (by omega) k1
   exact⟨n',g1,k2,fun o ho=>(g2 o).trans (k3 o ho)⟩) (.refl _)
  gc:=fun g cs hg=>h.gc g cs (by rw[hE.ge];exact hg)
  gx:=fun g cs hg=>by
   obtain⟨k1,_,_,cc,t,fr,k4,k5⟩:=h.gnow (by rw[hE.ge];exact hg)
   obtain⟨g1,_⟩:=h.gx g cs (by rw[hE.ge];exact hg)
   refine⟨vaA k1 hsz,fun hT=>hT.elim (fun hx=>by obtain⟨i,hi⟩:=hx;simp at hi) (fun hx=>hx rfl),cc,t,fr,(hkeep g k1 (by omega)).trans k4,k5⟩
  step:=.refl _ _ _ _}
 refine((hcc _ _ _ (hcf x y)).2.2 Γm [] (fun _=>none) W _ hpre).mono fun e w' he=>?_
 obtain⟨v,Γ',ow',rfl,hS⟩:=he
 have hv:VR Γ' [] w' (.int .i64 (cf x y)) v:=hS.tm 0 _ _ rfl rfl
 cases hv
 refine⟨rfl,w'.drawn - W.drawn,w'.heap.extract W.heap.size w'.heap.size,?_⟩
 have h1:=hS.step.os
 have h2:=hS.step.tape
 have h3:=hS.step.output
 have h4:=hS.step.size
 have h5:=hS.step.drawn
 have h6:=hS.step.keep
 simp only at h1 h2 h3 h4 h5 h6
 have hT:∀b,¬bg [] (fun _=>none) b:=fun b hb=>by
  rcases hb with⟨i,hi⟩|hb
  ·simp at hi
  ·exact hb rfl
 have hheap:w'.heap=W.heap++w'.heap.extract W.heap.size w'.heap.size:=by
  apply vcy
  intro i
  by_cases hi:i<W.heap.size
  ·rw[vaH hi,(h6 i hi (hT i)).1]
  ·rw[vbv (by omega)]
   by_cases hi2:i<w'.heap.size
   ·rw[vcj]
    rw[vas (by omega)]
    congr 1;omega
   ·rw[vbb (by omega),vbb (by simp;omega)]
 show w'={heap:=W.heap++_,tape:=W.tape,drawn:=W.drawn+(w'.drawn - W.drawn),os:=W.os,output:=W.output}
 rw[<-hheap,show W.drawn+(w'.drawn - W.drawn)=w'.drawn by omega,<-h1,<-h2,<-h3]
end
end Go.Proofs.YtoficachfgggjaaDoor
