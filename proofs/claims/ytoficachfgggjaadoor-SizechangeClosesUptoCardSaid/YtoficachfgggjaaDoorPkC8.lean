/- PROVED: a part of the proof. Conditions: none. -/
import Derived.Test.YtoficachfgggjaaDoorPkC7
import Derived.Test.YtoficachfgggjaaDoorPkC3
import Derived.Shelf.SlicesE.Clone
import Derived.Test.YtoficachfgggjaaDoorChecked
import Derived.Test.YtoficachfgggjaaDoorProg
import Derived.Ground.SlgnProg
import Derived.Ground.SlsfProg
import Derived.Shelf.Lays
import Derived.Shelf.LaysM
import Derived.Shelf.SlGeneric
import Derived.Shelf.SlLaysE0
import Derived.Shelf.SlLaysF0
import Derived.Shelf.SlSortCmp.NoneTotal
noncomputable section
namespace Go.Proofs.YtoficachfgggjaaDoor
open Go
theorem sq{k:Nat}{B:aj}:∀{ps qs:List aj} {i:Nat},qs.length<=i->bB k ps qs->bB k (ps.set i B) qs
 |_,[],_,_,_=>by unfold bB;trivial
 |[],_::_,_,_,h=>by simpa using h
 |p::ps,q::qs,0,hi,_=>by simp at hi
 |p::ps,q::qs,i+1,hi,h=>by
  simp only[List.set_cons_succ]
  exact⟨h.1,sq (by simpa using hi) h.2⟩
def yD(P:Program)(rs:List ResultVar)(r:PVal)(ro:List (Nat×TypeId))(H':List aj)(st:ak):Prop:=
 ∃(t:Tmp) (ty:TypeId) (i off:Nat) (cs:List PVal) (own:List (Nat×TypeId)) (l:List PVal),rs=[.cell t ty]/\(∃fs,P.underlying ty=some (.struct fs))/\st.tmps.getD t .undef=.bptr i off/\st.boxes[i]? =some (.cells cs own)/\
  r=.agg l/\bw P ty (cs.drop off)=some (.agg l)/\r.cl H'.length/\H'.length<=i/\bB H'.length st.boxes H'/\(∀x∈ro,(off+x.1,x.2)∈own/\x.1<l.length)/\(ro.map (·.1)).Nodup
def FU(P:Program)(rs:List ResultVar)(r:PVal)(ro:List (Nat×TypeId))(H':List aj)(e:Exit)(st:ak):Prop:=
 Je P rs r ro H' e st\/((e=.normal\/e=.ret)/\yD P rs r ro H' st)
section
variable{P:Program}{E:mV}{Γ:az}{bs:aH}{ow:Nat->Option jL}{w:World}{a:Array Value}{st:ak}
theorem SR.finishCellG(h:SR P E Γ bs ow w a st){fn:Func}{r:PVal}{ro:List (Nat×TypeId)}{H':List aj}(hr:yD P fn.results.toList r ro H' st):∃v ow',(results fn a).run P w=.ok v w/\SR P E Γ (bs.take H'.length) ow' w #[v] ⟨[r],H',ro.map fun x=>((0,x.1),x.2)⟩:=by
 obtain⟨t,ty,i,off,cs,own,l,hrs,⟨fs,hfs⟩,ht,hB,rfl,hp,hcl,hi,hbl,hro,hnd⟩:=hr
 have hrv:uB P st fn.results.toList=some (.agg l):=by
  rw[hrs]
  show iG P ty (st.tmps.getD t .undef) st.boxes=_
  rw[ht]
  simp only[iG,hB,hp]
 obtain⟨v,e1,e2,_⟩:=uC h hrv
 have hvt:=h.getD t
 rw[ht]at hvt
 generalize hva:a.getD t undef=vt at hvt
 cases hvt with
 |bptr _ _ b hb=>
 obtain⟨v2,q1,q2,q3⟩:=tb h hb hB hp
 have hvv:v2=v:=by
  have hres:fn.results=#[.cell t ty]:=by
   have:fn.results=fn.results.toList.toArray:=by simp
   rw[this,hrs]
  have hrun:(results fn a).run P w=.ok v2 w:=by
   simp[results,hres,asAddr]
   have hva':a[t]?.getD undef=.pointer (some ⟨b,off,none⟩):=by rw[<-vav];exact hva
   rw[hva']
   simp[q1]
  rw[e1]at hrun
  cases hrun
  rfl
 subst hvv
 have g1:=h.pushed e2
 obtain⟨ow',g2⟩:=SR.takeOwns (off:=off) (d:=a.size) (u:=v2) hb (by simp) ro g1 hB (fun x hx=>(hro x hx).1) hnd fun x hx=>by
  have:=q3 ⟨_,hfs,trivial⟩ x.1 (hro x hx).2
  obtain⟨v',z1,_⟩:=h.ob i (off+x.1) x.2 cs own b hB (hro x hx).1 hb
  exact⟨v',this.trans z1,z1⟩
 refine⟨v2,vS (fun k=>(a.size,k)) ro ow',e1,?_⟩
 exact g2.finish (H':=H') (src:=fun k=>(a.size,k)) (ro:=ro) e2 hcl (sq hi hbl) (fun x hx=>⟨va1 _ (vb2.2 (var.2 ⟨x,hx,rfl⟩)),fun u v' hu hv'=>by simp at hu;subst hu;exact hv'⟩) (fun x _ y _ e=>by simpa using e)
end
theorem C.ofSatG{P:Program}{GE:List (Nat×List PVal)}{m:Nat}{f:FuncId}{fn:Func}{c:Code}{args:List PVal}{oa:List ((Nat×Nat)×TypeId)}{H:List aj}{r:PVal}{ro:List (Nat×TypeId)}{H':List aj}(hm:m % 1000=H.length)(hm0:m≠0)
  (hcall:∀vs w,(callFunc f vs).run P w=.ok (.enter f vs) w) (hfn:P.funcs[f]? =some fn) (hb:fn.body=some c) (hH:H'.length=H.length)
  (hp:aA P GE m c (FU P fn.results.toList r ro H') ⟨args++List.replicate (fn.ntmps - args.length) .undef,H,oa⟩):C P GE f args oa H r ro H':=by
 refine⟨hcall,fun Γ bs ow w vs h=>calls_of_wp hfn hb ?_⟩
 have hbl:bs.length=H.length:=h.bl
 have h0:SR P ⟨GE,Γ,w,bz bs ow⟩ Γ bs ow w (vs++Array.replicate (fn.ntmps - vs.size) undef) ⟨args++List.replicate (fn.ntmps - args.length) .undef,H,oa⟩:=by
  have hsz:vs.size=args.length:=h.sz
  exact{h with
   sz:=by simp[hsz]
   tm:=fun t p v hp hv=>by
    simp only at hp
    by_cases ht:t<args.length
    ·rw[vad ht]at hp
     rw[vaN (by omega)]at hv
     exact h.tm t p v hp hv
    ·rw[vai (by omega),vaS]at hp
     split at hp<;>cases hp
     exact .undef v
   ot:=fun t k e he=>by
    obtain⟨u,v,h1,h2⟩:=h.ot t k e he
    exact⟨u,v,by rw[vaN (vak.1 h1).1];exact h1,h2⟩}
 have hE:Dk GE m ⟨GE,Γ,w,bz bs ow⟩:={
  ge:=rfl
  low:=fun b n hb=>h.lt_of_ghost hb
  nt:=fun h0=>absurd h0 hm0
  gl:=fun g cs hg=>(h.gl g cs hg).restrict (n:=0) (by simp only[PVal.cl];exact h.gc g cs hg) (fun i b hi _=>absurd hi (vaI _))}
 have hwp:=hp none ⟨GE,Γ,w,bz bs ow⟩ bs ⟨vs++Array.replicate (fn.ntmps - vs.size) undef,[]⟩ w hE (by rw[hbl,hm]) ⟨Γ,bs,ow,h0,fun i _=>rfl⟩
 refine wp_mono hwp fun e a w' hq=>?_
 obtain⟨hd,st,⟨Γ1,bs1,ow1,hS,hk⟩,hQ⟩:=hq
 have htake:H'.length<=bs1.length->bs1.take H'.length=bs:=by
  intro hl1
  refine vbe fun i=>?_
  by_cases hi:i<H'.length
  ·rw[vaw hi];exact hk i (by omega)
  ·rw[List.getElem?_take_eq_none (by omega),vaA (by omega)]
 have hlen:∀{B:List aj},bB H'.length B H'->B.length=bs1.length->H'.length<=bs1.length:=fun hB he=>by
  obtain⟨hl,_⟩:=kI hB;omega
 have key:(uB P st fn.results.toList=some r/\r.cl H'.length/\bB H'.length st.boxes H'/\(∀x∈ro,(cE fn.results.toList x.1,x.2)∈st.own/\kT st fn.results.toList x.1)/\
   (∀x∈ro,∀y∈ro,cE fn.results.toList x.1=cE fn.results.toList y.1->x.1=y.1))->
   a.defers=[]/\∃v,(results fn a.tmps).run P w'=.ok v w'/\∃v' Γ' ow',Ending.returned v=.returned v'/\SR P ⟨GE,Γ,w,bz bs ow⟩ Γ' bs ow' w' #[v'] ⟨[r],H',ro.map fun x=>((0,x.1),x.2)⟩:=by
  rintro⟨k1,k2,k3,k4,k5⟩
  obtain⟨v,e1,e2,e3⟩:=uC hS k1
  refine⟨hd,v,e1,v,Γ1,vS (cE fn.results.toList) ro ow1,rfl,?_⟩
  have hf:=hS.finish (H':=H') (src:=cE fn.results.toList) (ro:=ro) e2 k2 k3 (fun x hx=>⟨(k4 x hx).1,fun u v'=>e3 x.1 u v' (k4 x hx).2⟩) k5
  rw[htake (hlen k3 hS.bl.symm)]at hf
  exact hf
 have key2:yD P fn.results.toList r ro H' st->
   a.defers=[]/\∃v,(results fn a.tmps).run P w'=.ok v w'/\∃v' Γ' ow',Ending.returned v=.returned v'/\SR P ⟨GE,Γ,w,bz bs ow⟩ Γ' bs ow' w' #[v'] ⟨[r],H',ro.map fun x=>((0,x.1),x.2)⟩:=by
  intro hc
  obtain⟨v,ow',e1,e2⟩:=hS.finishCellG hc
  obtain⟨_,_,_,_,_,_,_,_,_,_,_,_,_,_,_,hbl2,_,_⟩:=hc
  rw[htake (hlen hbl2 hS.bl.symm)]at e2
  exact⟨hd,v,e1,v,Γ1,ow',rfl,e2⟩
 rcases hQ with hQ|⟨he,hQ⟩
 ·cases e with
  |normal=>exact key hQ
  |ret=>exact key hQ
  |exit id=>exact hQ.elim
  |goto l=>exact hQ.elim
  |panic c=>exact hQ.elim
  |outgrown=>exact hQ.elim
 ·rcases he with rfl|rfl
  ·exact key2 hQ
  ·exact key2 hQ
def Ch(P:Program)(rs:List ResultVar)(ro:List (Nat×TypeId))(n:Nat)(st:ak):Bool:=match rs with
 | [.cell t ty] => match P.underlying ty with
  | some (.struct _) => match st.tmps.getD t .undef with
   |.bptr i off=>decide (n<=i)&&match st.boxes[i]? with
    |some (.cells _ own)=>ro.all (fun x=>decide ((off+x.1,x.2)∈own)&&decide (x.1<P.cellsOf ty))&&mJ (ro.map (·.1))
    |_=>false
   |_=>false
  |_=>false
 |_=>false
def EN(P:Program)(rs:List ResultVar)(r:PVal)(ro:List (Nat×TypeId))(H':List aj)(st:ak):Prop:=match rX rs ro st with
 |true=>match uB P st rs with
  |some p=>p=r/\r.cl H'.length/\A7 (st.boxes.take H'.length) H'=H'/\Ai H'.length H'
  |none=>False
 | false => match Ch P rs ro H'.length st with
  |true=>match uB P st rs with
   |some p=>p=r/\r.cl H'.length/\A7 (st.boxes.take H'.length) H'=H'/\Ai H'.length H'/\r.isAgg=true
   |none=>False
  |false=>False
def Ir(P:Program)(rs:List ResultVar)(r:PVal)(ro:List (Nat×TypeId))(H':List aj):Exit->List It->ak->Prop:=fun e _ st=>match e with
 |.normal=>EN P rs r ro H' st
 |.ret=>EN P rs r ro H' st
 |_=>False
theorem AQ{rs:List ResultVar}{ro:List (Nat×TypeId)}{st:ak}(hc:rX rs ro st=true):(∀x∈ro,(cE rs x.1,x.2)∈st.own/\kT st rs x.1)/\(∀x∈ro,∀y∈ro,cE rs x.1=cE rs y.1->x.1=y.1):=by
 have:=yF (r:=.undef) (P:=default) (rs:=rs) (ro:=ro) (st:=⟨st.tmps,st.boxes,st.own⟩) hc
 by_cases hr:uB default st rs=some .undef
 ·exact(this hr trivial).2.2.2
 ·clear this
  unfold rX at hc
  rw[vac]at hc
  obtain⟨c1,c2⟩:=hc
  refine⟨fun x hx=>?_,fun x hx y hy hxy=>?_⟩
  ·have:=van.1 c1 x hx
   rw[vac]at this
   refine⟨by simpa using this.1,?_⟩
   have h2:=this.2
   clear this c1 c2 hr
   rcases rs with _|⟨y,_|⟨z,rs⟩⟩
   ·simp at h2
   ·cases y with
    |tmp t=>trivial
    |cell t ty=>cases h2
   ·have key:∀o:Option ResultVar,(match o with
     |some (.tmp t)=>(st.tmps.getD t .undef).isSlice
     |_=>false)=true->(match o with
     |some (.tmp t)=>(st.tmps.getD t .undef).isSlice=true
     |_=>False):=by
     intro o
     cases o with
     |none=>intro h;cases h
     |some q=>cases q<;>intro h<;>first|exact h|cases h
    cases y with
    |tmp t=>exact key _ h2
    |cell t ty=>exact key _ h2
  ·have:=van.1 (van.1 c2 x hx) y hy
   simpa[hxy]using this
theorem EN.to{P:Program}{rs:List ResultVar}{r:PVal}{ro:List (Nat×TypeId)}{H':List aj}{st:ak}{e:Exit}(he:e=.normal\/e=.ret)(h:EN P rs r ro H' st):FU P rs r ro H' e st:=by
 unfold EN at h
 split at h
 ·rename_i hc
  split at h
  ·rename_i p hp
   obtain⟨rfl,hcl,hfg,hcb⟩:=h
   obtain⟨s1,s2⟩:=AQ hc
   have:uB P st rs=some p/\p.cl H'.length/\bB H'.length st.boxes H'/\_/\_:=⟨hp,hcl,ua hfg hcb,s1,s2⟩
   rcases he with rfl|rfl<;>exact .inl this
  ·exact h.elim
 ·split at h
  ·rename_i hc
   split at h
   ·rename_i p hp
    obtain⟨rfl,hcl,hfg,hcb,hagg⟩:=h
    refine .inr ⟨he,?_⟩
    unfold Ch at hc
    split at hc
    ·rename_i t ty _
     split at hc
     ·rename_i fs hfs
      split at hc
      ·rename_i i off ht
       rw[vac,vae]at hc
       obtain⟨hi,hc⟩:=hc
       split at hc
       ·rename_i cs own hB
        rw[vac]at hc
        obtain⟨c1,c2⟩:=hc
        have hpl:bw P ty (cs.drop off)=some p:=by
         have hp':iG P ty (st.tmps.getD t .undef) st.boxes=some p:=hp
         rw[ht]at hp'
         simpa only[iG,hB]using hp'
        cases p<;>simp only[PVal.isAgg]at hagg<;>first|(cases hagg;done)|skip
        rename_i l
        have hlen:l.length=P.cellsOf ty:=by
         have hq:=hpl
         unfold bw at hq
         rw[hfs]at hq
         simp only at hq
         split at hq
         ·rename_i hh;cases hq;rw[vbc];omega
         ·cases hq
        refine⟨t,ty,i,off,cs,own,l,rfl,⟨fs,hfs⟩,ht,hB,rfl,hpl,hcl,hi,ua hfg hcb,fun x hx=>?_,jE c2⟩
        have:=van.1 c1 x hx
        simp only[vac,vae]at this
        exact⟨this.1,by rw[hlen];exact this.2⟩
       ·cases hc
      ·cases hc
     ·cases hc
    ·cases hc
   ·exact h.elim
  ·exact h.elim
theorem Ir.to{P:Program}{rs:List ResultVar}{r:PVal}{ro:List (Nat×TypeId)}{H':List aj}{e:Exit}{sc:List It}{st:ak}(h:Ir P rs r ro H' e sc st):FU P rs r ro H' e st:=by
 unfold Ir at h
 split at h
 ·exact h.to (.inl rfl)
 ·exact h.to (.inr rfl)
 ·exact h.elim
theorem C.evG{P:Program}{GE:List (Nat×List PVal)}{A:List Nat}(hf:P.follows .mixedOrders=true){m:Nat}{f:FuncId}{fn:Func}{c:Code}{args:List PVal}{oa:List ((Nat×Nat)×TypeId)}{H:List aj}{r:PVal}{ro:List (Nat×TypeId)}{H':List aj}
  (hm:decide (m % 1000=H.length)&&decide (m≠0)&&decide (H'.length=H.length)=true) (hcall:∀vs w,(callFunc f vs).run P w=.ok (.enter f vs) w) (hfn:P.funcs[f]? =some fn) (hb:fn.body=some c) (sc:List It)
  (h:pd P GE A m c sc ⟨args++List.replicate (fn.ntmps - args.length) .undef,H,oa⟩ (Ir P fn.results.toList r ro H')):C P GE f args oa H r ro H':=by
 simp only[vac,vae]at hm
 exact C.ofSatG hm.1.1 hm.1.2 hcall hfn hb hm.2 ((ey hf c sc _ _ h).imp fun e st hx=>by obtain⟨sc',hx⟩:=hx;exact hx.to)
theorem rT:true=true:=rfl
theorem rL(l:List aj):l=l:=rfl
theorem rB(B:aj):B=B:=rfl
theorem rW(l:List (Nat×TypeId)):l=l:=rfl
theorem rM(l:List (PVal×PVal)):l=l:=rfl
theorem xR(ρ:List Nat)(p:PVal)(h:p.cl 0):tu ρ p p:=.refl p h
theorem xB(ρ:List Nat)(i j off:Nat)(h:ρ[i]? =some j):tu ρ (.bptr j off) (.bptr i off):=.bptr i j off h
theorem xM(ρ:List Nat)(i j:Nat)(h:ρ[i]? =some j):tu ρ (.mapr j) (.mapr i):=.mapr i j h
theorem ki{a a':PVal}{l l':List PVal}(h:a=a')(h':l=l'):a::l=a'::l':=by rw[h,h']
open Go Go.Shelf Go.RowKit Go.Lib
variable{P:Program}{ρ:Ren}
theorem Ah{w:World}(base:Nat)(t ty e:TypeId)(i:TypeInfo)(z:Value)(ht:P.underlying t=some (.slice e))(hi:P.info? e=some i)(hz:i.zero=some z)
  (v:Value) (n:Nat) (xs:List Value) (hown:w.ownsRow base e i.size v n xs)
  (a:Addr) (m c:Nat) (news:List Value) (hl:news.length=m * i.size) (hnews:∀j u,news[j]? =some u->w.cell? (a.add j)=some u) (h1:∀u∈news,u.oneCell'=true)
  (h63:n+m<=maxLen) (hbytes:(n+m) * i.bytes<=140737488355328) {v':Value} {w':World} (hr:(Builtin.append_ #[t,t] ty #[v,.slice (some a) m c]).run P w=.ok v' w'):w.drawn<=w'.drawn:=by
 have hsmall:n+m<=9223372036854775807:=by simp only[maxLen]at h63;omega
 rcases hown.2 with⟨rfl,rfl⟩|⟨g,cap,cur,rfl,hbg,hg,hnc,hcm,hcs,htake⟩
 ·by_cases hm:m=0
  ·subst hm
   have hn:news=[]:=vaq (by simpa using hl)
   subst hn
   have:(Builtin.append_ #[t,t] ty #[.slice none 0 0,.slice (some a) 0 c]).run P w=.ok (.slice none 0 0) w:=by
    simp[Builtin.append_,run_underlying ht,Go.sizeOf,typeInfo,hi,Builtin.lenOf,Builtin.firstCells,loadCells,loadCellsFrom]
   rw[this]at hr;cases hr;exact vap _
  ·rw[run_append_nil (P:=P) w t ty e i z ht hi hz a m c news hl hnews (by omega) (by omega) (by have hb:=hbytes;simp only[vaB]at hb;omega)]at hr
   cases hr;exact vcB _
 ·by_cases hroom:n+m<=cap
  ·have hfit:n * i.size+news.length<=cur.size:=by rw[hl,hcs,<-va3];exact vaK _ hroom
   rw[run_append_room (P:=P) w t ty e i ht hi g n cap cur hg a m c news hl hnews h1 hroom hfit]at hr
   cases hr;exact vap _
  ·have holds:∀j u,xs[j]? =some u->w.cell? ((⟨g,0,none⟩:Addr).add j)=some u:=hown.cells (g:=g) rfl
   rw[run_append_grow (P:=P) w t ty e i z ht hi hz ⟨g,0,none⟩ n cap xs hown.1 holds a m c news hl hnews (by omega) (by omega) (growslice_fits (by omega) hbytes)]at hr
   cases hr;exact vcB _
theorem yM(w:World){o:Oper}{a:Act}{K:Act->World->Prop}{Q:Exit->Act->World->Prop}(s x:Operand)(t:TypeId)
  (ho:o.op=.call {callee:=.builtin .append,args:=#[s,x],argTypes:=#[t,t]})
  (base:Nat) (e:TypeId) (i:TypeInfo) (z:Value) (size bytes:Nat) (ht:P.underlying t=some (.slice e)) (hi:P.info? e=some i) (hz:i.zero=some z)
  (hsize:i.size=size) (hby:i.bytes=bytes) (hzs:z.cells.size=size) (hsz:0<size)
  (v:Value) (n:Nat) (xs:List Value) (hs:a.eval s=v) (hown:w.ownsRow base e size v n xs)
  (ad:Addr) (m c:Nat) (news:List Value) (hx:a.eval x=.slice (some ad) m c) (hl:news.length=m * size) (hnews:∀j u,news[j]? =some u->w.cell? (ad.add j)=some u) (h1:∀u∈news,u.oneCell'=true)
  (h63:n+m<=maxLen) (hbytes:(n+m) * bytes<=140737488355328) (hbase:base<=w.heap.size)
  (h:∀v' w',w'.ownsRow base e size v' (n+m) (xs++news)->w.grownBy w' v.ownBlock->w.drawn<=w'.drawn->K (a.put o.dst v') w'):o.wp P a w K Q:=by
 obtain⟨v',w',hr,h2,h3,_⟩:=run_append_own (P:=P) w base t o.type e i z size bytes ht hi hz hsize hby hzs hsz v n xs hown ad m c news hl hnews h1 h63 hbytes hbase
 subst hsize
 subst hby
 have hd:=Ah (P:=P) base t o.type e i z ht hi hz v n xs hown ad m c news hl hnews h1 h63 hbytes hr
 unfold Oper.wp execOp
 simp only[ho,resolve,invoke,builtin,Sem.run_bind,Sem.run_pure,Result.andThen_ok,List.map_toArray,vaW,vcK,hs,hx,hr]
 exact h v' w' h2 h3 hd
theorem mU(w:World){ops:Array Oper}{rest:List Oper}{o:Oper}{a:Act}{Q:Exit->Act->World->Prop}(hgd:o.guard=none)(s x:Operand)(t:TypeId)
  (ho:o.op=.call {callee:=.builtin .append,args:=#[s,x],argTypes:=#[t,t]})
  (base:Nat) (e:TypeId) (i:TypeInfo) (z:Value) (size bytes:Nat) (ht:P.underlying t=some (.slice e)) (hi:P.info? e=some i) (hz:i.zero=some z)
  (hsize:i.size=size) (hby:i.bytes=bytes) (hzs:z.cells.size=size) (hsz:0<size)
  (v:Value) (n:Nat) (xs:List Value) (hs:a.eval s=v) (hown:w.ownsRow base e size v n xs)
  (ad:Addr) (m c:Nat) (news:List Value) (hx:a.eval x=.slice (some ad) m c) (hl:news.length=m * size) (hnews:∀j u,news[j]? =some u->w.cell? (ad.add j)=some u) (h1:∀u∈news,u.oneCell'=true)
  (h63:n+m<=maxLen) (hbytes:(n+m) * bytes<=140737488355328) (hbase:base<=w.heap.size)
  (h:∀v' w',w'.ownsRow base e size v' (n+m) (xs++news)->w.grownBy w' v.ownBlock->w.drawn<=w'.drawn->wpList P ops Q rest (a.put o.dst v') w'):wpList P ops Q (o::rest) a w:=
 wpList_plain hgd fun _ hK=>yM w s x t ho base e i z size bytes ht hi hz hsize hby hzs hsz v n xs hs hown ad m c news hx hl hnews h1 h63 hbytes hbase fun v' w' h2 h3 h4=>hK _ _ (h v' w' h2 h3 h4)
set_option maxHeartbeats 2000000 in
set_option maxRecDepth 100000 in
theorem CH(L:SlLaysE0.n41 P ρ)(i0:TypeInfo)(z:Value)(size bytes:Nat)(hi:P.info? (ρ.t 23)=some i0)(hz0:i0.zero=some z)(hz1:i0.size=size)(hz2:i0.bytes=bytes)(hzs:z.cells.size=size)(hsz:0<size)
  (z23:∀w,(Go.sizeOf (ρ.t 23)).run P w=.ok size w) (b off n c:Nat) (news:List Value) (w:World) (hl:news.length=n * size) (hn:n<=maxLen) (hbig:n * bytes<=140737488355328)
  (hc:∀j u,news[j]? =some u->w.cell? ⟨b,off+j,none⟩=some u) (h1:∀u∈news,u.oneCell'=true):
  Calls P (ρ.f 41) #[.slice (some ⟨b,off,none⟩) n c] w fun e w'=>∃v',e=.returned v'/\w'.ownsRow w.heap.size (ρ.t 23) size v' n news/\(Below w.heap.size w w'/\w.drawn<=w'.drawn):=by
 have mixed:=L.mixed;have t4:=L.t4;have a4:=L.a4;have z4:=L.z4;have v4:=L.v4;have t22:=L.t22;have a22:=L.a22;have z22:=L.z22;have v22:=L.v22
 have q22:∀(w:World) (a:Option Addr) (n c n' c':Nat),(binOp .eql (ρ.t 22) (.slice a n c) (.slice none n' c')).run P w=.ok (.bool a.isNone) w:=fun w a n c n' c'=>Lib.run_eql_slice_nil w _ _ a n c n' c' L.t22
 have u22:∀w,Sem.run P (underlying (ρ.t 22)) w=.ok (TypeDesc.slice (ρ.t 23)) w:=run_underlying t22
 have A:Aside (∀j u,news[j]? =some u->w.cell? ⟨b,off+j,none⟩=some u):=hc
 clear hc
 obtain⟨_,_,FG⟩:=L.f41
 go_enter FG,SlBodyN.n41_ntmps ρ
 go_wp2_with (at_builtin;refine mU _ rfl _ _ (ρ.t 22) rfl w.heap.size (ρ.t 23) i0 z size bytes t22 hi hz0 hz1 hz2 hzs hsz _ _ _ rfl (World.ownsRow_made w #[] 0 (vap _) (vaJ _) (by simp)) ⟨b,off,none⟩ n c news rfl ?qc1 ?qc2 ?qc3 ?qc4 ?qc5 ?qc6 ?_)
 case qc1=>exact hl
 case qc2=>
  intro j u hj
  rw[Addr.add_lit]
  exact Lib.cell?_alloc_some _ (A.out j u hj)
 case qc3=>exact h1
 case qc4=>rw[vaB];exact hn
 case qc5=>rw[vaB];exact hbig
 case qc6=>simp
 intro v' w1 hown hgrow hdr
 go_wp2
 go_ret
 refine⟨v',rfl,by simpa using hown,?_,hdr⟩
 exact((Below.refl _ w).alloc (vap _) _).grown hgrow (by simp) (by intro k hk;simp[Value.ownBlock]at hk;omega)
set_option maxHeartbeats 2000000 in
set_option maxRecDepth 100000 in
theorem Bx(L:SlLaysE0.n41 P ρ)(i0:TypeInfo)(z:Value)(hi:P.info? (ρ.t 23)=some i0)(hz0:i0.zero=some z)(hzs:z.cells.size=i0.size)(hsz:0<i0.size)
  (z23:∀w,(Go.sizeOf (ρ.t 23)).run P w=.ok i0.size w) (ad:Addr) (c:Nat) (w:World):
  Calls P (ρ.f 41) #[.slice (some ad) 0 c] w fun r w'=>∃v',r=.returned v'/\w'.ownsRow w.heap.size (ρ.t 23) i0.size v' 0 []/\(Below w.heap.size w w'/\w.drawn<=w'.drawn):=by
 have mixed:=L.mixed;have t4:=L.t4;have a4:=L.a4;have z4:=L.z4;have v4:=L.v4;have t22:=L.t22;have a22:=L.a22;have z22:=L.z22;have v22:=L.v22
 have q22:∀(w:World) (a:Option Addr) (n c n' c':Nat),(binOp .eql (ρ.t 22) (.slice a n c) (.slice none n' c')).run P w=.ok (.bool a.isNone) w:=fun w a n c n' c'=>Lib.run_eql_slice_nil w _ _ a n c n' c' L.t22
 have u22:∀w,Sem.run P (underlying (ρ.t 22)) w=.ok (TypeDesc.slice (ρ.t 23)) w:=run_underlying t22
 obtain⟨_,_,FG⟩:=L.f41
 go_enter FG,SlBodyN.n41_ntmps ρ
 go_wp2_with (at_builtin;refine mU _ rfl _ _ (ρ.t 22) rfl w.heap.size (ρ.t 23) i0 z i0.size i0.bytes t22 hi hz0 rfl rfl hzs hsz _ _ _ rfl (World.ownsRow_made w #[] 0 (vap _) (vaJ _) (by simp)) ad 0 c [] rfl (by simp) (by simp) (by simp) (by simp) (by simp) (by simp) ?_)
 intro v' w1 hown hgrow hdr
 go_wp2
 go_ret
 exact⟨v',rfl,by simpa using hown,((Below.refl _ w).alloc (vap _) _).grown hgrow (by simp) (by intro k hk;simp[Value.ownBlock]at hk;omega),hdr⟩
theorem D5(L:SlLaysE0.n41 P ρ)(i0:TypeInfo)(z:Value)(hi:P.info? (ρ.t 23)=some i0)(hz0:i0.zero=some z)(hzs:z.cells.size=i0.size)(hsz:0<i0.size)(hby:i0.bytes<=65536)
  (hcall:∀vs w,(callFunc (ρ.f 41) vs).run P w=.ok (.enter (ρ.f 41) vs) w):mh P (ρ.f 41) (ρ.t 23):=by
 have hc:P.cellsOf (ρ.t 23)=i0.size:=by simp[Program.cellsOf,hi]
 have z23:∀w,(Go.sizeOf (ρ.t 23)).run P w=.ok i0.size w:=fun w=>by rw[<-hc];exact run_sizeOf w hi
 refine⟨hcall,fun w x n news hx hl h1 hn=>?_⟩
 rw[hc]at hl ⊢
 rcases hx with⟨rfl,rfl⟩|⟨a,c,rfl,hcell⟩
 ·have hnews:news=[]:=vaq (by simpa using hl)
  subst hnews
  refine(AnyE.slices_Clone_nil L 0 0 w).mono fun r w' hr=>?_
  obtain⟨rfl,rfl⟩:=hr
  exact⟨_,rfl,World.ownsRow_nil _ _ _ _,Below.refl _ _,vap _⟩
 ·by_cases h0:n=0
  ·subst h0
   have hnews:news=[]:=vaq (by simpa using hl)
   subst hnews
   exact Bx L i0 z hi hz0 hzs hsz z23 a c w
  ·have hpos:0<news.length:=by rw[hl];exact vcM (Nat.pos_of_ne_zero h0) hsz
   have hsp:a.spot=none:=by
    have hk:=hcell 0 _ (vab hpos)
    unfold Addr.add at hk
    simp only[if_true]at hk
    unfold World.cell? at hk
    split at hk
    ·split at hk
     ·cases hk
     ·rename_i hs;simpa using hs
    ·cases hk
   obtain⟨b,off,sp⟩:=a
   simp only at hsp
   subst hsp
   refine CH L i0 z i0.size i0.bytes hi hz0 rfl rfl hzs hsz z23 b off n c news w hl (by unfold maxLen;unfold dW at hn;omega) ?_ (fun j u hj=>by rw[<-Addr.add_lit];exact hcell j u hj) h1
   have:n * i0.bytes<=1073741824 * 65536:=vcA (by unfold dW at hn;omega) hby
   omega
theorem D4(L:SlLaysE0.n41 P ρ){f:FuncId}{e:TypeId}(hf:ρ.f 41=f)(he:ρ.t 23=e)(hq:(P.info? e).any (fun i=>(i.zero.any fun z=>z.cells.size==i.size)&&decide (0<i.size)&&decide (i.bytes<=65536))=true)
  (hcall:∀vs w,(callFunc f vs).run P w=.ok (.enter f vs) w):mh P f e:=by
 subst hf;subst he
 cases hi:P.info? (ρ.t 23)with
 |none=>rw[hi]at hq;cases hq
 | some i0 =>
  rw[hi]at hq
  simp only[Option.any_some,vac,vae]at hq
  obtain⟨⟨h1,h2⟩,h3⟩:=hq
  cases hz:i0.zero with
  |none=>rw[hz]at h1;cases h1
  |some z=>
   rw[hz]at h1
   simp only[Option.any_some,vaE]at h1
   exact D5 L i0 z hi hz h1 h2 h3 hcall
end Go.Proofs.YtoficachfgggjaaDoor
namespace Go.Proofs.YtoficachfgggjaaDoor
open Go
def sW{α:Type}(l:List α):Option (List α):=if l.length<=dW then some l else none
section
variable{P:Program}{GE:List (Nat×List PVal)}{T e:TypeId}{α:Type}{c:α->List PVal}
theorem Bw{l r:List α}(h:sW l=some r):l.length<=dW/\r=l:=by
 unfold sW at h
 split at h
 ·rename_i hl;cases h;exact⟨hl,rfl⟩
 ·cases h
theorem y2.mapOk(s:y2 P T e c)(l:List α):∀x∈l.map c,x.length=P.cellsOf e/\∀q∈x,q.one=true:=fun x hx=>by
 obtain⟨y,_,rfl⟩:=var.1 hx
 exact⟨s.hc y,s.ho y⟩
theorem y2.cloneCC(s:y2 P T e c){f:FuncId}(hC:mh P f e){l r:List α}(h:sW l=some r):CC P GE f [sl c l] (sl c r) [(0,e)]:=by
 obtain⟨hl,rfl⟩:=Bw h
 exact CC.clone hC ⟨aq s.cl r,trivial⟩ s.hp (s.mapOk r) (by simpa using hl)
end
def PS(_:List It)(F:Prop):Prop:=F
section
variable{sc:List It}{F X Y:Prop}
theorem en(h:F):PS [] F:=h
theorem sv{o:Option PVal}{p:PVal}(h:o=some p)(r:PS sc F):PS (.v p::sc) (o=some p/\F):=⟨h,r⟩
theorem dB{o:List aj->Option PVal}{p:PVal}(h:∀H,o H=some p)(r:PS sc F):PS (.v p::sc) ((∀H,o H=some p)/\F):=⟨h,r⟩
theorem sx{o:Option (List PVal)}{l:List PVal}(h:o=some l)(r:PS sc F):PS (.x l::sc) (o=some l/\F):=⟨h,r⟩
theorem se{o:Option (List PVal)}{l:List PVal}(h:o=some l)(r:PS sc F):PS (.e l::sc) (o=some l/\F):=⟨h,r⟩
theorem sg(n:Nat){x b:Bool}(h:x=b)(r:PS sc F):PS (.g n b::sc) (x=b/\F):=⟨h,r⟩
theorem sk(r:PS sc F):PS (.k::sc) F:=r
theorem ss(r:PS sc F):PS (.s::sc) F:=r
theorem bW{P:Program}{GE:List (Nat×List PVal)}{g:FuncId}{vs:List PVal}{p:PVal}{ro:List (Nat×TypeId)}(h:CC P GE g vs p ro)(r:PS sc F):PS (.c p ro::sc) (CC P GE g vs p ro/\F):=⟨h,r⟩
theorem sb{P:Program}{T:TypeId}{ps:List (Nat×PVal)}{p:PVal}{L:List (Nat×TypeId)}(h:fx P T ps=some p)(h':AL P T ps L)(r:PS sc F):PS (.b p L::sc) (fx P T ps=some p/\AL P T ps L/\F):=⟨h,h',r⟩
theorem sy{l vs:List PVal}(h:l=vs)(r:PS sc F):PS (.y vs::sc) (l=vs/\F):=⟨h,r⟩
theorem sz{o:Option PVal}{l:List PVal}(h:o=some (.agg l))(r:PS sc F):PS (.z l::sc) (o=some (.agg l)/\F):=⟨h,r⟩
theorem zQ(an:List Nat)(r:PS sc F):PS (.dr an::sc) F:=r
theorem pZ(n:Nat)(r:PS sc F):PS (.pa n::sc) F:=r
theorem da{P:Program}{GE:List (Nat×List PVal)}{m:Nat}{c:Code}{e:Exit}{s0 s1:ak}(h:aA P GE m c (EX e s1) s0)(r:PS sc F):PS (.pc s0 e s1::sc) ((s0.tmps=s0.tmps/\s0.boxes=s0.boxes/\true=true)/\aA P GE m c (EX e s1) s0/\F):=⟨fr s0,h,r⟩
theorem Ji(i:It)(r:PS sc F):PS (i::sc) F:=r
theorem si(i:It)(h:X)(r:PS sc F):PS (i::sc) (X/\F):=⟨h,r⟩
theorem sf(h:X)(r:PS sc F):PS sc (X/\F):=⟨h,r⟩
theorem J2{o:Option (List aj)}{B:aj}(h:o=some [B])(r:PS sc F):PS (.w 0 B::sc) (o=some [B]/\F):=⟨h,r⟩
theorem KM{o:Option (List (PVal×PVal))}{m:List (PVal×PVal)}(h:o=some m)(r:PS sc F):PS (.w 0 (.map m)::sc) (o=some m/\F):=⟨h,r⟩
end
section
variable{P:Program}{GE:List (Nat×List PVal)}{A:List Nat}{m:Nat}
theorem HJ(hf:P.follows .mixedOrders=true){c:Code}{e0:Exit}{st0 st:ak}{sc:List It}{F:Prop}(h:PS sc F)(he:F=pd P GE A m c sc st (FN e0 st0)):aA P GE m c (EX e0 st0) st:=FH hf sc (Eq.mp he h)
theorem I6(hf:P.follows .mixedOrders=true){σ X:Type}{S:σ->ak}{ex:X->Exit}{so:X->ak}{c:Code}{s:σ}{st:ak}{sc:List It}{F:Prop}(h:PS sc F)(he:F=pd P GE A m c sc st (FN .normal (S s))):aA P GE m c (LQ S ex so (.inl s)) st:=uq hf sc (Eq.mp he h)
theorem Ja(hf:P.follows .mixedOrders=true){σ X:Type}{S:σ->ak}{ex:X->Exit}{so:X->ak}{c:Code}{x:X}{st:ak}{sc:List It}{F:Prop}(hn:ex x≠.normal)(h:PS sc F)(he:F=pd P GE A m c sc st (FN (ex x) (so x))):aA P GE m c (LQ S ex so (.inr x)) st:=JU hf sc hn (Eq.mp he h)
theorem C.evp(hf:P.follows .mixedOrders=true){f:FuncId}{fn:Func}{c:Code}{args:List PVal}{r:PVal}{ro:List (Nat×TypeId)}
  (hcall:∀vs w,(callFunc f vs).run P w=.ok (.enter f vs) w) (hfn:P.funcs[f]? =some fn) (hb:fn.body=some c) (hcl:kA 0 args) {sc:List It} {F:Prop} (h:PS sc F)
  (he:F=pd P GE A 0 c sc ⟨args++List.replicate (fn.ntmps - args.length) .undef,[],[]⟩ (FR P fn.results.toList r ro)):CC P GE f args r ro:=C.ev hf hcall hfn hb hcl sc (Eq.mp he h)
theorem C.evGp(hf:P.follows .mixedOrders=true){f:FuncId}{fn:Func}{c:Code}{args:List PVal}{oa:List ((Nat×Nat)×TypeId)}{H:List aj}{r:PVal}{ro:List (Nat×TypeId)}{H':List aj}
  (hm:decide (m % 1000=H.length)&&decide (m≠0)&&decide (H'.length=H.length)=true) (hcall:∀vs w,(callFunc f vs).run P w=.ok (.enter f vs) w) (hfn:P.funcs[f]? =some fn) (hb:fn.body=some c) {sc:List It} {F:Prop} (h:PS sc F)
  (he:F=pd P GE A m c sc ⟨args++List.replicate (fn.ntmps - args.length) .undef,H,oa⟩ (Ir P fn.results.toList r ro H')):C P GE f args oa H r ro H':=C.evG hf hm hcall hfn hb sc (Eq.mp he h)
end
section
variable{P:Program}{GE:List (Nat×List PVal)}{A:List Nat}{m:Nat}
theorem cJ(hf:P.follows .mixedOrders=true){σ X:Type}{S:σ->ak}{ex:X->Exit}{so:X->ak}{c:Code}{s:σ}{st:ak}{sc:List It}{F:Prop}(h:PS sc F)(he:F=pd P GE A m c sc st (Iq m .normal (S s))):aA P GE m c (LQ S ex so (.inl s)) st:=I7 hf sc (Eq.mp he h)
theorem im(hf:P.follows .mixedOrders=true){σ X:Type}{S:σ->ak}{ex:X->Exit}{so:X->ak}{c:Code}{x:X}{st:ak}{sc:List It}{F:Prop}(hn:ex x≠.normal)(h:PS sc F)(he:F=pd P GE A m c sc st (Iq m (ex x) (so x))):aA P GE m c (LQ S ex so (.inr x)) st:=Jb hf sc hn (Eq.mp he h)
end
def tm(n:Nat):Nat->List (Nat×PVal)->List PVal
 |k,[]=>List.replicate (n - k) .undef
 |k,x::l=>List.replicate (x.1 - k) .undef++x.2::tm n (x.1+1) l
abbrev aY(n:Nat)(l:List (Nat×PVal))(H:List aj)(o:List ((Nat×Nat)×TypeId)):ak:=⟨tm n 0 l,H,o⟩
def IQ(n:Nat):List (Nat×PVal)->Prop
 |[]=>True
 |x::l=>x.2.cl n/\IQ n l
theorem Ak{n:Nat}{l:List PVal}(h:kA n l):∀k,kA n (List.replicate k .undef++l)
 |0=>h
 |k+1=>by rw[List.replicate_succ,vcl];exact⟨trivial,Ak h k⟩
theorem bN{n N:Nat}:∀{l:List (Nat×PVal)} {k:Nat},IQ n l->kA n (tm N k l)
 |[],k,_=>by unfold tm;have:=Ak (n:=n) (l:=[]) trivial (N - k);rwa[vbv]at this
 |x::l,k,h=>by unfold tm;exact Ak (l:=x.2::tm N (x.1+1) l) (by simp only[kA];exact⟨h.1,bN h.2⟩) _
def bits:Nat->Nat->List Bool->List Bool
 |0,_,l=>l
 |k+1,n,l=>if n<=1 then l else bits k (n / 2) ((n % 2==1)::l)
def cA(c:Code)(n:Nat):Code:=sX c (bits 100 n [])
theorem eF(e:Exit)(s:ak):PS [] (e=e/\s.tmps=s.tmps/\s.boxes=s.boxes/\true=true):=⟨rfl,fr s⟩
theorem mW(m:Nat)(e:Exit)(s:ak)(h4:decide (m % 1000<=s.boxes.length)=true)(h5:kA s.boxes.length s.tmps)(h6:Ai s.boxes.length s.boxes):PS [] (e=e/\s.tmps=s.tmps/\s.boxes=s.boxes/\true=true/\decide (m % 1000<=s.boxes.length)=true/\kA s.boxes.length s.tmps/\Ai s.boxes.length s.boxes):=⟨rfl,KJ m s h4 h5 h6⟩
def qA(n:Nat)(i:Int):Option Nat:=if 0<=i/\i<n then some i.toNat else none
def cN{α:Type}(n:Nat)(f:α->PVal)(x:Nat->α):List PVal:=(List.range n).map fun k=>f (x k)
def iB{α:Type}(x:Nat->α)(L:Nat)(v:α):Nat->α:=fun k=>if k=L then v else x k
def sT{α:Type}(z:α):Nat->α:=fun _=>z
def nR{α:Type}(z:α)(l:List α):Nat->α:=fun k=>l.getD k z
theorem uc{n x:Nat}{i:Int}(h:qA n i=some x):0<=i/\i<n/\x=i.toNat/\x<n:=by
 unfold qA at h
 split at h
 ·rename_i hh;cases h;exact⟨hh.1,hh.2,rfl,by omega⟩
 ·cases h
theorem JR{n x:Nat}{i:Int}(h:qA n i=some x):0+x * 1<n:=by
 have:=(uc h).2.2.2;omega
theorem GY{n m x y:Nat}{i j:Int}(h:qA n i=some x)(h':qA m j=some y):0+x * m+y * 1<n * m:=by
 have h1:=(uc h).2.2.2
 have h2:=(uc h').2.2.2
 have h3:(x+1) * m<=n * m:=vaK m h1
 rw[va3,vbM]at h3
 omega
section
variable{P:Program}{α:Type}{n:Nat}{f:α->PVal}{x:Nat->α}
theorem sU:(cN n f x).length=n:=by simp[cN]
theorem Do{k:Nat}(h:k<n):(cN n f x)[k]? =some (f (x k)):=by
 unfold cN;rw[vax,vaX h];rfl
theorem E1(h:∀a,(f a).cl 0):kA 0 (cN n f x):=Aj fun p hp=>by
 obtain⟨k,_,rfl⟩:=var.1 hp;exact h _
theorem Hy(h:∀a,(f a).one=true):∀q∈cN n f x,q.one=true:=fun p hp=>by
 obtain⟨k,_,rfl⟩:=var.1 hp;exact h _
theorem Bt{t e:TypeId}{m:Nat}(hu:P.underlying t=some (.array n e))(hi:(P.info? e).isSome=true)(hm:P.cellsOf e=m){b off y:Nat}{k:IntKind}{i:Int}(h:qA n i=some y):cY P t (.bptr b off) (.int k i)=some (.bptr b (off+y * m)):=by
 obtain⟨h0,h1,rfl,_⟩:=uc h
 unfold cY
 rw[hu]
 simp only
 rw[vaf ⟨h0,h1,hi⟩,hm]
theorem E2{t:TypeId}(hs:(P.underlying t).any rm=true){L:Nat}(h:L<n):bw P t ((cN n f x).drop L)=some (f (x L)):=by
 have hl:L<(cN n f x).length:=by rw[sU];exact h
 rw[vbb hl]
 have:=Do (f:=f) (x:=x) h
 rw[vab hl]at this
 rw[vaR this]
 exact pN hs _ _
theorem Hz{L:Nat}(h:L<n)(v:α):(cN n f x).take L++[f v]++(cN n f x).drop (L+1)=cN n f (iB x L v):=by
 have hl:((cN n f x).take L).length=L:=by rw[vbc,sU];omega
 apply vbe
 intro k
 by_cases hk:k<n
 ·rw[Do hk]
  unfold iB
  by_cases h1:k<L
  ·rw[vbp,vad (by omega),vaw h1,Do hk,vag (by omega)]
  ·by_cases h2:k=L
   ·subst h2
    rw[vbp,vai (by omega),hl,vbO,vaf rfl]
    rfl
   ·rw[vai (by simp;omega),vaU,vag h2]
    have:L+1+(k - ((cN n f x).take L++[f v]).length)=k:=by simp[hl];omega
    rw[this,Do hk]
 ·rw[vaA (by simp[sU];omega),vaA (by rw[sU];omega)]
theorem GV{t:TypeId}(hc:P.cellsOf t=1)(hi:(P.info? t).isSome=true)(ho:∀a,(f a).one=true){L:Nat}{v:α}(h:L<n)(hp:∀a,bO (f a)=some [f a]):bJ P t (.bptr 0 L) (f v) [.cells (cN n f x) []]=some [.cells (cN n f (iB x L v)) []]:=by
 unfold bJ
 simp only[hp,List.getElem?_cons_zero]
 rw[vaf ⟨hc.symm,hi,by rw[sU];show L+1<=n;omega,by simp[ho]⟩]
 have:=Hz (f:=f) (x:=x) h v
 simp only[List.length_singleton]
 rw[this]
 rfl
end
open Go Go.Proofs.Tryd
set_option linter.unusedVariables false
set_option maxRecDepth 100000
noncomputable abbrev Pg:=Tryd.prog
theorem mixed:Pg.follows .mixedOrders=true:=by kernel_rfl
structure ah where
 From:Int
 To:Int
 Strict:Bool
deriving DecidableEq
def ai(x:ah):List PVal:=[.int .i64 x.From,.int .i64 x.To,.bool x.Strict]
theorem pB(x:ah):ai x=[.int .i64 x.From,.int .i64 x.To,.bool x.Strict]:=rfl
theorem ay(x:ah):kA 0 (ai x):=(aI trivial (aI trivial (aI trivial trivial)))
abbrev A1(x:ah):PVal:=.agg (ai x)
theorem xZ(x:ah):(ai x).length=3:=by rw[pB];rfl
theorem pL(x:ah):bO (.agg (ai x))=some (ai x):=rfl
theorem ym(x:ah):bO (A1 x)=some (ai x):=rfl
theorem d7(x:ah):bO (.agg (ai x))=some [.int .i64 x.From,.int .i64 x.To,.bool x.Strict]:=by rw[pB];rfl
theorem FA(x:ah):∀q∈ai x,q.one=true:=by
 intro q hq
 rw[pB]at hq
 simp only[vay,vb3,or_false]at hq
 rcases hq with rfl|rfl|rfl<;>rfl
theorem Gn:Pg.cellsOf 43=3:=by kernel_rfl
theorem dJ(x:ah):bw Pg 43 (ai x)=some (.agg (ai x)):=by
 have:=vF (P:=Pg) (t:=43) (l:=ai x) (r:=[]) (by kernel_rfl) (Gn.trans (xZ x).symm)
 rwa[vbv]at this
theorem f0(x:ah)(r:List PVal):bw Pg 43 ([.int .i64 x.From,.int .i64 x.To,.bool x.Strict]++r)=some (.agg (ai x)):=by
 rw[<-pB];exact vF (by kernel_rfl) (Gn.trans (xZ x).symm)
theorem FX(x:ah):PVal.agg [.int .i64 x.From,.int .i64 x.To,.bool x.Strict]=.agg (ai x):=by rw[pB]
def lW(x y:ah):Bool:=(x.From==y.From)&&((x.To==y.To)&&((x.Strict==y.Strict)&&(true)))
theorem BW(x y:ah):B5 Pg .neq 43 (.agg (ai x)) (.agg (ai y))=some (.bool (!(lW x y))):=by kernel_rfl
theorem CL(x y:ah):lW x y=decide (x=y):=by
 cases x;cases y;rw[vbx];simp[lW]
theorem Br(x0:Int)(x1:Int):fx Pg 43 [(0,.int .i64 x0),(1,.int .i64 x1)]=some (.agg (ai (⟨x0,x1,false⟩:ah))):=by
 kernel_rfl
theorem sr(x0:Int)(x1:Int)(x2:Bool):fx Pg 43 [(0,.int .i64 x0),(1,.int .i64 x1),(2,.bool x2)]=some (.agg (ai (⟨x0,x1,x2⟩:ah))):=by
 kernel_rfl
theorem cC(x:ah):d8 Pg 43 (.eptr (ai x)) 0=some (.eptr ((ai x).drop 0)):=by kernel_rfl
theorem fS(x:ah):d8 Pg 43 (.eptr (ai x)) 1=some (.eptr ((ai x).drop 1)):=by kernel_rfl
theorem pC(x:ah):d8 Pg 43 (.eptr (ai x)) 2=some (.eptr ((ai x).drop 2)):=by kernel_rfl
theorem di(x:ah):bw Pg 3 ((ai x).drop 0)=some (.int .i64 x.From):=by kernel_rfl
theorem ig(x:ah):bw Pg 3 ((ai x).drop 1)=some (.int .i64 x.To):=by kernel_rfl
theorem q7(x:ah):bw Pg 4 ((ai x).drop 2)=some (.bool x.Strict):=by kernel_rfl
structure aa where
 Caller:ag
 Callee:ag
 Arcs:(List ah)
deriving DecidableEq
def ac(x:aa):List PVal:=[.str x.Caller,.str x.Callee,sl ai x.Arcs]
theorem bC(x:aa):ac x=[.str x.Caller,.str x.Callee,sl ai x.Arcs]:=rfl
theorem ae(x:aa):kA 0 (ac x):=(aI trivial (aI trivial (aI (aq ay x.Arcs) trivial)))
abbrev mT(x:aa):PVal:=.agg (ac x)
theorem ta(x:aa):(ac x).length=3:=by rw[bC];rfl
theorem ba(x:aa):bO (.agg (ac x))=some (ac x):=rfl
theorem kD(x:aa):bO (mT x)=some (ac x):=rfl
theorem dA(x:aa):bO (.agg (ac x))=some [.str x.Caller,.str x.Callee,sl ai x.Arcs]:=by rw[bC];rfl
theorem C2(x:aa):∀q∈ac x,q.one=true:=by
 intro q hq
 rw[bC]at hq
 simp only[vay,vb3,or_false]at hq
 rcases hq with rfl|rfl|rfl<;>rfl
theorem Gm:Pg.cellsOf 24=3:=by kernel_rfl
theorem aT(x:aa):bw Pg 24 (ac x)=some (.agg (ac x)):=by
 have:=vF (P:=Pg) (t:=24) (l:=ac x) (r:=[]) (by kernel_rfl) (Gm.trans (ta x).symm)
 rwa[vbv]at this
theorem aV(x:aa)(r:List PVal):bw Pg 24 ([.str x.Caller,.str x.Callee,sl ai x.Arcs]++r)=some (.agg (ac x)):=by
 rw[<-bC];exact vF (by kernel_rfl) (Gm.trans (ta x).symm)
theorem eR(x:aa):PVal.agg [.str x.Caller,.str x.Callee,sl ai x.Arcs]=.agg (ac x):=by rw[bC]
theorem jz:fx Pg 24 []=some (.agg (ac (⟨([]:ag),([]:ag),([]:List ah)⟩:aa))):=by
 kernel_rfl
theorem jy:AL Pg 24 [] [(2,43)]:=by
 exact⟨[.str ([]:ag),.str ([]:ag),.val BX],by kernel_rfl,(aI rfl trivial)⟩
theorem nU(x0:ag)(x1:ag):fx Pg 24 [(0,.str x0),(1,.str x1)]=some (.agg (ac (⟨x0,x1,([]:List ah)⟩:aa))):=by
 kernel_rfl
theorem nT(x0:ag)(x1:ag):AL Pg 24 [(0,.str x0),(1,.str x1)] [(2,43)]:=by
 exact⟨[.str x0,.str x1,.val BX],by kernel_rfl,(aI rfl trivial)⟩
theorem aD(x:aa):d8 Pg 24 (.eptr (ac x)) 0=some (.eptr ((ac x).drop 0)):=by kernel_rfl
theorem aE(x:aa):d8 Pg 24 (.eptr (ac x)) 1=some (.eptr ((ac x).drop 1)):=by kernel_rfl
theorem au(x:aa):d8 Pg 24 (.eptr (ac x)) 2=some (.eptr ((ac x).drop 2)):=by kernel_rfl
theorem aM(x:aa):bw Pg 9 ((ac x).drop 0)=some (.str x.Caller):=by kernel_rfl
theorem aN(x:aa):bw Pg 9 ((ac x).drop 1)=some (.str x.Callee):=by kernel_rfl
theorem av(x:aa):bw Pg 22 ((ac x).drop 2)=some (sl ai x.Arcs):=by kernel_rfl
theorem Kt:Pg.cellsOf 4=1:=by kernel_rfl
abbrev lH:=Nat->Bool
def lw(x:lH):List PVal:=cN 36 PVal.bool x
theorem wM(x:lH):kA 0 (lw x):=E1 (fun _=>trivial)
theorem JD{x:lH}{L:Nat}(h:L<36):bw Pg 4 ((lw x).drop L)=some (PVal.bool (x L)):=E2 (show(Pg.underlying 4).any rm=true by kernel_rfl) h
theorem JE{x:lH}{L:Nat}{v:Bool}(h:L<36):bJ Pg 4 (.bptr 0 L) (PVal.bool v) [.cells (lw x) []]=some [.cells (lw (iB x L v)) []]:=GV Kt (by kernel_rfl) (fun _=>rfl) h (fun _=>rfl)
theorem HB:Pg.cellsOf 52=3:=by kernel_rfl
theorem IW:Pg.cellsOf 3=1:=by kernel_rfl
abbrev ls:=Nat->Int
def j1(x:ls):List PVal:=cN 3 (PVal.int .i64) x
abbrev rz(x:ls):PVal:=.agg (j1 x)
theorem Al(x:ls):kA 0 (j1 x):=E1 (fun _=>trivial)
theorem BS(x:ls):(j1 x).length=3:=sU
theorem ll(x:ls):bO (rz x)=some (j1 x):=rfl
theorem Fy(x:ls):∀q∈j1 x,q.one=true:=Hy (fun _=>rfl)
theorem Gu(x:ls):bw Pg 52 (j1 x)=some (.agg (j1 x)):=by
 have:=vF (P:=Pg) (t:=52) (l:=j1 x) (r:=[]) (by kernel_rfl) (HB.trans (BS x).symm)
 rwa[vbv]at this
theorem Hk{x:ls}{L:Nat}(h:L<3):bw Pg 3 ((j1 x).drop L)=some ((PVal.int .i64) (x L)):=E2 (show(Pg.underlying 3).any rm=true by kernel_rfl) h
theorem db(x0:Int)(x1:Int)(x2:Int):fx Pg 52 [(0,(PVal.int .i64) x0),(1,(PVal.int .i64) x1),(2,(PVal.int .i64) x2)]=some (.agg (j1 (nR 0 [x0,x1,x2]))):=by kernel_rfl
theorem JO:Pg.cellsOf 74=36:=by kernel_rfl
abbrev jK:=Nat->Int
def bP(x:jK):List PVal:=cN 36 (PVal.int .i64) x
abbrev H4(x:jK):PVal:=.agg (bP x)
theorem tS(x:jK):kA 0 (bP x):=E1 (fun _=>trivial)
theorem Fw(x:jK):(bP x).length=36:=sU
theorem yl(x:jK):bO (H4 x)=some (bP x):=rfl
theorem Gv(x:jK):bw Pg 74 (bP x)=some (.agg (bP x)):=by
 have:=vF (P:=Pg) (t:=74) (l:=bP x) (r:=[]) (by kernel_rfl) (JO.trans (Fw x).symm)
 rwa[vbv]at this
theorem Gh{x:jK}{L:Nat}(h:L<36):bw Pg 3 ((bP x).drop L)=some ((PVal.int .i64) (x L)):=E2 (show(Pg.underlying 3).any rm=true by kernel_rfl) h
theorem IG{x:jK}{L:Nat}{v:Int}(h:L<36):bJ Pg 3 (.bptr 0 L) ((PVal.int .i64) v) [.cells (bP x) []]=some [.cells (bP (iB x L v)) []]:=GV IW (by kernel_rfl) (fun _=>rfl) h (fun _=>rfl)
theorem ID{b off:Nat}{k:IntKind}{i:Int}{x:Nat}(h:qA 6 i=some x):cY Pg 45 (.bptr b off) (.int k i)=some (.bptr b (off+x * 1)):=Bt underlying45 (by kernel_rfl) Kt h
theorem JM:Pg.cellsOf 45=6:=by kernel_rfl
theorem IE{b off:Nat}{k:IntKind}{i:Int}{x:Nat}(h:qA 6 i=some x):cY Pg 46 (.bptr b off) (.int k i)=some (.bptr b (off+x * 6)):=Bt underlying46 (by kernel_rfl) JM h
theorem Hj{b off:Nat}{k:IntKind}{i:Int}{x:Nat}(h:qA 3 i=some x):cY Pg 52 (.bptr b off) (.int k i)=some (.bptr b (off+x * 1)):=Bt underlying52 (by kernel_rfl) IW h
theorem DX{b off:Nat}{k:IntKind}{i:Int}{x:Nat}(h:qA 6 i=some x):cY Pg 72 (.bptr b off) (.int k i)=some (.bptr b (off+x * 1)):=Bt underlying72 (by kernel_rfl) IW h
theorem JN:Pg.cellsOf 72=6:=by kernel_rfl
theorem DY{b off:Nat}{k:IntKind}{i:Int}{x:Nat}(h:qA 6 i=some x):cY Pg 74 (.bptr b off) (.int k i)=some (.bptr b (off+x * 6)):=Bt underlying74 (by kernel_rfl) JN h
theorem cx:y2 Pg 22 43 ai:=⟨underlying22,fun x=>(xZ x).trans Gn.symm,by kernel_rfl,by rw[Gn];decide,by kernel_rfl,vbw (by kernel_rfl),FA,ay⟩
theorem bQ:y2 Pg 33 24 ac:=⟨underlying33,fun x=>(ta x).trans Gm.symm,by kernel_rfl,by rw[Gm];decide,by kernel_rfl,vbw (by kernel_rfl),C2,ae⟩
theorem Jt:Pg.cellsOf 9=1:=by kernel_rfl
theorem rl:y2 Pg 68 9 cS:=⟨underlying68,fun _=>Jt.symm,by kernel_rfl,by rw[Jt];decide,by kernel_rfl,vbw (by kernel_rfl),JT,IP⟩
theorem Ku:Pg.cellsOf 5=1:=by kernel_rfl
theorem AT:y2 Pg 71 52 j1:=⟨underlying71,fun x=>(BS x).trans HB.symm,by kernel_rfl,by rw[HB];decide,by kernel_rfl,vbw (by kernel_rfl),Fy,Al⟩
theorem Ck:y2 Pg 100 3 (cI .i64):=⟨underlying100,fun _=>IW.symm,by kernel_rfl,by rw[IW];decide,by kernel_rfl,vbw (by kernel_rfl),(JS .i64),(JL .i64)⟩
theorem KL:(Pg.underlying 3).any rm=true:=by kernel_rfl
theorem J0:(Pg.underlying 33).any rm=true:=by kernel_rfl
theorem Jf:(Pg.underlying 9).any rm=true:=by kernel_rfl
theorem KO:vI Pg 4=some (PVal.bool false):=by kernel_rfl
theorem Jc:gM Pg 46=some (lw (sT false)):=by kernel_rfl
theorem JY:gM Pg 52=some (j1 (sT 0)):=by kernel_rfl
theorem Jd:gM Pg 74=some (bP (sT 0)):=by kernel_rfl
theorem qo:gM Pg 24=some [.str ([]:ag),.str ([]:ag),sl ai ([]:List ah)]:=by kernel_rfl
theorem JX:gM Pg 33=some [sl ac ([]:List aa)]:=by kernel_rfl
theorem tp:gM Pg 43=some [.int .i64 0,.int .i64 0,.bool false]:=by kernel_rfl
theorem JZ:gM Pg 56=some [.val (.map none)]:=by kernel_rfl
def a8:List ag:=[([97,110,100]:ag),([97,115,115,117,109,101]:ag),([98,111,111,108]:ag),([98,111,117,110,100]:ag),([99,97,115,101]:ag),([99,101,108,108]:ag),([99,108,97,115,115]:ag),([100,97,116,97]:ag),([100,101,102]:ag),([100,105,118]:ag),([101,108,115,101]:ag),([101,110,100]:ag),([102,97,108,115,101]:ag),([102,111,114,97,108,108]:ag),([102,117,110]:ag),([103,101,116]:ag),([105,102]:ag),([105,110]:ag),([105,110,115,116]:ag),([105,110,116]:ag),([105,110,118,97,114,105,97,110,116]:ag),([108,101,116]:ag),([109,97,116,99,104]:ag),([109,101,97,115,117,114,101]:ag),([109,101,116,114,105,99]:ag),([109,111,100]:ag),([109,117]:ag),([110,101,119]:ag),([110,111,116]:ag),([111,102]:ag),([111,114]:ag),([113,117,97,108]:ag),([114,101,102,108,101,99,116]:ag),([115,101,116]:ag),([116,104,101,110]:ag),([116,114,117,101]:ag),([117,115,101]:ag),([118]:ag),([118,97,108]:ag),([116,97,103]:ag),([119,104,101,114,101]:ag),([119,105,116,104]:ag)]
theorem IR:Pg.cellsOf 101=42:=by kernel_rfl
theorem nF:bw Pg 101 (a8.map PVal.str)=some (.agg (a8.map PVal.str)):=by kernel_rfl
theorem uj{k:IntKind}{i:Int}{x:ag}(h:eQ a8 i=some x):pM Pg 101 (.agg (a8.map PVal.str)) (.int k i)=some (PVal.str x):=IF underlying101 Jt (by kernel_rfl) (by kernel_rfl) (by kernel_rfl) h
def fZ:List Int:=[1,10,100,1000,10000,100000,1000000,10000000,100000000,1000000000,10000000000,100000000000,1000000000000,10000000000000,100000000000000,1000000000000000,10000000000000000,100000000000000000,1000000000000000000,10000000000000000000]
theorem IT:Pg.cellsOf 115=20:=by kernel_rfl
theorem JP:Pg.cellsOf 99=1:=by kernel_rfl
def oH:List Int:=[0,1,28,2,29,14,24,3,30,22,20,15,25,17,4,8,31,27,13,23,21,19,16,7,26,12,18,6,11,5,10,9]
theorem IU:Pg.cellsOf 120=32:=by kernel_rfl
def oI:List Int:=[0,1,56,2,57,49,28,3,61,58,42,50,38,29,17,4,62,47,59,36,45,43,51,22,53,39,33,30,24,18,12,5,63,55,48,27,60,41,37,16,46,35,44,21,52,32,23,11,54,26,40,15,34,20,31,10,25,14,19,9,13,8,7,6]
theorem IV:Pg.cellsOf 121=64:=by kernel_rfl
def GE:List (Nat×List PVal):=[(0,a8.map PVal.str),(1,fZ.map (PVal.int .u64)),(2,oH.map (PVal.int .u8)),(3,oI.map (PVal.int .u8))]
theorem dz(A:List Nat){m:Nat}{c:Code}{sc:List It}{F:Prop}{e0:Exit}{st0 st:ak}(h:PS sc F)(he:F=pd Pg GE A m c sc st (FN e0 st0)):aA Pg GE m c (EX e0 st0) st:=HJ mixed h he
theorem tg(A:List Nat){m:Nat}{c:Code}{sc:List It}{F:Prop}{σ X:Type}{S:σ->ak}{ex:X->Exit}{so:X->ak}{s:σ}{st:ak}(h:PS sc F)(he:F=pd Pg GE A m c sc st (FN .normal (S s))):aA Pg GE m c (LQ S ex so (.inl s)) st:=I6 mixed h he
theorem jI(A:List Nat){m:Nat}{c:Code}{sc:List It}{F:Prop}{σ X:Type}{S:σ->ak}{ex:X->Exit}{so:X->ak}{x:X}{st:ak}(hn:ex x≠.normal)(h:PS sc F)(he:F=pd Pg GE A m c sc st (FN (ex x) (so x))):aA Pg GE m c (LQ S ex so (.inr x)) st:=Ja mixed hn h he
theorem bm(A:List Nat){f:FuncId}{fn:Func}{c:Code}{args:List PVal}{r:PVal}{ro:List (Nat×TypeId)}(hcall:∀vs w,(callFunc f vs).run Pg w=.ok (.enter f vs) w)(hfn:Pg.funcs[f]? =some fn)(hb:fn.body=some c)(hcl:kA 0 args){sc:List It}{F:Prop}(h:PS sc F)(he:F=pd Pg GE A 0 c sc ⟨args++List.replicate (fn.ntmps - args.length) .undef,[],[]⟩ (FR Pg fn.results.toList r ro)):CC Pg GE f args r ro:=C.evp mixed hcall hfn hb hcl h he
abbrev waA:=List aa
abbrev waB:=List ah
abbrev waC:=List ag
theorem Gt:∀n,(∀l,Sh Pg n 43 l->∃x,l=ai x):=by
 intro n
 induction n using Nat.strongRecOn with
 | ind n ih =>
  cases n with
  |zero=>exact fun l h=>h.elim
  | succ n =>
   exact fun l h=>by
    unfold Sh at h
    rw[underlying43]at h
    obtain⟨a0,b0,rfl,_,h0,a1,b1,rfl,_,h1,a2,b2,rfl,_,h2,rfl⟩:=h
    obtain⟨x0,rfl⟩:=(IY underlying3) n _ h0
    obtain⟨x1,rfl⟩:=(IY underlying3) n _ h1
    obtain⟨x2,rfl⟩:=(JQ underlying4) n _ h2
    exact⟨(⟨x0,x1,x2⟩:ah),by rw[pB];rfl⟩
theorem Ee:∀n,(∀l,Sh Pg n 24 l->∃x,l=ac x):=by
 intro n
 induction n using Nat.strongRecOn with
 | ind n ih =>
  cases n with
  |zero=>exact fun l h=>h.elim
  | succ n =>
   exact fun l h=>by
    unfold Sh at h
    rw[underlying24]at h
    obtain⟨a0,b0,rfl,_,h0,a1,b1,rfl,_,h1,a2,b2,rfl,_,h2,rfl⟩:=h
    obtain⟨x0,rfl⟩:=(I3 underlying9) n _ h0
    obtain⟨x1,rfl⟩:=(I3 underlying9) n _ h1
    obtain⟨x2,rfl⟩:=(IZ underlying22 Gt) n _ h2
    exact⟨(⟨x0,x1,x2⟩:aa),by rw[bC];rfl⟩
set_option linter.unusedSimpArgs false
section
variable{α:Type}
def A8(ord:α->α->Option Int)(x y:α):Bool:=match ord x y with
 |some r=>decide (r<0)
 |none=>false
def CT(lt:α->α->Bool)(x:α):List α->List α
 |[]=>[x]
 |y::r=>if lt y x=true then y::CT lt x r else x::y::r
def q6(lt:α->α->Bool):List α->List α
 |[]=>[]
 |x::r=>CT lt x (q6 lt r)
structure ER(lt:α->α->Bool)(S:α->Prop):Prop where
 irr:∀x,S x->lt x x=false
 trans:∀x y z,S x->S y->S z->lt x y=true->lt y z=true->lt x z=true
 ntrans:∀x y z,S x->S y->S z->lt x y=false->lt y z=false->lt x z=false
 tot:∀x y,S x->S y->lt x y=false->lt y x=false->x=y
theorem uU(lt:α->α->Bool)(x:α):∀l,(CT lt x l).Perm (x::l)
 |[]=>.refl _
 | y :: r => by
  unfold CT
  split
  ·exact((uU lt x r).cons y).trans (List.Perm.swap x y r)
  ·exact .refl _
theorem jB(lt:α->α->Bool):∀l,(q6 lt l).Perm l
 |[]=>.refl _
 |x::r=>(uU lt x (q6 lt r)).trans ((jB lt r).cons x)
abbrev oA(lt:α->α->Bool)(l:List α):Prop:=l.Pairwise fun x y=>lt y x=false
theorem vV{lt:α->α->Bool}{S:α->Prop}(h:ER lt S)(x:α)(hx:S x):∀{l},(∀y∈l,S y)->oA lt l->oA lt (CT lt x l)
 |[],_,_=>by simp[CT,oA]
 | y :: r,hS,hs => by
  unfold oA at hs ⊢
  have h':=vaV.1 hs
  have hy:=hS y (by simp)
  have hr:∀z∈r,S z:=fun z hz=>hS z (by simp[hz])
  unfold CT
  split
  ·rename_i hyx
   rw[vaV]
   refine⟨fun z hz=>?_,vV h x hx hr h'.2⟩
   rcases vay.1 ((uU lt x r).mem_iff.1 hz)with rfl|hz
   ·cases hc:lt z y with
    |false=>rfl
    |true=>
     have:=h.trans _ _ _ hy hx hy hyx hc
     rw[h.irr _ hy]at this;cases this
   ·exact h'.1 z hz
  ·rename_i hyx
   have hyx:lt y x=false:=by simpa using hyx
   rw[vaV]
   refine⟨fun z hz=>?_,hs⟩
   rcases vay.1 hz with rfl|hz
   ·exact hyx
   ·exact h.ntrans _ _ _ (hr z hz) hy hx (h'.1 z hz) hyx
theorem nW{lt:α->α->Bool}{S:α->Prop}(h:ER lt S):∀{l},(∀y∈l,S y)->oA lt (q6 lt l)
 |[],_=>by simp[q6,oA]
 |x::r,hS=>by
  unfold q6
  exact vV h x (hS x (by simp)) (fun y hy=>hS y (by have:=(jB lt r).mem_iff.1 hy;simp[this])) (nW h fun y hy=>hS y (by simp[hy]))
theorem ru{lt:α->α->Bool}{S:α->Prop}(h:ER lt S):∀{l r:List α},(∀y∈l,S y)->l.Perm r->oA lt l->oA lt r->l=r
 |[],r,_,hp,_,_=>(List.Perm.nil_eq hp)
 | x :: l,r,hS,hp,hl,hr => by
  cases r with
  |nil=>exact absurd hp.length_eq (by simp)
  | cons y r =>
   have hl':=vaV.1 hl
   have hr':=vaV.1 hr
   have hxS:=hS x (by simp)
   have hyS:=hS y (hp.mem_iff.2 (by simp))
   have hxy:x=y:=by
    have h1:x∈y::r:=hp.mem_iff.1 (by simp)
    have h2:y∈x::l:=hp.mem_iff.2 (by simp)
    rcases vay.1 h1 with h1|h1
    ·exact h1
    ·rcases vay.1 h2 with h2|h2
     ·exact h2.symm
     ·exact h.tot _ _ hxS hyS (hr'.1 x h1) (hl'.1 y h2)
   subst hxy
   rw[ru h (fun z hz=>hS z (by simp[hz])) hp.cons_inv hl'.2 hr'.2]
end
section
variable{α:Type}[DecidableEq α]
def Ij(ord:α->α->Option Int)(l:List α):Bool:=
 decide (l.length<=dW)&&(l.all (fun x=>l.all fun y=>(ord x y).isSome)&&(l.all (fun x=>!A8 ord x x)&&
 (l.all (fun x=>l.all fun y=>l.all fun z=>(!(A8 ord x y&&A8 ord y z)||A8 ord x z)&&((A8 ord x y||A8 ord y z)||!A8 ord x z))&&
 l.all fun x=>l.all fun y=>A8 ord x y||(A8 ord y x||decide (x=y)))))
def sI(ord:α->α->Option Int)(l:List α):Option (List α):=if Ij ord l=true then some (q6 (A8 ord) l)else none
theorem yi{ord:α->α->Option Int}{l:List α}(h:Ij ord l=true):l.length<=dW/\(∀x∈l,∀y∈l,∃r,ord x y=some r)/\ER (A8 ord) (·∈l):=by
  unfold Ij at h
  simp only[vac,vae,van,vaM,vaH]at h
  obtain⟨h1,h2,h3,h4,h5⟩:=h
  refine⟨h1,fun x hx y hy=>vaz.1 (h2 x hx y hy),fun x hx=>h3 x hx,fun x y z hx hy hz a b=>?_,fun x y z hx hy hz a b=>?_,fun x y hx hy a b=>?_⟩
  · rcases (h4 x hx y hy z hz).1 with h | h
    ·rw[a,b]at h;cases h
    ·exact h
  · rcases (h4 x hx y hy z hz).2 with (h | h) | h
    ·rw[a]at h;cases h
    ·rw[b]at h;cases h
    ·exact h
  · rcases h5 x hx y hy with h | h | h
    ·rw[a]at h;cases h
    ·rw[b]at h;cases h
    ·exact h
theorem AY{ord:α->α->Option Int}{l r l':List α}(h:sI ord l=some r)(hp:l'.Perm l)(hs:oA (A8 ord) l'):l'=r:=by
 unfold sI at h
 split at h
 ·rename_i hk
  cases h
  obtain⟨_,_,ho⟩:=yi hk
  exact ru ho (fun y hy=>hp.mem_iff.1 hy) (hp.trans (jB _ l).symm) hs (nW ho fun y hy=>hy)
 ·cases h
theorem F2{ord:α->α->Option Int}{l r:List α}(h:sI ord l=some r):Ij ord l=true/\r.length=l.length:=by
 unfold sI at h
 split at h
 ·rename_i hk
  cases h
  exact⟨hk,(jB _ l).length_eq⟩
 ·cases h
end
theorem dC{n:Int}(h1: -9223372036854775808<=n)(h2:n<9223372036854775808):bA n=n:=H5 h1 h2
theorem eX{α:Type}(l:List α)(i:Nat)(h:i<l.length):eQ l (i:Int)=some l[i]:=by
 unfold eQ
 rw[vaf (by omega)]
 simp[h]
theorem ja(l:ag)(i:Nat)(h:i<l.length):iJ l (i:Int)=some ((l[i].toNat:Int)):=by
 unfold iJ;rw[eX l i h];rfl
theorem oE(c:UInt8)(l:ag):iJ (c::l) 0=some (c.toNat:Int):=by
 have:=ja (c::l) 0 (by simp)
 simpa using this
theorem Fo{α:Type}(c:α)(l:List α):eQ (c::l) 0=some c:=by
 have:=eX (c::l) 0 (by simp)
 simpa using this
theorem Dd{α:Type}(l:List α)(i:Nat)(h:i<=l.length):AW l none (some (i:Int))=some (l.take i):=by
 simp[AW,bd,h]
theorem uG{α:Type}(l:List α)(i:Nat)(h:i<=l.length):AW l (some (i:Int)) none=some (l.drop i):=by
 simp[AW,bd,h]
theorem pw{α:Type}{l r:List α}(h:l.length+r.length<=1073741824):app l r=some (l++r):=vaf h
theorem qV{l r:ag}(h:l.length+r.length<=4611686018427387904):E5 l r=some (l++r):=vaf h
theorem cW{σ X:Type}{body:σ->Option (σ⊕X)}{s s':σ}(h:body s=some (.inl s')):loop body s=loop body s':=by rw[wR,h]
theorem aX{σ X:Type}{body:σ->Option (σ⊕X)}{s:σ}{x:X}(h:body s=some (.inr x)):loop body s=some x:=by rw[wR,h]
def lq{α σ X:Type}(f:Nat->α->σ->σ⊕X)(e:σ->X):List α->Nat->σ->X
 |[],_,s=>e s
 |x::r,i,s=>match f i x s with
  |.inl s'=>lq f e r (i+1) s'
  |.inr y=>y
theorem oG{α σ τ X:Type}(l:List α)(hl:l.length<9223372036854775808)(mk:Int->σ->τ)(body:τ->Option (τ⊕X))(I:Nat->σ->Prop)(f:Nat->α->σ->σ⊕X)(e:σ->X)
  (hin:∀(i:Nat) (h:i<l.length) s,I i s->body (mk i s)=some (match f i l[i] s with|.inl s'=>.inl (mk (bA ((i:Int)+1)) s')|.inr y=>.inr y)/\∀s',f i l[i] s=.inl s'->I (i+1) s')
  (hend:∀s,I l.length s->body (mk l.length s)=some (.inr (e s))):∀(i:Nat) (s:σ),i<=l.length->I i s->loop body (mk i s)=some (lq f e (l.drop i) i s):=by
 intro i s hi hI
 obtain⟨k,hk⟩:∃k,k+i=l.length:=⟨l.length - i,by omega⟩
 induction k generalizing i s with
 |zero=>
  have:i=l.length:=by omega
  subst this
  rw[wR,hend s hI,List.drop_length]
  rfl
 | succ k ih =>
  have hlt:i<l.length:=by omega
  obtain⟨h1,h2⟩:=hin i hlt s hI
  rw[wR,h1,vbb hlt]
  unfold lq
  cases hf:f i l[i] s with
  |inl s'=>
   simp only
   rw[dC (by omega) (by omega)]
   have:=ih (i+1) s' (by omega) (h2 s' hf) (by omega)
   rw[show((i:Int)+1)=((i+1:Nat):Int) by omega]
   exact this
  |inr y=>rfl
theorem Cj{α X:Type}(p:α->Bool)(y e:X):∀(l:List α) (i:Nat),lq (fun _ x (_:Unit)=>if p x=true then Sum.inr y else .inl ()) (fun _=>e) l i ()=if l.any p=true then y else e
 |[],i=>by simp[lq]
 | x :: l,i => by
  have ih:=Cj p y e l (i+1)
  unfold lq
  by_cases h:p x=true
  ·simp[h]
  ·simp only[h,if_false,ih,List.any_cons,vch,vas]
theorem j5{α X:Type}(l:List α)(hl:l.length<9223372036854775808)(body:Int->Option (Int⊕X))(p:α->Bool)(y e:X)
  (hin:∀(i:Nat) (h:i<l.length),body i=some (if p l[i]=true then .inr y else .inl (bA ((i:Int)+1)))) (hend:body l.length=some (.inr e)) (i:Nat) (hi:i<=l.length):
  loop body (i:Int)=some (if(l.drop i).any p=true then y else e):=by
 have:=oG l hl (fun i (_:Unit)=>i) body (fun _ _=>True) (fun _ x _=>if p x=true then Sum.inr y else .inl ()) (fun _=>e) (fun i h s _=>⟨?_,fun _ _=>trivial⟩) (fun s _=>hend) i () hi trivial
 ·rw[this,Cj]
 ·rw[hin i h]
  by_cases hp:p l[i]=true<;>simp[hp]
theorem zP{α X:Type}(p:α->Bool)(y:Nat->X)(e:X):∀(l:List α) (i:Nat),lq (fun j x (_:Unit)=>if p x=true then Sum.inr (y j)else .inl ()) (fun _=>e) l i ()=match l.findIdx? p with|some j=>y (i+j)|none=>e
 |[],i=>by simp[lq]
 | x :: l,i => by
  have ih:=zP p y e l (i+1)
  unfold lq
  rw[List.findIdx?_cons]
  by_cases h:p x=true
  ·simp[h]
  ·simp only[h,if_false,ih,vas]
   cases l.findIdx? p with
   |none=>rfl
   |some j=>simp only[vaj];congr 1;omega
theorem uV{α X:Type}(l:List α)(hl:l.length<9223372036854775808)(body:Int->Option (Int⊕X))(p:α->Bool)(y:Nat->X)(e:X)
  (hin:∀(i:Nat) (h:i<l.length),body i=some (if p l[i]=true then .inr (y i)else .inl (bA ((i:Int)+1)))) (hend:body l.length=some (.inr e)):
  loop body (0:Int)=some (match l.findIdx? p with|some j=>y j|none=>e):=by
 have:=oG l hl (fun i (_:Unit)=>i) body (fun _ _=>True) (fun j x _=>if p x=true then Sum.inr (y j)else .inl ()) (fun _=>e) (fun i h s _=>⟨?_,fun _ _=>trivial⟩) (fun s _=>hend) 0 () (vaJ _) trivial
 ·simp only[Int.ofNat_zero,vbf]at this
  have this2:=zP p y e l 0
  simp only[vaB]at this2
  rw[<-this2]
  exact this
 ·rw[hin i h]
  by_cases hp:p l[i]=true<;>simp[hp]
section
variable{α β σ τ X Y:Type}
theorem oF(l:List α)(hl:l.length<9223372036854775808)(body:Int->Option (Int⊕X))(k:Int->α->Option (Int⊕X))(p:α->Bool)(y e:X)
  (hb:∀(i:Int),body i=if decide (i<(l.length:Int))=true then(eQ l i).bind (k i)else some (.inr e))
  (hk:∀x∈l,∀i,k i x=some (if p x=true then .inr y else .inl (bA (i+1)))):loop body 0=some (if l.any p=true then y else e):=by
 have:=j5 l hl body p y e (fun i hi=>?_) (by rw[hb,vag (by simp)]) 0 (vaJ _)
 ·rw[vbf]at this
  exact this
 ·rw[hb,vaf (by simp;omega),eX l i hi]
  simp only[vaa]
  exact hk _ (vaP hi) i
theorem CY(l:List α)(hl:l.length<9223372036854775808)(body:Int->Option (Int⊕(Int⊕Unit)))(k:Int->α->Option (Int⊕(Int⊕Unit)))(p:α->Bool)
  (hb:∀(i:Int),body i=if decide (i<(l.length:Int))=true then(eQ l i).bind (k i)else some (.inr (.inr ())))
  (hk:∀x∈l,∀i,k i x=some (if p x=true then .inr (.inl i)else .inl (bA (i+1)))):loop body 0=some (match l.findIdx? p with|some j=>.inl (j:Int)|none=>.inr ()):=by
 refine uV l hl body p (fun j=>.inl (j:Int)) (.inr ()) (fun i hi=>?_) (by rw[hb,vag (by simp)])
 rw[hb,vaf (by simp;omega),eX l i hi]
 simp only[vaa]
 exact hk _ (vaP hi) i
theorem td(l:List α)(hl:l.length<9223372036854775808)(mk:Int->σ->τ)(body:τ->Option (τ⊕X))(k:Int->σ->α->Option (τ⊕X))(I:Nat->σ->Prop)(g:α->σ->σ)(e:σ->X)(s0:σ)(h0:I 0 s0)
  (hb:∀(i:Int) (s:σ),body (mk i s)=if decide (i<(l.length:Int))=true then(eQ l i).bind (k i s)else some (.inr (e s)))
  (hin:∀(i:Nat) (h:i<l.length) s,I i s->k i s l[i]=some (.inl (mk (bA ((i:Int)+1)) (g l[i] s)))/\I (i+1) (g l[i] s)):loop body (mk 0 s0)=some (e (l.foldl (fun s x=>g x s) s0)):=by
 have:=oG l hl mk body I (fun _ x s=>.inl (g x s)) e (fun i h s hs=>⟨?_,fun s' hs'=>by cases hs';exact(hin i h s hs).2⟩) (fun s hs=>by rw[hb,vag (by simp)]) 0 s0 (vaJ _) h0
 ·rw[vbf,show((0:Nat):Int)=0 from rfl]at this
  rw[this]
  have key:∀(l:List α) (i:Nat) (s:σ),lq (fun _ x (s:σ)=>(Sum.inl (g x s):σ⊕X)) e l i s=e (l.foldl (fun s x=>g x s) s):=by
   intro l
   induction l with
   |nil=>intro i s;rfl
   |cons x l ih=>intro i s;unfold lq;simp only;rw[ih];rfl
  rw[key]
 ·rw[hb,vaf (by simp;omega),eX l i h]
  simp only[vaa]
  exact(hin i h s hs).1
end
theorem tc{σ X:Type}(n:Nat)(body:σ->Option (σ⊕X))(S:Nat->σ)(e:X)(hin:∀i,i<n->body (S i)=some (.inl (S (i+1))))(hend:body (S n)=some (.inr e)):loop body (S 0)=some e:=by
 have key:∀k i,k+i=n->loop body (S i)=some e:=by
  intro k
  induction k with
  |zero=>
   intro i hi
   have:i=n:=by omega
   subst this
   exact aX hend
  |succ k ih=>
   intro i hi
   rw[cW (hin i (by omega))]
   exact ih (i+1) (by omega)
 exact key n 0 (by omega)
def Ef(X:Nat->Int):Prop:=∀L,X L=0\/X L=1\/X L=2
def mx(a b:Int):Int:=if b>a then b else a
def xv(X Y:Nat->Int)(f t m:Nat)(b:Int):Int:=if X (f * 6+m)>0/\Y (m * 6+t)>0 then mx (mx b (X (f * 6+m))) (Y (m * 6+t))else b
def zy(X Y:Nat->Int)(f t:Nat):Nat->Int
 |0=>0
 |m+1=>xv X Y f t m (zy X Y f t m)
theorem DI(a b:Int):a<=mx a b/\b<=mx a b/\(mx a b=a\/mx a b=b):=by unfold mx;split<;>omega
theorem KK{a x y:Int}(ha:a=0\/a=1\/a=2)(hx:x=0\/x=1\/x=2)(hy:y=0\/y=1\/y=2)(h1:x>0)(h2:y>0):(mx (mx a x) y=0\/mx (mx a x) y=1\/mx (mx a x) y=2)/\mx (mx a x) y>0/\(mx (mx a x) y=2↔a=2\/x=2\/y=2):=by
 have s1:=DI a x
 have s2:=DI (mx a x) y
 omega
theorem iY{X Y:Nat->Int}(hX:Ef X)(hY:Ef Y)(f t:Nat):∀n,(zy X Y f t n=0\/zy X Y f t n=1\/zy X Y f t n=2)/\(zy X Y f t n>0↔∃m,m<n/\X (f * 6+m)>0/\Y (m * 6+t)>0)/\
  (zy X Y f t n=2↔∃m,m<n/\X (f * 6+m)>0/\Y (m * 6+t)>0/\(X (f * 6+m)=2\/Y (m * 6+t)=2))
 | 0 => by
  refine⟨.inl rfl,⟨fun h=>?_,fun⟨m,h,_⟩=>absurd h (vaI _)⟩,⟨fun h=>?_,fun⟨m,h,_⟩=>absurd h (vaI _)⟩⟩
  ·simp[zy]at h
  ·simp[zy]at h
 | n + 1 => by
  obtain⟨h1,h2,h3⟩:=iY hX hY f t n
  have hx:=hX (f * 6+n)
  have hy:=hY (n * 6+t)
  unfold zy xv
  by_cases hc:X (f * 6+n)>0/\Y (n * 6+t)>0
  ·rw[vaf hc]
   obtain⟨m1,m2,m3⟩:=KK h1 hx hy hc.1 hc.2
   refine⟨m1,⟨fun _=>⟨n,vb1 n,hc.1,hc.2⟩,fun _=>m2⟩,m3.trans ⟨fun h=>?_,fun⟨m,hm,a,b,hh⟩=>?_⟩⟩
   ·rcases h with h|h
    ·obtain⟨m,hm,hh⟩:=h3.1 h
     exact⟨m,Nat.lt_succ_of_lt hm,hh⟩
    ·exact⟨n,vb1 n,hc.1,hc.2,h⟩
   ·by_cases hmn:m=n
    ·subst hmn;exact .inr hh
    ·exact .inl (h3.2 ⟨m,by omega,a,b,hh⟩)
  ·rw[vag hc]
   refine⟨h1,h2.trans ⟨fun⟨m,hm,hh⟩=>⟨m,by omega,hh⟩,fun⟨m,hm,a,b⟩=>?_⟩,h3.trans ⟨fun⟨m,hm,hh⟩=>⟨m,by omega,hh⟩,fun⟨m,hm,a,b,hh⟩=>?_⟩⟩
   ·by_cases hmn:m=n
    ·subst hmn;exact absurd ⟨a,b⟩ hc
    ·exact⟨m,by omega,a,b⟩
   ·by_cases hmn:m=n
    ·subst hmn;exact absurd ⟨a,b⟩ hc
    ·exact⟨m,by omega,a,b,hh⟩
def j6(X Y:Nat->Int)(L:Nat):Int:=if L<36 then zy X Y (L / 6) (L % 6) 6 else 0
theorem j7{X Y:Nat->Int}{f t:Nat}(hf:f<6)(ht:t<6):j6 X Y (f * 6+t)=zy X Y f t 6:=by
 unfold j6
 rw[vaf (by omega),show(f * 6+t) / 6=f by omega,show(f * 6+t) % 6=t by omega]
theorem uf{X Y:Nat->Int}(hX:Ef X)(hY:Ef Y):Ef (j6 X Y):=fun L=>by
 unfold j6
 split
 ·exact(iY hX hY _ _ 6).1
 ·exact .inl rfl
def BH(X Y:Nat->Int):Prop:=∀f t,f<6->t<6->X (f * 6+t)=Y (f * 6+t)
theorem HE{a b:Int}(ha:a=0\/a=1\/a=2)(hb:b=0\/b=1\/b=2)(h1:a>0↔b>0)(h2:a=2↔b=2):a=b:=by omega
theorem yc{X X' Y Y':Nat->Int}(h1:BH X X')(h2:BH Y Y'):BH (j6 X Y) (j6 X' Y'):=fun f t hf ht=>by
 rw[j7 hf ht,j7 hf ht]
 have key:∀n,n<=6->zy X Y f t n=zy X' Y' f t n:=by
  intro n
  induction n with
  |zero=>intro _;rfl
  |succ n ih=>
   intro hn
   unfold zy xv
   rw[ih (by omega),h1 f n hf (by omega),h2 n t (by omega) ht]
 exact key 6 (vap _)
theorem CZ{X Y Z:Nat->Int}(hX:Ef X)(hY:Ef Y)(hZ:Ef Z):BH (j6 (j6 X Y) Z) (j6 X (j6 Y Z)):=fun f t hf ht=>by
 rw[j7 hf ht,j7 hf ht]
 have hXY:=uf hX hY
 have hYZ:=uf hY hZ
 obtain⟨a1,a2,a3⟩:=iY hXY hZ f t 6
 obtain⟨b1,b2,b3⟩:=iY hX hYZ f t 6
 have pXY:∀m,m<6->(j6 X Y (f * 6+m)>0↔∃k,k<6/\X (f * 6+k)>0/\Y (k * 6+m)>0):=fun m hm=>by rw[j7 hf hm];exact(iY hX hY f m 6).2.1
 have tXY:∀m,m<6->(j6 X Y (f * 6+m)=2↔∃k,k<6/\X (f * 6+k)>0/\Y (k * 6+m)>0/\(X (f * 6+k)=2\/Y (k * 6+m)=2)):=fun m hm=>by rw[j7 hf hm];exact(iY hX hY f m 6).2.2
 have pYZ:∀k,k<6->(j6 Y Z (k * 6+t)>0↔∃m,m<6/\Y (k * 6+m)>0/\Z (m * 6+t)>0):=fun k hk=>by rw[j7 hk ht];exact(iY hY hZ k t 6).2.1
 have tYZ:∀k,k<6->(j6 Y Z (k * 6+t)=2↔∃m,m<6/\Y (k * 6+m)>0/\Z (m * 6+t)>0/\(Y (k * 6+m)=2\/Z (m * 6+t)=2)):=fun k hk=>by rw[j7 hk ht];exact(iY hY hZ k t 6).2.2
 refine HE a1 b1 (a2.trans (Iff.trans ?_ b2.symm)) (a3.trans (Iff.trans ?_ b3.symm))
 ·constructor
  ·rintro⟨m,hm,h1,h2⟩
   obtain⟨k,hk,h3,h4⟩:=(pXY m hm).1 h1
   exact⟨k,hk,h3,(pYZ k hk).2 ⟨m,hm,h4,h2⟩⟩
  ·rintro⟨k,hk,h1,h2⟩
   obtain⟨m,hm,h3,h4⟩:=(pYZ k hk).1 h2
   exact⟨m,hm,(pXY m hm).2 ⟨k,hk,h1,h3⟩,h4⟩
 ·constructor
  ·rintro⟨m,hm,h1,h2,h5⟩
   rcases h5 with h5|h5
   ·obtain⟨k,hk,h3,h4,h6⟩:=(tXY m hm).1 h5
    refine⟨k,hk,h3,(pYZ k hk).2 ⟨m,hm,h4,h2⟩,?_⟩
    rcases h6 with h6|h6
    ·exact .inl h6
    ·exact .inr ((tYZ k hk).2 ⟨m,hm,h4,h2,.inl h6⟩)
   ·obtain⟨k,hk,h3,h4⟩:=(pXY m hm).1 h1
    exact⟨k,hk,h3,(pYZ k hk).2 ⟨m,hm,h4,h2⟩,.inr ((tYZ k hk).2 ⟨m,hm,h4,h2,.inr h5⟩)⟩
  ·rintro⟨k,hk,h1,h2,h5⟩
   rcases h5 with h5|h5
   ·obtain⟨m,hm,h3,h4⟩:=(pYZ k hk).1 h2
    exact⟨m,hm,(pXY m hm).2 ⟨k,hk,h1,h3⟩,h4,.inl ((tXY m hm).2 ⟨k,hk,h1,h3,.inl h5⟩)⟩
   ·obtain⟨m,hm,h3,h4,h6⟩:=(tYZ k hk).1 h5
    refine⟨m,hm,(pXY m hm).2 ⟨k,hk,h1,h3⟩,h4,?_⟩
    rcases h6 with h6|h6
    ·exact .inl ((tXY m hm).2 ⟨k,hk,h1,h3,.inr h6⟩)
    ·exact .inr h6
def rg(x:ah):Prop:=0<=x.From/\x.From<6/\0<=x.To/\x.To<6
instance(x:ah):Decidable (rg x):=by unfold rg;infer_instance
def ix(x:ah):Nat:=x.From.toNat * 6+x.To.toNat
def wt(x:ah):Int:=if x.Strict=true then 2 else 1
def AB(l:List ah):Prop:=(∀x∈l,rg x)/\l.Pairwise fun x y=>ix x<ix y
def A0:List ah->(Nat->Int)->(Nat->Int)
 |[],m=>m
 |x::r,m=>A0 r (iB m (ix x) (wt x))
def eM(l:List ah):Nat->Int:=A0 l (sT 0)
theorem I4{x:ah}(h:rg x):ix x<36:=by unfold rg at h;unfold ix;omega
theorem yN(x:ah):wt x=1\/wt x=2:=by unfold wt;split<;>simp
theorem vL:∀(l:List ah) (m:Nat->Int) (L:Nat),(∀x∈l,ix x≠L)->A0 l m L=m L
 |[],_,_,_=>rfl
 |x::r,m,L,h=>by
  unfold A0
  rw[vL r _ L fun y hy=>h y (by simp[hy])]
  unfold iB
  rw[vag (fun e=>h x (by simp) e.symm)]
theorem zT:∀(l:List ah) (m:Nat->Int),(l.Pairwise fun x y=>ix x<ix y)->∀x∈l,A0 l m (ix x)=wt x
 |[],_,_,x,h=>by cases h
 | y :: r,m,hp,x,h => by
  obtain⟨h1,h2⟩:=vaV.1 hp
  unfold A0
  rcases vay.1 h with rfl|h
  ·rw[vL r _ _ fun z hz=>by have:=h1 z hz;omega]
   unfold iB;rw[vaf rfl]
  ·exact zT r _ h2 x h
theorem Co:∀(l:List ah) (m:Nat->Int),Ef m->Ef (A0 l m)
 |[],_,h=>h
 | x :: r,m,h => by
  unfold A0
  refine Co r _ fun L=>?_
  unfold iB
  split
  ·have:=yN x;omega
  ·exact h L
theorem lr(l:List ah):Ef (eM l):=Co l _ fun L=>.inl rfl
theorem ry{l:List ah}(h:AB l){x:ah}(hx:x∈l):eM l (ix x)=wt x:=zT l _ h.2 x hx
theorem yK{l:List ah}{L:Nat}(h:eM l L>0):∃x∈l,ix x=L:=by
 by_cases hc:∃x∈l,ix x=L
 ·exact hc
 ·have:eM l L=0:=by
   unfold eM
   rw[vL l _ L fun x hx e=>hc ⟨x,hx,e⟩]
   rfl
  omega
def lA(M:Nat->Int)(L:Nat):ah:=⟨(L / 6:Nat),(L % 6:Nat),M L==2⟩
def kW(M:Nat->Int):List ah:=(List.range 36).filterMap fun L=>if M L>0 then some (lA M L)else none
theorem ub(M:Nat->Int)(L:Nat):ix (lA M L)=L:=by
 unfold ix lA
 simp only[Int.toNat_natCast]
 omega
theorem oJ{M:Nat->Int}{x:ah}:x∈kW M↔∃L,L<36/\M L>0/\x=lA M L:=by
 unfold kW
 rw[vbE]
 constructor
 ·rintro⟨L,hL,hx⟩
  split at hx
  ·cases hx;exact⟨L,vba.1 hL,by assumption,rfl⟩
  ·cases hx
 ·rintro⟨L,hL,hp,rfl⟩
  exact⟨L,vba.2 hL,by rw[vaf hp]⟩
theorem vB(M:Nat->Int):AB (kW M):=by
 refine⟨fun x hx=>?_,?_⟩
 ·obtain⟨L,hL,_,rfl⟩:=oJ.1 hx
  unfold rg lA
  simp only
  omega
 ·unfold kW
  rw[List.pairwise_filterMap]
  refine List.Pairwise.imp ?_ List.pairwise_lt_range
  intro a b hab x hx y hy
  split at hx
  ·split at hy
   ·cases hx;cases hy;rw[ub,ub];exact hab
   ·cases hy
  ·cases hx
theorem F4{M:Nat->Int}(h:Ef M){L:Nat}(hp:M L>0):wt (lA M L)=M L:=by
 unfold wt lA
 have:=h L
 by_cases h2:M L=2
 ·simp[h2]
 ·have h3:M L=1:=by omega
  simp[h3]
theorem zU{M:Nat->Int}(h:Ef M):BH (eM (kW M)) M:=fun f t hf ht=>by
 by_cases hp:M (f * 6+t)>0
 ·have hm:lA M (f * 6+t)∈kW M:=oJ.2 ⟨f * 6+t,by omega,hp,rfl⟩
  have:=ry (vB M) hm
  rw[ub,F4 h hp]at this
  exact this
 ·have h0:M (f * 6+t)=0:=by have:=h (f * 6+t);omega
  rw[h0]
  by_cases hq:eM (kW M) (f * 6+t)>0
  ·obtain⟨x,hx,hxi⟩:=yK hq
   obtain⟨L,hL,hpL,rfl⟩:=oJ.1 hx
   rw[ub]at hxi
   subst hxi
   exact absurd hpL hp
  ·have:=lr (kW M) (f * 6+t);omega
theorem DB{α:Type}(f:α->Nat):∀{l r:List α},l.Pairwise (fun x y=>f x<f y)->r.Pairwise (fun x y=>f x<f y)->(∀x,x∈l↔x∈r)->l=r
 |[],[],_,_,_=>rfl
 |[],y::r,_,_,h=>by have:=(h y).2 (by simp);cases this
 |x::l,[],_,_,h=>by have:=(h x).1 (by simp);cases this
 | x :: l,y :: r,hl,hr,h => by
  obtain⟨l1,l2⟩:=vaV.1 hl
  obtain⟨r1,r2⟩:=vaV.1 hr
  have hxy:x=y:=by
   have h1:=(h x).1 (by simp)
   have h2:=(h y).2 (by simp)
   rcases vay.1 h1 with h1|h1
   ·exact h1
   ·rcases vay.1 h2 with h2|h2
    ·exact h2.symm
    ·have:=r1 x h1;have:=l1 y h2;omega
  subst hxy
  rw[DB f l2 r2 fun z=>⟨fun hz=>?_,fun hz=>?_⟩]
  ·rcases vay.1 ((h z).1 (by simp[hz]))with rfl|hh
   ·exact absurd (l1 z hz) (vbz _)
   ·exact hh
  ·rcases vay.1 ((h z).2 (by simp[hz]))with rfl|hh
   ·exact absurd (r1 z hz) (vbz _)
   ·exact hh
theorem Bn{l:List ah}(h:AB l){x:ah}(hx:x∈l):lA (eM l) (ix x)=x:=by
 obtain⟨a,b,c,d⟩:=h.1 x hx
 have hw:=ry h hx
 unfold lA
 rw[hw]
 have e1:((ix x / 6:Nat):Int)=x.From:=by unfold ix;omega
 have e2:((ix x % 6:Nat):Int)=x.To:=by unfold ix;omega
 obtain⟨xf,xt,xs⟩:=x
 simp only at e1 e2 ⊢
 rw[e1,e2]
 unfold wt
 cases xs<;>rfl
theorem DZ{l:List ah}(h:AB l):kW (eM l)=l:=by
 refine DB ix (vB _).2 h.2 fun x=>⟨fun hx=>?_,fun hx=>?_⟩
 ·obtain⟨L,hL,hp,rfl⟩:=oJ.1 hx
  obtain⟨y,hy,rfl⟩:=yK hp
  rw[Bn h hy];exact hy
 ·refine oJ.2 ⟨ix x,I4 (h.1 x hx),?_,(Bn h hx).symm⟩
  rw[ry h hx]
  have:=yN x;omega
theorem BN{α β:Type}{f g:α->Option β}:∀{l:List α},(∀x∈l,f x=g x)->l.filterMap f=l.filterMap g
 |[],_=>rfl
 |x::l,h=>by rw[List.filterMap_cons,List.filterMap_cons,h x (by simp),BN fun y hy=>h y (by simp[hy])]
theorem Bo{M M':Nat->Int}(h:BH M M'):kW M=kW M':=by
 unfold kW
 refine BN fun L hL=>?_
 have hL':=vba.1 hL
 have:=h (L / 6) (L % 6) (by omega) (by omega)
 rw[show L / 6 * 6+L % 6=L by omega]at this
 unfold lA
 rw[this]
def cz(a b:aa):aa:=⟨a.Caller,b.Callee,kW (j6 (eM a.Arcs) (eM b.Arcs))⟩
theorem BC(a b c:aa):cz (cz a b) c=cz a (cz b c):=by
 unfold cz
 simp only
 congr 1
 have hA:=lr a.Arcs;have hB:=lr b.Arcs;have hC:=lr c.Arcs
 have e1:BH (j6 (eM (kW (j6 (eM a.Arcs) (eM b.Arcs)))) (eM c.Arcs)) (j6 (j6 (eM a.Arcs) (eM b.Arcs)) (eM c.Arcs)):=yc (zU (uf hA hB)) fun _ _ _ _=>rfl
 have e2:BH (j6 (eM a.Arcs) (eM (kW (j6 (eM b.Arcs) (eM c.Arcs))))) (j6 (eM a.Arcs) (j6 (eM b.Arcs) (eM c.Arcs))):=yc (fun _ _ _ _=>rfl) (zU (uf hB hC))
 have e3:=CZ hA hB hC
 exact Bo fun f t hf ht=>(e1 f t hf ht).trans ((e3 f t hf ht).trans (e2 f t hf ht).symm)
end Go.Proofs.YtoficachfgggjaaDoor
namespace Go.Proofs
open Go.Shelf
noncomputable def Tryd.laysM171_ren : Go.Shelf.Ren := ⟨fun | 171 => 31 | 243 => 54 | 246 => 74 | 283 => 89 | 284 => 90 | 285 => 91 | 286 => 92 | 129 => 84 | 317 => 98 | 318 => 99 | 319 => 100 | 320 => 101 | 337 => 103 | 338 => 104 | n => n, fun | 3 => 3 | 9 => 9 | 2 => 2 | 4 => 4 | 171 => 104 | 0 => 0 | 53 => 99 | 37 => 70 | 5 => 5 | 173 => 106 | 212 => 115 | 51 => 97 | 20 => 20 | 213 => 116 | 46 => 78 | 232 => 120 | 233 => 121 | n => n, fun | 17 => 1 | 18 => 2 | 19 => 3 | n => n⟩
theorem Tryd.laysM171 : Go.Proofs.LaysM.n171 Tryd.prog Tryd.laysM171_ren := {
 mixed := by kernel_rfl
 f129 := Tryd.func84.trans (congrArg some (by kernel_rfl))
 f171 := Tryd.func31.trans (congrArg some (by kernel_rfl))
 f243 := Tryd.func54.trans (congrArg some (by kernel_rfl))
 f246 := Tryd.func74.trans (congrArg some (by kernel_rfl))
 f283 := Tryd.func89.trans (congrArg some (by kernel_rfl))
 f284 := Tryd.func90.trans (congrArg some (by kernel_rfl))
 f285 := Tryd.func91.trans (congrArg some (by kernel_rfl))
 f286 := Tryd.func92.trans (congrArg some (by kernel_rfl))
 f317 := Tryd.func98.trans (congrArg some (by kernel_rfl))
 f318 := Tryd.func99.trans (congrArg some (by kernel_rfl))
 f319 := Tryd.func100.trans (congrArg some (by kernel_rfl))
 f320 := Tryd.func101.trans (congrArg some (by kernel_rfl))
 f337 := Tryd.func103.trans (congrArg some (by kernel_rfl))
 f338 := Tryd.func104.trans (congrArg some (by kernel_rfl))
 t0 := Tryd.underlying0
 a0 := Tryd.isAgg0
 z0 := Tryd.sizeOf0
 v0 := Tryd.zeroValue0
 t2 := Tryd.underlying2
 a2 := Tryd.isAgg2
 z2 := Tryd.sizeOf2
 v2 := Tryd.zeroValue2
 t3 := Tryd.underlying3
 a3 := Tryd.isAgg3
 z3 := Tryd.sizeOf3
 v3 := Tryd.zeroValue3
 t4 := Tryd.underlying4
 a4 := Tryd.isAgg4
 z4 := Tryd.sizeOf4
 v4 := Tryd.zeroValue4
 t5 := Tryd.underlying5
 a5 := Tryd.isAgg5
 z5 := Tryd.sizeOf5
 v5 := Tryd.zeroValue5
 t9 := Tryd.underlying9
 a9 := Tryd.isAgg9
 z9 := Tryd.sizeOf9
 v9 := Tryd.zeroValue9
 t20 := Tryd.underlying20
 a20 := Tryd.isAgg20
 z20 := Tryd.sizeOf20
 v20 := Tryd.zeroValue20
 t37 := Tryd.underlying70
 a37 := Tryd.isAgg70
 z37 := Tryd.sizeOf70
 v37 := Tryd.zeroValue70
 t46 := Tryd.underlying78
 a46 := Tryd.isAgg78
 z46 := Tryd.sizeOf78
 v46 := Tryd.zeroValue78
 t51 := Tryd.underlying97
 a51 := Tryd.isAgg97
 z51 := Tryd.sizeOf97
 v51 := Tryd.zeroValue97
 t53 := Tryd.underlying99
 a53 := Tryd.isAgg99
 z53 := Tryd.sizeOf99
 v53 := Tryd.zeroValue99
 t171 := Tryd.underlying104
 a171 := Tryd.isAgg104
 z171 := Tryd.sizeOf104
 v171 := Tryd.zeroValue104
 t173 := Tryd.underlying106
 a173 := Tryd.isAgg106
 z173 := Tryd.sizeOf106
 v173 := Tryd.zeroValue106
 t212 := Tryd.underlying115
 a212 := Tryd.isAgg115
 z212 := Tryd.sizeOf115
 v212 := Tryd.zeroValue115
 t213 := Tryd.underlying116
 a213 := Tryd.isAgg116
 z213 := Tryd.sizeOf116
 t232 := Tryd.underlying120
 a232 := Tryd.isAgg120
 z232 := Tryd.sizeOf120
 v232 := Tryd.zeroValue120
 t233 := Tryd.underlying121
 a233 := Tryd.isAgg121
 z233 := Tryd.sizeOf121
 v233 := Tryd.zeroValue121
 g17 := by kernel_rfl
 g18 := by kernel_rfl
 g19 := by kernel_rfl
 i0 := by kernel_rfl
 i2 := by kernel_rfl
 i3 := by kernel_rfl
 i4 := by kernel_rfl
 i5 := by kernel_rfl
 i9 := by kernel_rfl
 i20 := by kernel_rfl
 i37 := by kernel_rfl
 i46 := by kernel_rfl
 i51 := by kernel_rfl
 i53 := by kernel_rfl
 i171 := by kernel_rfl
 i173 := by kernel_rfl
 i212 := by kernel_rfl
 i232 := by kernel_rfl
 i233 := by kernel_rfl
 m17 := by kernel_rfl
 m18 := by kernel_rfl
 m19 := by kernel_rfl }
noncomputable def Tryd.lc37_ren : Go.Shelf.Ren := ⟨fun | 41 => 37 | n => n, fun | 22 => 22 | 23 => 43 | 4 => 4 | n => n, fun | n => n⟩
theorem Tryd.lc37 : Go.Proofs.SlLaysE0.n41 Tryd.prog Tryd.lc37_ren := {
 mixed := by kernel_rfl
 f41 := ⟨Tryd.f37.name, by decide, Tryd.func37.trans (congrArg some (by kernel_rfl))⟩
 t4 := Tryd.underlying4
 a4 := Tryd.isAgg4
 z4 := Tryd.sizeOf4
 v4 := Tryd.zeroValue4
 t22 := Tryd.underlying22
 a22 := Tryd.isAgg22
 z22 := Tryd.sizeOf22
 v22 := Tryd.zeroValue22 }
noncomputable def Tryd.sf38_ren : Go.Shelf.Ren := ⟨fun | 6 => 38 | 15 => 57 | 14 => 56 | 28 => 83 | 29 => 84 | 20 => 75 | 21 => 76 | 22 => 77 | 23 => 78 | 24 => 79 | 25 => 80 | 26 => 81 | 27 => 82 | 46 => 93 | 47 => 94 | 48 => 95 | 49 => 96 | 50 => 97 | 57 => 102 | n => n, fun | 22 => 33 | 24 => 24 | 25 => 60 | 3 => 3 | 39 => 78 | 0 => 0 | 53 => 97 | 55 => 99 | 4 => 4 | 46 => 90 | 45 => 89 | 50 => 94 | 5 => 5 | 9 => 9 | 66 => 108 | 70 => 112 | 76 => 117 | 77 => 118 | n => n, fun | n => n⟩
theorem Tryd.sf38 : Go.Proofs.SlLaysF0.n6 Tryd.prog Tryd.sf38_ren := {
 mixed := by kernel_rfl
 f6 := ⟨Tryd.f38.name, by decide, Tryd.func38.trans (congrArg some (by kernel_rfl))⟩
 f14 := ⟨Tryd.f56.name, by decide, Tryd.func56.trans (congrArg some (by kernel_rfl))⟩
 f15 := Tryd.func57.trans (congrArg some (by kernel_rfl))
 f20 := ⟨Tryd.f75.name, by decide, Tryd.func75.trans (congrArg some (by kernel_rfl))⟩
 f21 := ⟨Tryd.f76.name, by decide, Tryd.func76.trans (congrArg some (by kernel_rfl))⟩
 f22 := ⟨Tryd.f77.name, by decide, Tryd.func77.trans (congrArg some (by kernel_rfl))⟩
 f23 := ⟨Tryd.f78.name, by decide, Tryd.func78.trans (congrArg some (by kernel_rfl))⟩
 f24 := ⟨Tryd.f79.name, by decide, Tryd.func79.trans (congrArg some (by kernel_rfl))⟩
 f25 := ⟨Tryd.f80.name, by decide, Tryd.func80.trans (congrArg some (by kernel_rfl))⟩
 f26 := ⟨Tryd.f81.name, by decide, Tryd.func81.trans (congrArg some (by kernel_rfl))⟩
 f27 := ⟨Tryd.f82.name, by decide, Tryd.func82.trans (congrArg some (by kernel_rfl))⟩
 f28 := Tryd.func83.trans (congrArg some (by kernel_rfl))
 f29 := Tryd.func84.trans (congrArg some (by kernel_rfl))
 f46 := ⟨Tryd.f93.name, by decide, Tryd.func93.trans (congrArg some (by kernel_rfl))⟩
 f47 := Tryd.func94.trans (congrArg some (by kernel_rfl))
 f48 := Tryd.func95.trans (congrArg some (by kernel_rfl))
 f49 := ⟨Tryd.f96.name, by decide, Tryd.func96.trans (congrArg some (by kernel_rfl))⟩
 f50 := ⟨Tryd.f97.name, by decide, Tryd.func97.trans (congrArg some (by kernel_rfl))⟩
 f57 := ⟨Tryd.f102.name, by decide, Tryd.func102.trans (congrArg some (by kernel_rfl))⟩
 t0 := Tryd.underlying0
 a0 := Tryd.isAgg0
 z0 := Tryd.sizeOf0
 v0 := Tryd.zeroValue0
 t3 := Tryd.underlying3
 a3 := Tryd.isAgg3
 z3 := Tryd.sizeOf3
 v3 := Tryd.zeroValue3
 t4 := Tryd.underlying4
 a4 := Tryd.isAgg4
 z4 := Tryd.sizeOf4
 v4 := Tryd.zeroValue4
 t5 := Tryd.underlying5
 a5 := Tryd.isAgg5
 z5 := Tryd.sizeOf5
 v5 := Tryd.zeroValue5
 t9 := Tryd.underlying9
 a9 := Tryd.isAgg9
 z9 := Tryd.sizeOf9
 v9 := Tryd.zeroValue9
 t22 := Tryd.underlying33
 a22 := Tryd.isAgg33
 z22 := Tryd.sizeOf33
 v22 := Tryd.zeroValue33
 t25 := Tryd.underlying60
 a25 := Tryd.isAgg60
 z25 := Tryd.sizeOf60
 v25 := Tryd.zeroValue60
 t39 := Tryd.underlying78
 a39 := Tryd.isAgg78
 z39 := Tryd.sizeOf78
 v39 := Tryd.zeroValue78
 t45 := Tryd.underlying89
 a45 := Tryd.isAgg89
 z45 := Tryd.sizeOf89
 v45 := Tryd.zeroValue89
 t46 := Tryd.underlying90
 a46 := Tryd.isAgg90
 z46 := Tryd.sizeOf90
 v46 := Tryd.zeroValue90
 t50 := Tryd.underlying94
 a50 := Tryd.isAgg94
 z50 := Tryd.sizeOf94
 v50 := Tryd.zeroValue94
 t53 := Tryd.underlying97
 a53 := Tryd.isAgg97
 z53 := Tryd.sizeOf97
 v53 := Tryd.zeroValue97
 t55 := Tryd.underlying99
 a55 := Tryd.isAgg99
 z55 := Tryd.sizeOf99
 v55 := Tryd.zeroValue99
 t66 := Tryd.underlying108
 a66 := Tryd.isAgg108
 z66 := Tryd.sizeOf108
 v66 := Tryd.zeroValue108
 t70 := Tryd.underlying112
 a70 := Tryd.isAgg112
 z70 := Tryd.sizeOf112
 v70 := Tryd.zeroValue112
 t76 := Tryd.underlying117
 a76 := Tryd.isAgg117
 z76 := Tryd.sizeOf117
 v76 := Tryd.zeroValue117
 t77 := Tryd.underlying118
 a77 := Tryd.isAgg118
 z77 := Tryd.sizeOf118
 v77 := Tryd.zeroValue118 }
end Go.Proofs
namespace Go.Proofs.YtoficachfgggjaaDoor
open Go Go.Shelf Go.RowKit Go.Lib Go.Sort
set_option linter.unusedSimpArgs false
set_option linter.unusedVariables false
def PVal.kd:PVal->Nat
 |.int _ _=>1
 |.bool _=>2
 |.str _=>3
 |.slice _=>4
 |_=>0
def Jw:Value->Nat
 |.int _ _=>1
 |.bool _=>2
 |.string _=>3
 |.slice _ _ _=>4
 |_=>0
theorem VR.kd_eq{Γ:az}{bs:aH}{w:World}{p:PVal}{v:Value}(h:VR Γ bs w p v)(hp:p.kd≠0):Jw v=p.kd:=by
 cases h<;>first|rfl|exact absurd rfl hp
def Jg(K:List Nat)(p:PVal):Prop:=p.kd∉K/\(p.kd=1\/p.kd=2\/p.kd=3)
def BL(K:List Nat):PVal->Prop
 |.int _ _=>True
 |.bool _=>True
 |.str _=>True
 |.slice es=>∀e∈es,∀q∈e,Jg K q
 |_=>False
theorem VR.scal{Γ Γ':az}{bs bs':aH}{w w':World}{p:PVal}{v:Value}(h:VR Γ bs w p v)(hp:p.kd=1\/p.kd=2\/p.kd=3):VR Γ' bs' w' p v:=by
 cases h with
 |int k n=>exact .int k n
 |bool b=>exact .bool b
 |str l=>exact .str l
 |_=>exact absurd hp (by simp[PVal.kd])
theorem VR.off_row{K:List Nat}{Γ Γ':az}{bs bs':aH}{w w':World}{b M:Nat}(hΓ:Γ b=some M)(hrow:∀o,o<M->∃u,w.cell? ⟨b,o,none⟩=some u/\Jw u∈K)
  (hle:∀x n,x≠b->Γ x=some n->Γ' x=some n/\∀o,w'.cell? ⟨x,o,none⟩=w.cell? ⟨x,o,none⟩) {p:PVal} {v:Value} (hp:BL K p) (h:VR Γ bs w p v):VR Γ' bs' w' p v:=by
 cases h with
 |int k n=>exact .int k n
 |bool b=>exact .bool b
 |str l=>exact .str l
 |sliceNil=>exact .sliceNil
 |sliceE a cap=>exact .sliceE a cap
 | slice es b' off cap n sz vals h0 hcap hg hn hsz hc hv =>
  cases es with
  |nil=>exact .sliceE _ _
  | cons e0 es =>
   have hlen0:=hsz 0 e0 rfl
   have h00:0<e0.length:=by omega
   have q0:e0[0]? =some e0[0]:=vab h00
   have hne:b'≠b:=by
    intro hbb
    subst hbb
    rw[hΓ]at hg;cases hg
    have hcell:=hc 0 e0 0 _ rfl q0
    simp only[vct,Nat.add_zero]at hcell
    obtain⟨u,hu,hk⟩:=hrow off (by
     have:1 * sz<=(e0::es).length * sz:=vaK sz (by simp)
     omega)
    rw[hu]at hcell;cases hcell
    have hs:=hp e0 (by simp) e0[0] (vaP h00)
    have:=VR.kd_eq (hv 0 e0 0 _ rfl q0) (by rcases hs.2 with h|h|h<;>omega)
    rw[this]at hk
    exact hs.1 hk
   obtain⟨g1,g2⟩:=hle b' n hne hg
   refine .slice _ b' off cap n sz vals h0 hcap g1 hn hsz (fun i e k p he hp'=>(g2 _).trans (hc i e k p he hp')) (fun i e k p he hp'=>VR.scal (hv i e k p he hp') ?_)
   exact(hp e (vau he) p (vau hp')).2
 |undef v=>exact hp.elim
 |val v=>exact hp.elim
 |agg=>exact hp.elim
 |tuple=>exact hp.elim
 |eptrE=>exact hp.elim
 |eptr=>exact hp.elim
 |bptr=>exact hp.elim
 |bsl=>exact hp.elim
 |mapr=>exact hp.elim
 |func=>exact hp.elim
def Dm(P:Program)(fs:FuncId)(k:Nat):Prop:=
 (∀vs w,(callFunc fs vs).run P w=.ok (.enter fs vs) w)/\
 (∀(enc:Nat->List Value) (cf:Nat->Nat->Int) (g blk cap:Nat) (d:Array Nat) (w:World),(∀x,(enc x).length=k)->(∀x,∀v∈enc x,v.oneCell'=true)->SWO (ltOf cf)->(∀vs w,(callFunc g vs).run P w=.ok (.enter g vs) w)->
  CmpLays P g #[] enc k cf blk 0 d.size w->HoldsK enc k w blk 0 d->blk<w.heap.size->d.size<4611686018427387904->
  Calls P fs #[.slice (some ⟨blk,0,none⟩) d.size cap,.func (.func g) #[] #[]] w fun e w'=>e=.returned (.tuple #[])/\∃d' n os,PermIn 0 d.size d d'/\SortedIn (ltOf cf) 0 d.size d'/\w'=sortWorldK enc k w blk 0 n d' os)/\
 ∀(p:Option Addr) (cap:Nat) (fv:Value) (w:World),Calls P fs #[.slice p 0 cap,fv] w fun e w'=>e=.returned (.tuple #[])/\w'=w
theorem yI{enc:Nat->List Value}{k b m:Nat}{dk:Array Nat}{os:Array Obj}{w:World}{x:Nat}(hx:x<w.heap.size)(hb:x≠b):(sortWorldK enc k w b 0 m dk os).heap[x]? =w.heap[x]?:=by
 show((putRowK enc k (Sort.ahead w m) b 0 dk).heap++os)[x]? =_
 have hsz:(putRowK enc k (Sort.ahead w m) b 0 dk).heap.size=w.heap.size:=by simp[putRowK,putRow,mapBlock,Sort.ahead]
 rw[vaN (by rw[hsz];exact hx)]
 show(w.heap.modify b (onCells _))[x]? =_
 rw[vbW,vag (fun e=>hb e.symm)]
theorem yJ{enc:Nat->List Value}{k b m:Nat}{dk:Array Nat}{os:Array Obj}{w:World}:w.heap.size<=(sortWorldK enc k w b 0 m dk os).heap.size:=by
 show _<=((putRowK enc k (Sort.ahead w m) b 0 dk).heap++os).size
 have hsz:(putRowK enc k (Sort.ahead w m) b 0 dk).heap.size=w.heap.size:=by simp[putRowK,putRow,mapBlock,Sort.ahead]
 rw[Array.size_append,hsz];omega
theorem Ez{enc:Nat->List Value}{k b m:Nat}{dk:Array Nat}{os:Array Obj}{w:World}{cur:Array Value}{e:TypeId}(hh:w.heap[b]? =some (.cells cur e (0,0))):(sortWorldK enc k w b 0 m dk os).heap[b]? =some (.cells (putCells id 0 (flatK enc k dk) cur) e (0,0)):=by
 have hb:b<w.heap.size:=(vak.1 hh).1
 show((putRowK enc k (Sort.ahead w m) b 0 dk).heap++os)[b]? =_
 have hsz:(putRowK enc k (Sort.ahead w m) b 0 dk).heap.size=w.heap.size:=by simp[putRowK,putRow,mapBlock,Sort.ahead]
 rw[vaN (by rw[hsz];exact hb)]
 show(w.heap.modify b (onCells _))[b]? =_
 rw[vbW,vaf rfl,hh]
 rfl
section
variable{P:Program}{GE:List (Nat×List PVal)}{α:Type}{c:α->List PVal}{ord:α->α->Option Int}
theorem E7{E:mV}{Γ:az}{bs:aH}{ow:Nat->Option jL}{w:World}{a:Array Value}{st:ak}(h:SR P E Γ bs ow w a st)(hE:Dk GE 0 E){K:List Nat}{fo b M k N:Nat}
  (hΓ:Γ b=some M) (hb:E.w.heap.size<=b) (hrow:∀o,o<M->∃u,w.cell? ⟨b,o,none⟩=some u/\Jw u∈K)
  (hcc:∀x y r,ord x y=some r->CC P GE fo [.agg (c x),.agg (c y)] (.int .i64 r) []) (hfl:∀x,∀q∈c x,BL K q)
  {enc:Nat->List Value} {el:Nat->α} (hlen:∀i,(enc i).length=(c (el i)).length) (hvr:∀(i j:Nat) q u,(c (el i))[j]? =some q->(enc i)[j]? =some u->VR Γ bs w q u)
  {cf:Nat->Nat->Int} (hcf:∀i j,ord (el i) (el j)=some (cf i j)):CmpLays P fo #[] enc k cf b 0 N w:=by
 intro m os dk hdk x y
 generalize hWe:sortWorldK enc k w b 0 m dk os=W
 have hkeep:∀x,x<w.heap.size->x≠b->W.heap[x]? =w.heap[x]?:=fun x hx hxb=>by rw[<-hWe];exact yI hx hxb
 have hsz:w.heap.size<=W.heap.size:=by rw[<-hWe];exact yJ
 let Γm:az:=fun x=>if x=b then none else Γ x
 have hm:∀x n,x≠b->Γ x=some n->Γm x=some n/\∀o,W.cell? ⟨x,o,none⟩=w.cell? ⟨x,o,none⟩:=fun x n hx hn=>⟨by show(if x=b then none else Γ x)=_;rw[vag hx];exact hn,fun o=>aJ (hkeep x (h.lt_of_ghost hn) hx) o⟩
 have hmr:∀x n,Γm x=some n->x≠b/\Γ x=some n:=fun x n hx=>by
  have hx:(if x=b then none else Γ x)=some n:=hx
  split at hx
  ·cases hx
  ·exact⟨by assumption,hx⟩
 have hagg:∀i,VR Γm [] W (.agg (c (el i))) (.agg (enc i).toArray):=fun i=>.agg _ _ (by simp[hlen]) fun j p v hp hv=>(hvr i j p v hp (by simpa using hv)).off_row hΓ hrow hm (hfl _ _ (vau hp))
 have hpre:SR P ⟨GE,Γm,W,bz [] fun _=>none⟩ Γm [] (fun _=>none) W #[.agg (enc x).toArray,.agg (enc y).toArray] ⟨[.agg (c (el x)),.agg (c (el y))],[],[]⟩:={
  wi:=fun x n hx=>by
   obtain⟨h1,h2⟩:=hmr x n hx
   obtain⟨cc,t,fr,k1,k2⟩:=h.wi x n h2
   exact⟨cc,t,fr,(hkeep x (h.lt_of_ghost h2) h1).trans k1,k2⟩
  sz:=rfl
  tm:=fun t p v hp hv=>by
   match t with
   |0=>simp at hp hv;subst hp;subst hv;exact hagg x
   |1=>simp at hp hv;subst hp;subst hv;exact hagg y
   |t+2=>simp at hp
  bl:=rfl
  bx:=fun i b B hb=>by simp at hb
  inj:=fun i j b hb=>by simp at hb
  bn:=fun i b hb=>by simp at hb
  on:=fun b L hL=>by cases hL
  ot:=fun t k e he=>by simp at he
  ob:=fun i j e cs own b hB=>by simp at hB
  gl:=fun g cs hg=>(hE.gl g cs hg).mono (fun x n hx hn=>by
   have hlt:=hE.low x n hx
   obtain⟨n',k1,k2,k3⟩:=h.step.le x n hx hn
   obtain⟨g1,g2⟩:=hm x n' (by omega) k1
   exact⟨n',g1,k2,fun o ho=>(g2 o).trans (k3 o ho)⟩) (.refl _)
  gc:=fun g cs hg=>h.gc g cs (by rw[hE.ge];exact hg)
  gx:=fun g cs hg=>by
   obtain⟨k1,_,_,cc,t,fr,k4,k5⟩:=h.gnow (by rw[hE.ge];exact hg)
   obtain⟨g1,_⟩:=h.gx g cs (by rw[hE.ge];exact hg)
   refine⟨vaC k1 hsz,fun hT=>hT.elim (fun hx=>by obtain⟨i,hi⟩:=hx;simp at hi) (fun hx=>hx rfl),cc,t,fr,(hkeep g k1 (by omega)).trans k4,k5⟩
  step:=.refl _ _ _ _}
 refine((hcc _ _ _ (hcf x y)).2.2 Γm [] (fun _=>none) W _ hpre).mono fun e w' he=>?_
 obtain⟨v,Γ',ow',rfl,hS⟩:=he
 have hv:VR Γ' [] w' (.int .i64 (cf x y)) v:=hS.tm 0 _ _ rfl rfl
 cases hv
 refine⟨rfl,w'.drawn - W.drawn,w'.heap.extract W.heap.size w'.heap.size,?_⟩
 have h1:=hS.step.os
 have h2:=hS.step.tape
 have h3:=hS.step.output
 have h4:=hS.step.size
 have h5:=hS.step.drawn
 have h6:=hS.step.keep
 simp only at h1 h2 h3 h4 h5 h6
 have hT:∀b,¬bz [] (fun _=>none) b:=fun b hb=>by
  rcases hb with⟨i,hi⟩|hb
  ·simp at hi
  ·exact hb rfl
 have hheap:w'.heap=W.heap++w'.heap.extract W.heap.size w'.heap.size:=by
  apply vcF
  intro i
  by_cases hi:i<W.heap.size
  ·rw[vaN hi,(h6 i hi (hT i)).1]
  ·rw[vbH (by omega)]
   by_cases hi2:i<w'.heap.size
   ·rw[vcm]
    rw[vaf (by omega)]
    congr 1;omega
   ·rw[vbj (by omega),vbj (by simp;omega)]
 show w'={heap:=W.heap++_,tape:=W.tape,drawn:=W.drawn+(w'.drawn - W.drawn),os:=W.os,output:=W.output}
 rw[<-hheap,show W.drawn+(w'.drawn - W.drawn)=w'.drawn by omega,<-h1,<-h2,<-h3]
end
end Go.Proofs.YtoficachfgggjaaDoor
