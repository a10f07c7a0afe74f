/- PROVED: parts of the proof (GC SatH SatK SatP SatQ SatR). Conditions: none. -/
import Derived.Test.YtbaamopmfmpfaaaGreatDoorPkA10
import Derived.Test.YtbaamopmfmpfaaaGreatDoorPkA4
import Derived.Shelf.SlicesE.Clone
noncomputable section
namespace Go.Proofs.YtbaamopmfmpfaaaGreatDoor
open Go
theorem G2{k:Nat}{B:aN}:∀{ps qs:List aN} {i:Nat},qs.length<=i->dO k ps qs->dO k (ps.set i B) qs
 |_,[],_,_,_=>by unfold dO;trivial
 |[],_::_,_,_,h=>by simpa using h
 |p::ps,q::qs,0,hi,_=>by simp at hi
 |p::ps,q::qs,i+1,hi,h=>by
  simp only[List.set_cons_succ]
  exact⟨h.1,G2 (by simpa using hi) h.2⟩
def Q3(P:Program)(rs:List ResultVar)(r:PVal)(ro:List (Nat×TypeId))(H':List aN)(st:aA):Prop:=
 ∃(t:Tmp) (ty:TypeId) (i off:Nat) (cs:List PVal) (own:List (Nat×TypeId)) (l:List PVal),rs=[.cell t ty]/\(∃fs,P.underlying ty=some (.struct fs))/\st.tmps.getD t .undef=.bptr i off/\st.boxes[i]? =some (.cells cs own)/\
  r=.agg l/\bm P ty (cs.drop off)=some (.agg l)/\r.cl H'.length/\H'.length<=i/\dO H'.length st.boxes H'/\(∀x∈ro,(off+x.1,x.2)∈own/\x.1<l.length)/\(ro.map (·.1)).Nodup
def qdR(P:Program)(rs:List ResultVar)(r:PVal)(ro:List (Nat×TypeId))(H':List aN)(e:Exit)(st:aA):Prop:=
 qiK P rs r ro H' e st\/((e=.normal\/e=.ret)/\Q3 P rs r ro H' st)
section
variable{P:Program}{E:uy}{Γ:bw}{bs:bR}{ow:Nat->Option nM}{w:World}{a:Array Value}{st:aA}
theorem SR.finishCellG(h:SR P E Γ bs ow w a st){fn:Func}{r:PVal}{ro:List (Nat×TypeId)}{H':List aN}(hr:Q3 P fn.results.toList r ro H' st):
  ∃v ow',(results fn a).run P w=.ok v w/\SR P E Γ (bs.take H'.length) ow' w #[v] ⟨[r],H',ro.map fun x=>((0,x.1),x.2)⟩:=by
 obtain⟨t,ty,i,off,cs,own,l,hrs,⟨fs,hfs⟩,ht,hB,rfl,hp,hcl,hi,hbl,hro,hnd⟩:=hr
 have hrv:Kw P st fn.results.toList=some (.agg l):=by
  rw[hrs]
  show nH P ty (st.tmps.getD t .undef) st.boxes=_
  rw[ht]
  simp only[nH,hB,hp]
 obtain⟨v,e1,e2,_⟩:=xX h hrv
 have hvt:=h.getD t
 rw[ht]at hvt
 generalize hva:a.getD t undef=vt at hvt
 cases hvt with
 |bptr _ _ b hb=>
 obtain⟨v2,q1,q2,q3⟩:=Ik h hb hB hp
 have hvv:v2=v:=by
  have hres:fn.results=#[.cell t ty]:=by
   have:fn.results=fn.results.toList.toArray:=by simp
   rw[this,hrs]
  have hrun:(results fn a).run P w=.ok v2 w:=by
   simp[results,hres,asAddr]
   have hva':a[t]?.getD undef=.pointer (some ⟨b,off,none⟩):=by rw[<-vaz];exact hva
   rw[hva']
   simp[q1]
  rw[e1]at hrun
  cases hrun
  rfl
 subst hvv
 have g1:=h.pushed e2
 obtain⟨ow',g2⟩:=SR.takeOwns (off:=off) (d:=a.size) (u:=v2) hb (by simp) ro g1 hB (fun x hx=>(hro x hx).1) hnd fun x hx=>by
  have:=q3 ⟨_,hfs,trivial⟩ x.1 (hro x hx).2
  obtain⟨v',z1,_⟩:=h.ob i (off+x.1) x.2 cs own b hB (hro x hx).1 hb
  exact⟨v',this.trans z1,z1⟩
 refine⟨v2,Hf (fun k=>(a.size,k)) ro ow',e1,?_⟩
 exact g2.finish (H':=H') (src:=fun k=>(a.size,k)) (ro:=ro) e2 hcl (G2 hi hbl) (fun x hx=>⟨vbf _ (vb0.2 (vaq.2 ⟨x,hx,rfl⟩)),fun u v' hu hv'=>by simp at hu;subst hu;exact hv'⟩) (fun x _ y _ e=>by simpa using e)
end
theorem C.ofSatG{P:Program}{GE:List (Nat×List PVal)}{m:Nat}{f:FuncId}{fn:Func}{c:Code}{args:List PVal}{oa:List ((Nat×Nat)×TypeId)}{H:List aN}{r:PVal}{ro:List (Nat×TypeId)}{H':List aN}(hm:m % 1000=H.length)(hm0:m≠0)
  (hcall:∀vs w,(callFunc f vs).run P w=.ok (.enter f vs) w) (hfn:P.funcs[f]? =some fn) (hb:fn.body=some c) (hH:H'.length=H.length)
  (hp:aU P GE m c (qdR P fn.results.toList r ro H') ⟨args++List.replicate (fn.ntmps - args.length) .undef,H,oa⟩):C P GE f args oa H r ro H':=by
 refine⟨hcall,fun Γ bs ow w vs h=>calls_of_wp hfn hb ?_⟩
 have hbl:bs.length=H.length:=h.bl
 have h0:SR P ⟨GE,Γ,w,cr bs ow⟩ Γ bs ow w (vs++Array.replicate (fn.ntmps - vs.size) undef) ⟨args++List.replicate (fn.ntmps - args.length) .undef,H,oa⟩:=by
  have hsz:vs.size=args.length:=h.sz
  exact{h with
   sz:=by simp[hsz]
   tm:=fun t p v hp hv=>by
    simp only at hp
    by_cases ht:t<args.length
    ·rw[vaf ht]at hp
     rw[vaQ (by omega)]at hv
     exact h.tm t p v hp hv
    ·rw[vai (by omega),vaU]at hp
     split at hp<;>cases hp
     exact .undef v
   ot:=fun t k e he=>by
    obtain⟨u,v,h1,h2⟩:=h.ot t k e he
    exact⟨u,v,by rw[vaQ (var.1 h1).1];exact h1,h2⟩}
 have hE:IP GE m ⟨GE,Γ,w,cr bs ow⟩:={
  ge:=rfl
  low:=fun b n hb=>h.lt_of_ghost hb
  nt:=fun h0=>absurd h0 hm0
  gl:=fun g cs hg=>(h.gl g cs hg).restrict (n:=0) (by simp only[PVal.cl];exact h.gc g cs hg) (fun i b hi _=>absurd hi (vaS _))}
 have hwp:=hp none ⟨GE,Γ,w,cr bs ow⟩ bs ⟨vs++Array.replicate (fn.ntmps - vs.size) undef,[]⟩ w hE (by rw[hbl,hm]) ⟨Γ,bs,ow,h0,fun i _=>rfl⟩
 refine wp_mono hwp fun e a w' hq=>?_
 obtain⟨hd,st,⟨Γ1,bs1,ow1,hS,hk⟩,hQ⟩:=hq
 have htake:H'.length<=bs1.length->bs1.take H'.length=bs:=by
  intro hl1
  refine vbn fun i=>?_
  by_cases hi:i<H'.length
  ·rw[vap hi];exact hk i (by omega)
  ·rw[vb9 (by omega),vat (by omega)]
 have hlen:∀{B:List aN},dO H'.length B H'->B.length=bs1.length->H'.length<=bs1.length:=fun hB he=>by
  obtain⟨hl,_⟩:=oW hB;omega
 have key:(Kw P st fn.results.toList=some r/\r.cl H'.length/\dO H'.length st.boxes H'/\(∀x∈ro,(eI fn.results.toList x.1,x.2)∈st.own/\tO st fn.results.toList x.1)/\
   (∀x∈ro,∀y∈ro,eI fn.results.toList x.1=eI fn.results.toList y.1->x.1=y.1))->
   a.defers=[]/\∃v,(results fn a.tmps).run P w'=.ok v w'/\∃v' Γ' ow',Ending.returned v=.returned v'/\SR P ⟨GE,Γ,w,cr bs ow⟩ Γ' bs ow' w' #[v'] ⟨[r],H',ro.map fun x=>((0,x.1),x.2)⟩:=by
  rintro⟨k1,k2,k3,k4,k5⟩
  obtain⟨v,e1,e2,e3⟩:=xX hS k1
  refine⟨hd,v,e1,v,Γ1,Hf (eI fn.results.toList) ro ow1,rfl,?_⟩
  have hf:=hS.finish (H':=H') (src:=eI fn.results.toList) (ro:=ro) e2 k2 k3 (fun x hx=>⟨(k4 x hx).1,fun u v'=>e3 x.1 u v' (k4 x hx).2⟩) k5
  rw[htake (hlen k3 hS.bl.symm)]at hf
  exact hf
 have key2:Q3 P fn.results.toList r ro H' st->
   a.defers=[]/\∃v,(results fn a.tmps).run P w'=.ok v w'/\∃v' Γ' ow',Ending.returned v=.returned v'/\SR P ⟨GE,Γ,w,cr bs ow⟩ Γ' bs ow' w' #[v'] ⟨[r],H',ro.map fun x=>((0,x.1),x.2)⟩:=by
  intro hc
  obtain⟨v,ow',e1,e2⟩:=hS.finishCellG hc
  obtain⟨_,_,_,_,_,_,_,_,_,_,_,_,_,_,_,hbl2,_,_⟩:=hc
  rw[htake (hlen hbl2 hS.bl.symm)]at e2
  exact⟨hd,v,e1,v,Γ1,ow',rfl,e2⟩
 rcases hQ with hQ|⟨he,hQ⟩
 ·cases e with
  |normal=>exact key hQ
  |ret=>exact key hQ
  |exit id=>exact hQ.elim
  |goto l=>exact hQ.elim
  |panic c=>exact hQ.elim
  |outgrown=>exact hQ.elim
 ·rcases he with rfl|rfl
  ·exact key2 hQ
  ·exact key2 hQ
def XO(P:Program)(rs:List ResultVar)(ro:List (Nat×TypeId))(n:Nat)(st:aA):Bool:=match rs with
 | [.cell t ty] => match P.underlying ty with
  | some (.struct _) => match st.tmps.getD t .undef with
   |.bptr i off=>decide (n<=i)&&match st.boxes[i]? with
    |some (.cells _ own)=>ro.all (fun x=>decide ((off+x.1,x.2)∈own)&&decide (x.1<P.cellsOf ty))&&xN (ro.map (·.1))
    |_=>false
   |_=>false
  |_=>false
 |_=>false
def qb8(P:Program)(rs:List ResultVar)(r:PVal)(ro:List (Nat×TypeId))(H':List aN)(st:aA):Prop:=match Gi rs ro st with
 |true=>match Kw P st rs with
  |some p=>p=r/\r.cl H'.length/\U3 (st.boxes.take H'.length) H'=H'/\UQ H'.length H'
  |none=>False
 | false => match XO P rs ro H'.length st with
  |true=>match Kw P st rs with
   |some p=>p=r/\r.cl H'.length/\U3 (st.boxes.take H'.length) H'=H'/\UQ H'.length H'/\r.isAgg=true
   |none=>False
  |false=>False
def qhS(P:Program)(rs:List ResultVar)(r:PVal)(ro:List (Nat×TypeId))(H':List aN):Exit->List It->aA->Prop:=fun e _ st=>match e with
 |.normal=>qb8 P rs r ro H' st
 |.ret=>qb8 P rs r ro H' st
 |_=>False
theorem VH{rs:List ResultVar}{ro:List (Nat×TypeId)}{st:aA}(hc:Gi rs ro st=true):(∀x∈ro,(eI rs x.1,x.2)∈st.own/\tO st rs x.1)/\(∀x∈ro,∀y∈ro,eI rs x.1=eI rs y.1->x.1=y.1):=by
 have:=Q5 (r:=.undef) (P:=default) (rs:=rs) (ro:=ro) (st:=⟨st.tmps,st.boxes,st.own⟩) hc
 by_cases hr:Kw default st rs=some .undef
 ·exact(this hr trivial).2.2.2
 ·clear this
  unfold Gi at hc
  rw[vaj]at hc
  obtain⟨c1,c2⟩:=hc
  refine⟨fun x hx=>?_,fun x hx y hy hxy=>?_⟩
  ·have:=vax.1 c1 x hx
   rw[vaj]at this
   refine⟨by simpa using this.1,?_⟩
   have h2:=this.2
   clear this c1 c2 hr
   rcases rs with _|⟨y,_|⟨z,rs⟩⟩
   ·simp at h2
   ·cases y with
    |tmp t=>trivial
    |cell t ty=>cases h2
   ·have key:∀o:Option ResultVar,(match o with
     |some (.tmp t)=>(st.tmps.getD t .undef).isSlice
     |_=>false)=true->(match o with
     |some (.tmp t)=>(st.tmps.getD t .undef).isSlice=true
     |_=>False):=by
     intro o
     cases o with
     |none=>intro h;cases h
     |some q=>cases q<;>intro h<;>first|exact h|cases h
    cases y with
    |tmp t=>exact key _ h2
    |cell t ty=>exact key _ h2
  ·have:=vax.1 (vax.1 c2 x hx) y hy
   simpa[hxy]using this
theorem qb8.to{P:Program}{rs:List ResultVar}{r:PVal}{ro:List (Nat×TypeId)}{H':List aN}{st:aA}{e:Exit}(he:e=.normal\/e=.ret)(h:qb8 P rs r ro H' st):qdR P rs r ro H' e st:=by
 unfold qb8 at h
 split at h
 ·rename_i hc
  split at h
  ·rename_i p hp
   obtain⟨rfl,hcl,hfg,hcb⟩:=h
   obtain⟨s1,s2⟩:=VH hc
   have:Kw P st rs=some p/\p.cl H'.length/\dO H'.length st.boxes H'/\_/\_:=⟨hp,hcl,JP hfg hcb,s1,s2⟩
   rcases he with rfl|rfl<;>exact .inl this
  ·exact h.elim
 ·split at h
  ·rename_i hc
   split at h
   ·rename_i p hp
    obtain⟨rfl,hcl,hfg,hcb,hagg⟩:=h
    refine .inr ⟨he,?_⟩
    unfold XO at hc
    split at hc
    ·rename_i t ty _
     split at hc
     ·rename_i fs hfs
      split at hc
      ·rename_i i off ht
       rw[vaj,vao]at hc
       obtain⟨hi,hc⟩:=hc
       split at hc
       ·rename_i cs own hB
        rw[vaj]at hc
        obtain⟨c1,c2⟩:=hc
        have hpl:bm P ty (cs.drop off)=some p:=by
         have hp':nH P ty (st.tmps.getD t .undef) st.boxes=some p:=hp
         rw[ht]at hp'
         simpa only[nH,hB]using hp'
        cases p<;>simp only[PVal.isAgg]at hagg<;>first|(cases hagg;done)|skip
        rename_i l
        have hlen:l.length=P.cellsOf ty:=by
         have hq:=hpl
         unfold bm at hq
         rw[hfs]at hq
         simp only at hq
         split at hq
         ·rename_i hh;cases hq;rw[vaO];omega
         ·cases hq
        refine⟨t,ty,i,off,cs,own,l,rfl,⟨fs,hfs⟩,ht,hB,rfl,hpl,hcl,hi,JP hfg hcb,fun x hx=>?_,qn c2⟩
        have:=vax.1 c1 x hx
        simp only[vaj,vao]at this
        exact⟨this.1,by rw[hlen];exact this.2⟩
       ·cases hc
      ·cases hc
     ·cases hc
    ·cases hc
   ·exact h.elim
  ·exact h.elim
theorem qhS.to{P:Program}{rs:List ResultVar}{r:PVal}{ro:List (Nat×TypeId)}{H':List aN}{e:Exit}{sc:List It}{st:aA}(h:qhS P rs r ro H' e sc st):qdR P rs r ro H' e st:=by
 unfold qhS at h
 split at h
 ·exact h.to (.inl rfl)
 ·exact h.to (.inr rfl)
 ·exact h.elim
theorem C.evG{P:Program}{GE:List (Nat×List PVal)}{A:List Nat}(hf:P.follows .mixedOrders=true){m:Nat}{f:FuncId}{fn:Func}{c:Code}{args:List PVal}{oa:List ((Nat×Nat)×TypeId)}{H:List aN}{r:PVal}{ro:List (Nat×TypeId)}{H':List aN}
  (hm:decide (m % 1000=H.length)&&decide (m≠0)&&decide (H'.length=H.length)=true) (hcall:∀vs w,(callFunc f vs).run P w=.ok (.enter f vs) w) (hfn:P.funcs[f]? =some fn) (hb:fn.body=some c) (sc:List It)
  (h:A5 P GE A m c sc ⟨args++List.replicate (fn.ntmps - args.length) .undef,H,oa⟩ (qhS P fn.results.toList r ro H')):C P GE f args oa H r ro H':=by
 simp only[vaj,vao]at hm
 exact C.ofSatG hm.1.1 hm.1.2 hcall hfn hb hm.2 ((iI hf c sc _ _ h).imp fun e st hx=>by obtain⟨sc',hx⟩:=hx;exact hx.to)
section
variable{X Y:Type}
def qiB(F:(X->Option Y)->X->Option Y):Nat->X->Option Y
 |0,_=>none
 |n+1,x=>F (qiB F n) x
end
theorem rT:true=true:=rfl
theorem rL(l:List aN):l=l:=rfl
theorem rB(B:aN):B=B:=rfl
theorem rW(l:List (Nat×TypeId)):l=l:=rfl
theorem xR(ρ:List Nat)(p:PVal)(h:p.cl 0):Jr ρ p p:=.refl p h
theorem jv{a a':PVal}{l l':List PVal}(h:a=a')(h':l=l'):a::l=a'::l':=by rw[h,h']
open Go Go.Shelf Go.RowKit Go.Lib
variable{P:Program}{ρ:Ren}
set_option maxHeartbeats 2000000 in
set_option maxRecDepth 100000 in
theorem WP(L:SlLaysE0.n41 P ρ)(i0:TypeInfo)(z:Value)(hi:P.info? (ρ.t 23)=some i0)(hz0:i0.zero=some z)(hzs:z.cells.size=i0.size)(hsz:0<i0.size)
  (z23:∀w,(Go.sizeOf (ρ.t 23)).run P w=.ok i0.size w) (ad:Addr) (c:Nat) (w:World):
  Calls P (ρ.f 41) #[.slice (some ad) 0 c] w fun r w'=>∃v',r=.returned v'/\w'.ownsRow w.heap.size (ρ.t 23) i0.size v' 0 []/\Below w.heap.size w w':=by
 have mixed:=L.mixed;have t4:=L.t4;have a4:=L.a4;have z4:=L.z4;have v4:=L.v4;have t22:=L.t22;have a22:=L.a22;have z22:=L.z22;have v22:=L.v22
 have q22:∀(w:World) (a:Option Addr) (n c n' c':Nat),(binOp .eql (ρ.t 22) (.slice a n c) (.slice none n' c')).run P w=.ok (.bool a.isNone) w:=fun w a n c n' c'=>Lib.run_eql_slice_nil w _ _ a n c n' c' L.t22
 have u22:∀w,Sem.run P (underlying (ρ.t 22)) w=.ok (TypeDesc.slice (ρ.t 23)) w:=run_underlying t22
 obtain⟨_,_,FG⟩:=L.f41
 go_enter FG,SlBodyN.n41_ntmps ρ
 go_wp2_with (at_builtin;refine wpList_append_own _ rfl _ _ (ρ.t 22) rfl w.heap.size (ρ.t 23) i0 z i0.size i0.bytes t22 hi hz0 rfl rfl hzs hsz _ _ _ rfl (World.ownsRow_made w #[] 0 (vah _) (vaN _) (by simp)) ad 0 c [] rfl (by simp) (by simp) (by simp) (by simp) (by simp) (by simp) ?_)
 intro v' w1 hown hgrow _
 go_wp2
 go_ret
 exact⟨v',rfl,by simpa using hown,((Below.refl _ w).alloc (vah _) _).grown hgrow (by simp) (by intro k hk;simp[Value.ownBlock]at hk;omega)⟩
theorem qaR(L:SlLaysE0.n41 P ρ)(i0:TypeInfo)(z:Value)(hi:P.info? (ρ.t 23)=some i0)(hz0:i0.zero=some z)(hzs:z.cells.size=i0.size)(hsz:0<i0.size)(hby:i0.bytes<=65536)
  (hcall:∀vs w,(callFunc (ρ.f 41) vs).run P w=.ok (.enter (ρ.f 41) vs) w):nJ P (ρ.f 41) (ρ.t 23):=by
 have hc:P.cellsOf (ρ.t 23)=i0.size:=by simp[Program.cellsOf,hi]
 have z23:∀w,(Go.sizeOf (ρ.t 23)).run P w=.ok i0.size w:=fun w=>by rw[<-hc];exact run_sizeOf w hi
 refine⟨hcall,fun w x n news hx hl h1 hn=>?_⟩
 rw[hc]at hl ⊢
 rcases hx with⟨rfl,rfl⟩|⟨a,c,rfl,hcell⟩
 ·have hnews:news=[]:=vau (by simpa using hl)
  subst hnews
  refine(AnyE.slices_Clone_nil L 0 0 w).mono fun r w' hr=>?_
  obtain⟨rfl,rfl⟩:=hr
  exact⟨_,rfl,World.ownsRow_nil _ _ _ _,Below.refl _ _⟩
 ·by_cases h0:n=0
  ·subst h0
   have hnews:news=[]:=vau (by simpa using hl)
   subst hnews
   exact WP L i0 z hi hz0 hzs hsz z23 a c w
  ·have hpos:0<news.length:=by rw[hl];exact vcU (Nat.pos_of_ne_zero h0) hsz
   have hsp:a.spot=none:=by
    have hk:=hcell 0 _ (vab hpos)
    unfold Addr.add at hk
    simp only[if_true]at hk
    unfold World.cell? at hk
    split at hk
    ·split at hk
     ·cases hk
     ·rename_i hs;simpa using hs
    ·cases hk
   obtain⟨b,off,sp⟩:=a
   simp only at hsp
   subst hsp
   refine(AnyE.slices_Clone L i0 z i0.size i0.bytes hi hz0 rfl rfl hzs hsz z23 b off n c news w hl (by unfold maxLen;unfold eY at hn;omega) ?_ (fun j u hj=>by rw[<-Addr.add_lit];exact hcell j u hj) h1).mono fun r w' hr=>?_
   ·have:n * i0.bytes<=1073741824 * 65536:=vcf (by unfold eY at hn;omega) hby
    omega
   ·obtain⟨v',k1,k2,_,k3⟩:=hr
    exact⟨v',k1,k2,k3⟩
theorem F3(L:SlLaysE0.n41 P ρ){f:FuncId}{e:TypeId}(hf:ρ.f 41=f)(he:ρ.t 23=e)(hq:(P.info? e).any (fun i=>(i.zero.any fun z=>z.cells.size==i.size)&&decide (0<i.size)&&decide (i.bytes<=65536))=true)
  (hcall:∀vs w,(callFunc f vs).run P w=.ok (.enter f vs) w):nJ P f e:=by
 subst hf;subst he
 cases hi:P.info? (ρ.t 23)with
 |none=>rw[hi]at hq;cases hq
 | some i0 =>
  rw[hi]at hq
  simp only[Option.any_some,vaj,vao]at hq
  obtain⟨⟨h1,h2⟩,h3⟩:=hq
  cases hz:i0.zero with
  |none=>rw[hz]at h1;cases h1
  |some z=>
   rw[hz]at h1
   simp only[Option.any_some,va4]at h1
   exact qaR L i0 z hi hz h1 h2 h3 hcall
end Go.Proofs.YtbaamopmfmpfaaaGreatDoor
namespace Go.Proofs.YtbaamopmfmpfaaaGreatDoor
open Go
def pF{α:Type}(c:α->List PVal)(l:List α):List PVal:=(l.map c).flatten
def nS{α:Type}(l:List α):Option (List α):=if l.length<=eY then some l else none
def qft{α:Type}(l:List α)(i:Int)(x:α):Option (List α):=if 0<=i/\i.toNat<l.length then some (l.set i.toNat x)else none
abbrev lL(P:Program)(e:TypeId)(i:Int):Nat:=0+i.toNat * P.cellsOf e
section
variable{P:Program}{GE:List (Nat×List PVal)}{T e:TypeId}{α:Type}{c:α->List PVal}
theorem Mk{l r:List α}(h:nS l=some r):l.length<=eY/\r=l:=by
 unfold nS at h
 split at h
 ·rename_i hl;cases h;exact⟨hl,rfl⟩
 ·cases h
theorem qg.mapOk(s:qg P T e c)(l:List α):∀x∈l.map c,x.length=P.cellsOf e/\∀q∈x,q.one=true:=fun x hx=>by
 obtain⟨y,_,rfl⟩:=vaq.1 hx
 exact⟨s.hc y,s.ho y⟩
theorem qg.cloneCC(s:qg P T e c){f:FuncId}(hC:nJ P f e){l r:List α}(h:nS l=some r):CC P GE f [sl c l] (sl c r) [(0,e)]:=by
 obtain⟨hl,rfl⟩:=Mk h
 exact CC.clone hC ⟨aj s.cl r,trivial⟩ s.hp (s.mapOk r) (by simpa using hl)
theorem qg.cloneR(s:qg P T e c){f:FuncId}(hC:nJ P f e){l r:List α}(h:nS l=some r):
  nJ P f e/\(0<P.cellsOf e/\(∀x∈l.map c,x.length=P.cellsOf e/\∀q∈x,q.one=true)/\(l.map c).length<=eY)/\(r.length=(l.map c).length/\pF c r=(l.map c).flatten):=by
 obtain⟨hl,rfl⟩:=Mk h
 exact⟨hC,⟨s.hp,s.mapOk r,by simpa using hl⟩,by simp,rfl⟩
theorem qez{l r:List α}(h:app [] l=some r):r=l:=by
 unfold app at h
 split at h
 ·cases h;rfl
 ·cases h
theorem qg.apR(s:qg P T e c){l r:List α}(h:app [] l=some r):
  P.underlying T=some (.slice e)/\(∃p,lW P T [] (l.map c)=some p)/\(r.length=(l.map c).length/\pF c r=(l.map c).flatten):=by
 have h1:=s.ap h
 have h2:=qez h
 subst h2
 exact⟨s.hu,⟨_,h1⟩,by simp,rfl⟩
theorem qg.lnR(s:qg P T e c)(b off n:Nat):∀H,Fd P T (.bsl b off n) H=some (.int .i64 (n:Int)):=fun H=>by
 unfold Fd;rw[s.hu]
theorem qg.flat_len(s:qg P T e c)(l:List α):(pF c l).length=l.length * P.cellsOf e:=by
 unfold pF
 rw[Go.Proofs.YtbaamopmfmpfaaaGreatDoor.flat_len (sz:=P.cellsOf e) (fun x hx=>(s.mapOk l x hx).1)]
 simp
theorem LB(hc:∀x,(c x).length=P.cellsOf e):∀{l:List α} {i:Nat} {x:α},l[i]? =some x->pF c l=(pF c l).take (i * P.cellsOf e)++c x++(pF c l).drop (i * P.cellsOf e+P.cellsOf e)/\∀y,pF c (l.set i y)=(pF c l).take (i * P.cellsOf e)++c y++(pF c l).drop (i * P.cellsOf e+P.cellsOf e)
 |[],i,x,h=>by simp at h
 |z::l,0,x,h=>by
  simp at h;subst h
  have e1:pF c (z::l)=c z++pF c l:=by simp[pF]
  have e2:∀y,pF c ((z::l).set 0 y)=c y++pF c l:=fun y=>by simp[pF]
  rw[e1]
  simp only[e2,vcz,vaK,List.take_zero,vaC]
  rw[<-hc z,List.drop_left]
  exact⟨rfl,fun _=>rfl⟩
 | z :: l,i + 1,x,h => by
  obtain⟨h1,h2⟩:=LB hc (l:=l) (i:=i) (x:=x) (by simpa using h)
  have e1:pF c (z::l)=c z++pF c l:=by simp[pF]
  have e2:∀y,pF c ((z::l).set (i+1) y)=c z++pF c (l.set i y):=fun y=>by simp[pF]
  have hz:=hc z
  have t1:(c z++pF c l).take ((i+1) * P.cellsOf e)=c z++(pF c l).take (i * P.cellsOf e):=by
   rw[List.take_append,va7,vbG,hz,vbr (by omega),Nat.add_sub_cancel]
  have t2:(c z++pF c l).drop ((i+1) * P.cellsOf e+P.cellsOf e)=(pF c l).drop (i * P.cellsOf e+P.cellsOf e):=by
   rw[vcT,va7,vbG,hz,vbP (by omega),vaC]
   congr 1;omega
  rw[e1,t1,t2]
  refine⟨?_,fun y=>?_⟩
  ·conv=>lhs;rw[h1]
   simp only[vba]
  ·rw[e2,h2];simp only[vba]
theorem qg.ldR(s:qg P T e c){l:List α}{i:Int}{x:α}{p:PVal}(hl:∀r,bm P e (c x++r)=some p)(h:cz l i=some x):bm P e ((pF c l).drop (lL P e i))=some p:=by
 obtain⟨h0,h1⟩:=Qf h
 obtain⟨h2,_⟩:=LB (P:=P) (e:=e) s.hc h1
 have hlen:=s.flat_len l
 have hlt:=av h1
 have hle:i.toNat * P.cellsOf e<=l.length * P.cellsOf e:=vaZ _ (vcB hlt)
 rw[lL,vaK]
 have:(pF c l).drop (i.toNat * P.cellsOf e)=c x++(pF c l).drop (i.toNat * P.cellsOf e+P.cellsOf e):=by
  conv=>lhs;rw[h2]
  rw[vba,vcT,vbP (by simp;omega),vaC]
  have:((pF c l).take (i.toNat * P.cellsOf e)).length=i.toNat * P.cellsOf e:=by simp;omega
  rw[this,vby,vaV]
 rw[this];exact hl _
theorem qd3{l r:List α}{i:Int}{x:α}(h:qft l i x=some r):0<=i/\i.toNat<l.length/\r=l.set i.toNat x:=by
 unfold qft at h
 split at h
 ·rename_i hh;cases h;exact⟨hh.1,hh.2,rfl⟩
 ·cases h
theorem qg.stR(s:qg P T e c){l r:List α}{i:Int}{x:α}{v:PVal}(hv:bK v=some (c x))(h:qft l i x=some r):eh P e (.bptr 0 (lL P e i)) v [.cells (pF c l) []]=some [.cells (pF c r) []]:=by
 obtain⟨h0,h1,rfl⟩:=qd3 h
 obtain⟨_,h2⟩:=LB (P:=P) (e:=e) s.hc (vab h1)
 have hlen:=s.flat_len l
 have hle:i.toNat * P.cellsOf e+P.cellsOf e<=l.length * P.cellsOf e:=by
  have:=vaZ (P.cellsOf e) h1
  rw[Nat.succ_mul]at this;exact this
 unfold eh
 simp only[hv,List.getElem?_cons_zero,lL,vaK]
 rw[vad ⟨s.hc x,s.hi,by rw[s.hc x];omega,vax.2 (s.ho x)⟩,h2,s.hc x]
 simp
end
def PS(_:List It)(F:Prop):Prop:=F
section
variable{sc:List It}{F X Y:Prop}
theorem en(h:F):PS [] F:=h
theorem sv{o:Option PVal}{p:PVal}(h:o=some p)(r:PS sc F):PS (.v p::sc) (o=some p/\F):=⟨h,r⟩
theorem cm{o:List aN->Option PVal}{p:PVal}(h:∀H,o H=some p)(r:PS sc F):PS (.v p::sc) ((∀H,o H=some p)/\F):=⟨h,r⟩
theorem sx{o:Option (List PVal)}{l:List PVal}(h:o=some l)(r:PS sc F):PS (.x l::sc) (o=some l/\F):=⟨h,r⟩
theorem se{o:Option (List PVal)}{l:List PVal}(h:o=some l)(r:PS sc F):PS (.e l::sc) (o=some l/\F):=⟨h,r⟩
theorem sg(n:Nat){x b:Bool}(h:x=b)(r:PS sc F):PS (.g n b::sc) (x=b/\F):=⟨h,r⟩
theorem ss(r:PS sc F):PS (.s::sc) F:=r
theorem VP{o:Option (List PVal)}{l:List PVal}(h:o=some l)(r:PS sc F):PS (.s::sc) (o=some l/\F):=⟨h,r⟩
theorem bz{P:Program}{GE:List (Nat×List PVal)}{g:FuncId}{vs:List PVal}{p:PVal}{ro:List (Nat×TypeId)}(h:CC P GE g vs p ro)(r:PS sc F):PS (.c p ro::sc) (CC P GE g vs p ro/\F):=⟨h,r⟩
theorem sb{P:Program}{T:TypeId}{ps:List (Nat×PVal)}{p:PVal}{L:List (Nat×TypeId)}(h:dw P T ps=some p)(h':rZ P T ps L)(r:PS sc F):PS (.b p L::sc) (dw P T ps=some p/\rZ P T ps L/\F):=⟨h,h',r⟩
theorem sy{l vs:List PVal}(h:l=vs)(r:PS sc F):PS (.y vs::sc) (l=vs/\F):=⟨h,r⟩
theorem qb2{o:Option (List PVal)}{vs:List PVal}(h:o=some vs)(r:PS sc F):PS (.y vs::sc) (o=some vs/\F):=⟨h,r⟩
theorem sz{o:Option PVal}{l:List PVal}(h:o=some (.agg l))(r:PS sc F):PS (.z l::sc) (o=some (.agg l)/\F):=⟨h,r⟩
theorem lY(an:List Nat)(r:PS sc F):PS (.dr an::sc) F:=r
theorem kr(n:Nat)(r:PS sc F):PS (.pa n::sc) F:=r
theorem cW{P:Program}{GE:List (Nat×List PVal)}{m:Nat}{c:Code}{e:Exit}{s0 s1:aA}(h:aU P GE m c (EX e s1) s0)(r:PS sc F):PS (.pc s0 e s1::sc) ((s0.tmps=s0.tmps/\s0.boxes=s0.boxes/\true=true)/\aU P GE m c (EX e s1) s0/\F):=⟨fr s0,h,r⟩
theorem qhx(i:It)(r:PS sc F):PS (i::sc) F:=r
theorem si(i:It)(h:X)(r:PS sc F):PS (i::sc) (X/\F):=⟨h,r⟩
theorem sf(h:X)(r:PS sc F):PS sc (X/\F):=⟨h,r⟩
theorem qjv{o:Option (List aN)}{B:aN}(h:o=some [B])(r:PS sc F):PS (.w 0 B::sc) (o=some [B]/\F):=⟨h,r⟩
theorem qlS{o:Option (List (PVal×PVal))}{m:List (PVal×PVal)}(h:o=some m)(r:PS sc F):PS (.w 0 (.map m)::sc) (o=some m/\F):=⟨h,r⟩
theorem qju(i:Nat)(e:TypeId){n k:Nat}{cs fs:List PVal}(h:X/\Y/\(n=k/\cs=fs))(r:PS sc F):PS (.ar i e n cs::sc) (X/\Y/\(n=k/\cs=fs)/\F):=⟨h.1,h.2.1,h.2.2,r⟩
theorem qf2(i:Nat)(es:List (List PVal))(lv rk:List Nat)(h:X)(h':Y){Z:Prop}(h'':Z)(r:PS sc F):PS (.fz i es lv rk::sc) (X/\Y/\Z/\F):=⟨h,h',h'',r⟩
end
section
variable{P:Program}{GE:List (Nat×List PVal)}{A:List Nat}{m:Nat}
theorem nX(hf:P.follows .mixedOrders=true){c:Code}{e0:Exit}{st0 st:aA}{sc:List It}{F:Prop}(h:PS sc F)(he:F=A5 P GE A m c sc st (FN e0 st0)):aU P GE m c (EX e0 st0) st:=piece hf sc (Eq.mp he h)
theorem qiD(hf:P.follows .mixedOrders=true){σ X:Type}{S:σ->aA}{ex:X->Exit}{so:X->aA}{c:Code}{s:σ}{st:aA}{sc:List It}{F:Prop}(h:PS sc F)(he:F=A5 P GE A m c sc st (FN .normal (S s))):aU P GE m c (LQ S ex so (.inl s)) st:=pj hf sc (Eq.mp he h)
theorem qiG(hf:P.follows .mixedOrders=true){σ X:Type}{S:σ->aA}{ex:X->Exit}{so:X->aA}{c:Code}{x:X}{st:aA}{sc:List It}{F:Prop}(hn:ex x≠.normal)(h:PS sc F)(he:F=A5 P GE A m c sc st (FN (ex x) (so x))):aU P GE m c (LQ S ex so (.inr x)) st:=qkj hf sc hn (Eq.mp he h)
theorem C.evp(hf:P.follows .mixedOrders=true){f:FuncId}{fn:Func}{c:Code}{args:List PVal}{r:PVal}{ro:List (Nat×TypeId)}
  (hcall:∀vs w,(callFunc f vs).run P w=.ok (.enter f vs) w) (hfn:P.funcs[f]? =some fn) (hb:fn.body=some c) (hcl:iy 0 args) {sc:List It} {F:Prop} (h:PS sc F)
  (he:F=A5 P GE A 0 c sc ⟨args++List.replicate (fn.ntmps - args.length) .undef,[],[]⟩ (FR P fn.results.toList r ro)):CC P GE f args r ro:=C.ev hf hcall hfn hb hcl sc (Eq.mp he h)
theorem C.evGp(hf:P.follows .mixedOrders=true){f:FuncId}{fn:Func}{c:Code}{args:List PVal}{oa:List ((Nat×Nat)×TypeId)}{H:List aN}{r:PVal}{ro:List (Nat×TypeId)}{H':List aN}
  (hm:decide (m % 1000=H.length)&&decide (m≠0)&&decide (H'.length=H.length)=true) (hcall:∀vs w,(callFunc f vs).run P w=.ok (.enter f vs) w) (hfn:P.funcs[f]? =some fn) (hb:fn.body=some c) {sc:List It} {F:Prop} (h:PS sc F)
  (he:F=A5 P GE A m c sc ⟨args++List.replicate (fn.ntmps - args.length) .undef,H,oa⟩ (qhS P fn.results.toList r ro H')):C P GE f args oa H r ro H':=C.evG hf hm hcall hfn hb sc (Eq.mp he h)
end
section
variable{P:Program}{GE:List (Nat×List PVal)}{A:List Nat}{m:Nat}
theorem df(hf:P.follows .mixedOrders=true){σ X:Type}{S:σ->aA}{ex:X->Exit}{so:X->aA}{c:Code}{s:σ}{st:aA}{sc:List It}{F:Prop}(h:PS sc F)(he:F=A5 P GE A m c sc st (qhR m .normal (S s))):aU P GE m c (LQ S ex so (.inl s)) st:=qiE hf sc (Eq.mp he h)
theorem Iq(hf:P.follows .mixedOrders=true){σ X:Type}{S:σ->aA}{ex:X->Exit}{so:X->aA}{c:Code}{x:X}{st:aA}{sc:List It}{F:Prop}(hn:ex x≠.normal)(h:PS sc F)(he:F=A5 P GE A m c sc st (qhR m (ex x) (so x))):aU P GE m c (LQ S ex so (.inr x)) st:=qiH hf sc hn (Eq.mp he h)
end
def tm(n:Nat):Nat->List (Nat×PVal)->List PVal
 |k,[]=>List.replicate (n - k) .undef
 |k,x::l=>List.replicate (x.1 - k) .undef++x.2::tm n (x.1+1) l
abbrev be(n:Nat)(l:List (Nat×PVal))(H:List aN)(o:List ((Nat×Nat)×TypeId)):aA:=⟨tm n 0 l,H,o⟩
def qgI(n:Nat):List (Nat×PVal)->Prop
 |[]=>True
 |x::l=>x.2.cl n/\qgI n l
theorem US{n:Nat}{l:List PVal}(h:iy n l):∀k,iy n (List.replicate k .undef++l)
 |0=>h
 |k+1=>by rw[List.replicate_succ,vaG];exact⟨trivial,US h k⟩
theorem dC{n N:Nat}:∀{l:List (Nat×PVal)} {k:Nat},qgI n l->iy n (tm N k l)
 |[],k,_=>by unfold tm;have:=US (n:=n) (l:=[]) trivial (N - k);rwa[va1]at this
 |x::l,k,h=>by unfold tm;exact US (l:=x.2::tm N (x.1+1) l) (by simp only[iy];exact⟨h.1,dC h.2⟩) _
def bits:Nat->Nat->List Bool->List Bool
 |0,_,l=>l
 |k+1,n,l=>if n<=1 then l else bits k (n / 2) ((n % 2==1)::l)
def cA(c:Code)(n:Nat):Code:=gz c (bits 100 n [])
section
variable{X Y:Type}
def kJ(F:(X->Option Y)->X->Option Y)(x:X):Option Y:=qiB F qee x
theorem qgE:18446744073709551616<qee:=by unfold qee;omega
theorem cy{F:(X->Option Y)->X->Option Y}{M:X->Y->Prop}(hF:∀rec:X->Option Y,(∀x r,rec x=some r->M x r)->∀x r,F rec x=some r->M x r){x:X}{r:Y}(h:kJ F x=some r):M x r:=by
 have key:∀n x r,qiB F n x=some r->M x r:=by
  intro n
  induction n with
  |zero=>intro x r h;cases h
  |succ n ih=>intro x r h;exact hF _ ih x r h
 exact key _ x r h
theorem eP{F:(X->Option Y)->X->Option Y}(μ:X->Nat)(Q:X->Prop)(s:X->Y)(h:∀(R:X->Option Y) x,Q x->(∀y,μ y<μ x->Q y->R y=some (s y))->F R x=some (s x))(x:X)(hx:Q x)(hm:μ x<qee):kJ F x=some (s x):=by
 have key:∀n x,μ x<n->Q x->qiB F n x=some (s x):=by
  intro n
  induction n with
  |zero=>intro x hx;omega
  |succ n ih=>intro x hx hq;exact h _ x hq fun y hy hqy=>ih y (by omega) hqy
 exact key _ x hm hx
end
def X6{α:Type}(n:Nat)(l:List α)(i:Int):Option α:=if 0<=i/\i.toNat<n then l[i.toNat]? else none
def qgN{α:Type}(lo:Int)(n:Nat)(l:List α)(i:Int):Option α:=if 0<=lo/\0<=i/\i.toNat<n then l[(lo+i).toNat]? else none
def qd0(n:Nat)(lo hi:Int):Option Nat:=if 0<=lo/\lo<=hi/\hi.toNat<=n then some (hi.toNat - lo.toNat)else none
def qcO{α:Type}(n:Nat)(l:List α):Option (List α):=if n=l.length then some l else none
theorem qeT{α:Type}{n:Nat}{l:List α}{i:Int}{x:α}(h:X6 n l i=some x):cz l i=some x:=by
 unfold X6 at h
 split at h
 ·rename_i hh;unfold cz;rw[vad hh.1];exact h
 ·cases h
theorem Qa{α:Type}{n:Nat}{l r:List α}(h:qcO n l=some r):n=l.length/\r=l:=by
 unfold qcO at h
 split at h
 ·cases h;exact⟨by assumption,rfl⟩
 ·cases h
section
variable{P:Program}{GE:List (Nat×List PVal)}{T e:TypeId}{α:Type}{c:α->List PVal}
theorem qg.iaN(s:qg P T e c)(b:Nat){n:Nat}{l:List α}{i:Int}{k:IntKind}{x:α}(h:X6 n l i=some x):jn P T (.bsl b 0 n) (.int k i)=some (.bptr b (lL P e i)):=by
 unfold X6 at h
 split at h
 ·rename_i hh
  unfold jn
  rw[s.hu]
  simp only
  rw[vad ⟨hh.1,by omega,s.hi⟩]
 ·cases h
theorem qg.iaM(s:qg P T e c)(b:Nat){lo:Int}{n:Nat}{l:List α}{i:Int}{k:IntKind}{x:α}(h:qgN lo n l i=some x):jn P T (.bsl b (lL P e lo) n) (.int k i)=some (.bptr b (lL P e (lo+i))):=by
 unfold qgN at h
 split at h
 ·rename_i hh
  unfold jn
  rw[s.hu]
  simp only
  rw[vad ⟨hh.2.1,by omega,s.hi⟩]
  have:(lo+i).toNat=lo.toNat+i.toNat:=by omega
  simp only[lL,this,vaK,va7]
 ·cases h
theorem qg.ldN(s:qg P T e c){n:Nat}{l:List α}{i:Int}{x:α}{p:PVal}(hl:∀r,bm P e (c x++r)=some p)(h:X6 n l i=some x):bm P e ((pF c l).drop (lL P e i))=some p:=s.ldR hl (qeT h)
theorem qg.ldM(s:qg P T e c){lo:Int}{n:Nat}{l:List α}{i:Int}{x:α}{p:PVal}(hl:∀r,bm P e (c x++r)=some p)(h:qgN lo n l i=some x):bm P e ((pF c l).drop (lL P e (lo+i)))=some p:=by
 refine s.ldR hl ?_
 unfold qgN at h
 split at h
 ·rename_i hh;unfold cz;rw[vad (by omega)];exact h
 ·cases h
theorem qg.scN(s:qg P T e c)(b:Nat){n m:Nat}{lo hi:Int}(h:qd0 n lo hi=some m):Ac P T (.bsl b 0 n) (some (.int .i64 lo)) (some (.int .i64 hi)) none=some (.bsl b (lL P e lo) m):=by
 unfold qd0 at h
 split at h
 ·rename_i hh
  cases h
  unfold Ac
  rw[s.hu]
  simp only[LV,vad hh.1,vad (show 0<=hi by omega)]
  rw[vad ⟨by omega,hh.2.2,s.hi⟩]
 ·cases h
theorem qg.fz1(s:qg P T e c){m b:Nat}(hb:decide (m % 1000<=b)=true)(l:List α):(m % 1000<=b)/\∃sz,0<sz/\∀x∈l.map c,x.length=sz:=⟨vaD hb,_,s.hp,fun x hx=>(s.mapOk l x hx).1⟩
theorem qg.fz2(s:qg P T e c)(b:Nat)(l:List α):NT b (l.map c):=Cz b _ (UR fun p hp=>by obtain⟨x,_,rfl⟩:=vaq.1 hp;exact s.cl x)
theorem qhu(c:α->List PVal){n:Nat}{l r:List α}(h:qcO n l=some r):pF c l=(r.map c).flatten:=by rw[(Qa h).2];rfl
theorem qhv(c:α->List PVal){n:Nat}{l r:List α}(h:qcO n l=some r):n=(r.map c).length:=by rw[(Qa h).2,vaF];exact(Qa h).1
theorem qkS{m b:Nat}(hb:decide (m % 1000<=b)=true)(l:List PVal)(hl:decide (l.length≠0)=true):(m % 1000<=b)/\∃sz,0<sz/\∀x∈[l],x.length=sz:=⟨vaD hb,l.length,by have:=vaD hl;omega,fun x hx=>by rw[va3.1 hx]⟩
theorem qkT(b:Nat){l:List PVal}(h:iy 0 l):NT b [l]:=Cz b _ ⟨h,trivial⟩
theorem qkU{l r:List PVal}(h:r=l):l=[r].flatten:=by rw[h];simp
theorem E6(b:Nat){p:PVal}(h:p.cl 0):p.no b:=Xl b p h
end
theorem qeg{α:Type}{c:α->List PVal}(n:Nat)(h:∀x,iy 0 (c x)):∀(l:List α),iy n (pF c l)
 |[]=>trivial
 |x::l=>by
  have e:pF c (x::l)=c x++pF c l:=by simp[pF]
  rw[e]
  exact sQ.2 ⟨ij (h x),qeg n h l⟩
theorem xS(ρ:List Nat)(i j off n:Nat)(h:ρ[i]? =some j):Jr ρ (.bsl j off n) (.bsl i off n):=.bsl i j off n h
theorem qkx(ρ:List Nat):∀(l:List PVal),iy 0 l->RZ ρ l l
 |[],_=>trivial
 |p::l,h=>by simp only[iy]at h;exact⟨.refl p h.1,qkx ρ l h.2⟩
theorem eF(e:Exit)(s:aA):PS [] (e=e/\s.tmps=s.tmps/\s.boxes=s.boxes/\true=true):=⟨rfl,fr s⟩
theorem uz(m:Nat)(e:Exit)(s:aA)(h4:decide (m % 1000<=s.boxes.length)=true)(h5:iy s.boxes.length s.tmps)(h6:UQ s.boxes.length s.boxes):
  PS [] (e=e/\s.tmps=s.tmps/\s.boxes=s.boxes/\true=true/\decide (m % 1000<=s.boxes.length)=true/\iy s.boxes.length s.tmps/\UQ s.boxes.length s.boxes):=⟨rfl,qlJ m s h4 h5 h6⟩
end Go.Proofs.YtbaamopmfmpfaaaGreatDoor
