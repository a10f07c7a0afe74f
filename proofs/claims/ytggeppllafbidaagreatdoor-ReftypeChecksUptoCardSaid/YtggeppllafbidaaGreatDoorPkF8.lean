/- PROVED: a part of the proof. Conditions: none. -/
import Derived.Test.YtggeppllafbidaaGreatDoorPkF7
import Derived.Test.YtggeppllafbidaaGreatDoorPkF3
import Derived.Shelf.SlicesE.Clone
import Derived.Test.YtggeppllafbidaaGreatDoorChecked
import Derived.RangeFuncRecord
import Derived.RangeFuncSeq
noncomputable section
namespace Go.Proofs.YtggeppllafbidaaGreatDoor
open Go
theorem Bm{k:Nat}{B:aA}:∀{ps qs:List aA} {i:Nat},qs.length<=i->cC k ps qs->cC k (ps.set i B) qs
 |_,[],_,_,_=>by unfold cC;trivial
 |[],_::_,_,_,h=>by simpa using h
 |p::ps,q::qs,0,hi,_=>by simp at hi
 |p::ps,q::qs,i+1,hi,h=>by
  simp only[List.set_cons_succ]
  exact⟨h.1,Bm (by simpa using hi) h.2⟩
def J3(P:Program)(rs:List ResultVar)(r:PVal)(ro:List (Nat×TypeId))(H':List aA)(st:ax):Prop:=
 ∃(t:Tmp) (ty:TypeId) (i off:Nat) (cs:List PVal) (own:List (Nat×TypeId)) (l:List PVal),rs=[.cell t ty]/\(∃fs,P.underlying ty=some (.struct fs))/\st.tmps.getD t .undef=.bptr i off/\st.boxes[i]? =some (.cells cs own)/\
  r=.agg l/\cp P ty (cs.drop off)=some (.agg l)/\r.cl H'.length/\H'.length<=i/\cC H'.length st.boxes H'/\(∀x∈ro,(off+x.1,x.2)∈own/\x.1<l.length)/\(ro.map (·.1)).Nodup
def Tx(P:Program)(rs:List ResultVar)(r:PVal)(ro:List (Nat×TypeId))(H':List aA)(e:Exit)(st:ax):Prop:=
 XK P rs r ro H' e st\/((e=.normal\/e=.ret)/\J3 P rs r ro H' st)
section
variable{P:Program}{E:qj}{Γ:aV}{bs:bD}{ow:Nat->Option kH}{w:World}{a:Array Value}{st:ax}
theorem SR.finishCellG(h:SR P E Γ bs ow w a st){fn:Func}{r:PVal}{ro:List (Nat×TypeId)}{H':List aA}(hr:J3 P fn.results.toList r ro H' st):∃v ow',(results fn a).run P w=.ok v w/\SR P E Γ (bs.take H'.length) ow' w #[v] ⟨[r],H',ro.map fun x=>((0,x.1),x.2)⟩:=by
 obtain⟨t,ty,i,off,cs,own,l,hrs,⟨fs,hfs⟩,ht,hB,rfl,hp,hcl,hi,hbl,hro,hnd⟩:=hr
 have hrv:D8 P st fn.results.toList=some (.agg l):=by
  rw[hrs]
  show kJ P ty (st.tmps.getD t .undef) st.boxes=_
  rw[ht]
  simp only[kJ,hB,hp]
 obtain⟨v,e1,e2,_⟩:=qi h hrv
 have hvt:=h.getD t
 rw[ht]at hvt
 generalize hva:a.getD t undef=vt at hvt
 cases hvt with
 |bptr _ _ b hb=>
 obtain⟨v2,q1,q2,q3⟩:=Cn h hb hB hp
 have hvv:v2=v:=by
  have hres:fn.results=#[.cell t ty]:=by
   have:fn.results=fn.results.toList.toArray:=by simp
   rw[this,hrs]
  have hrun:(results fn a).run P w=.ok v2 w:=by
   simp[results,hres,asAddr]
   have hva':a[t]?.getD undef=.pointer (some ⟨b,off,none⟩):=by rw[<-vax];exact hva
   rw[hva']
   simp[q1]
  rw[e1]at hrun
  cases hrun
  rfl
 subst hvv
 have g1:=h.pushed e2
 obtain⟨ow',g2⟩:=SR.takeOwns (off:=off) (d:=a.size) (u:=v2) hb (by simp) ro g1 hB (fun x hx=>(hro x hx).1) hnd fun x hx=>by
  have:=q3 ⟨_,hfs,trivial⟩ x.1 (hro x hx).2
  obtain⟨v',z1,_⟩:=h.ob i (off+x.1) x.2 cs own b hB (hro x hx).1 hb
  exact⟨v',this.trans z1,z1⟩
 refine⟨v2,zI (fun k=>(a.size,k)) ro ow',e1,?_⟩
 exact g2.finish (H':=H') (src:=fun k=>(a.size,k)) (ro:=ro) e2 hcl (Bm hi hbl) (fun x hx=>⟨va7 _ (vb0.2 (vas.2 ⟨x,hx,rfl⟩)),fun u v' hu hv'=>by simp at hu;subst hu;exact hv'⟩) (fun x _ y _ e=>by simpa using e)
end
theorem C.ofSatG{P:Program}{GE:List (Nat×List PVal)}{m:Nat}{f:FuncId}{fn:Func}{c:Code}{args:List PVal}{oa:List ((Nat×Nat)×TypeId)}{H:List aA}{r:PVal}{ro:List (Nat×TypeId)}{H':List aA}(hm:m % 1000=H.length)(hm0:m≠0)
  (hcall:∀vs w,(callFunc f vs).run P w=.ok (.enter f vs) w) (hfn:P.funcs[f]? =some fn) (hb:fn.body=some c) (hH:H'.length=H.length)
  (hp:aL P GE m c (Tx P fn.results.toList r ro H') ⟨args++List.replicate (fn.ntmps - args.length) .undef,H,oa⟩):C P GE f args oa H r ro H':=by
 refine⟨hcall,fun Γ bs ow w vs h=>calls_of_wp hfn hb ?_⟩
 have hbl:bs.length=H.length:=h.bl
 have h0:SR P ⟨GE,Γ,w,bL bs ow⟩ Γ bs ow w (vs++Array.replicate (fn.ntmps - vs.size) undef) ⟨args++List.replicate (fn.ntmps - args.length) .undef,H,oa⟩:=by
  have hsz:vs.size=args.length:=h.sz
  exact{h with
   sz:=by simp[hsz]
   tm:=fun t p v hp hv=>by
    simp only at hp
    by_cases ht:t<args.length
    ·rw[vac ht]at hp
     rw[vaI (by omega)]at hv
     exact h.tm t p v hp hv
    ·rw[vae (by omega),vaN]at hp
     split at hp<;>cases hp
     exact .undef v
   ot:=fun t k e he=>by
    obtain⟨u,v,h1,h2⟩:=h.ot t k e he
    exact⟨u,v,by rw[vaI (vap.1 h1).1];exact h1,h2⟩}
 have hE:Be GE m ⟨GE,Γ,w,bL bs ow⟩:={
  ge:=rfl
  low:=fun b n hb=>h.lt_of_ghost hb
  nt:=fun h0=>absurd h0 hm0
  gl:=fun g cs hg=>(h.gl g cs hg).restrict (n:=0) (by simp only[PVal.cl];exact h.gc g cs hg) (fun i b hi _=>absurd hi (vaM _))}
 have hwp:=hp none ⟨GE,Γ,w,bL bs ow⟩ bs ⟨vs++Array.replicate (fn.ntmps - vs.size) undef,[]⟩ w hE (by rw[hbl,hm]) ⟨Γ,bs,ow,h0,fun i _=>rfl⟩
 refine wp_mono hwp fun e a w' hq=>?_
 obtain⟨hd,st,⟨Γ1,bs1,ow1,hS,hk⟩,hQ⟩:=hq
 have htake:H'.length<=bs1.length->bs1.take H'.length=bs:=by
  intro hl1
  refine vbf fun i=>?_
  by_cases hi:i<H'.length
  ·rw[van hi];exact hk i (by omega)
  ·rw[vb8 (by omega),vaC (by omega)]
 have hlen:∀{B:List aA},cC H'.length B H'->B.length=bs1.length->H'.length<=bs1.length:=fun hB he=>by
  obtain⟨hl,_⟩:=lF hB;omega
 have key:(D8 P st fn.results.toList=some r/\r.cl H'.length/\cC H'.length st.boxes H'/\(∀x∈ro,(cT fn.results.toList x.1,x.2)∈st.own/\pA st fn.results.toList x.1)/\
   (∀x∈ro,∀y∈ro,cT fn.results.toList x.1=cT fn.results.toList y.1->x.1=y.1))->
   a.defers=[]/\∃v,(results fn a.tmps).run P w'=.ok v w'/\∃v' Γ' ow',Ending.returned v=.returned v'/\SR P ⟨GE,Γ,w,bL bs ow⟩ Γ' bs ow' w' #[v'] ⟨[r],H',ro.map fun x=>((0,x.1),x.2)⟩:=by
  rintro⟨k1,k2,k3,k4,k5⟩
  obtain⟨v,e1,e2,e3⟩:=qi hS k1
  refine⟨hd,v,e1,v,Γ1,zI (cT fn.results.toList) ro ow1,rfl,?_⟩
  have hf:=hS.finish (H':=H') (src:=cT fn.results.toList) (ro:=ro) e2 k2 k3 (fun x hx=>⟨(k4 x hx).1,fun u v'=>e3 x.1 u v' (k4 x hx).2⟩) k5
  rw[htake (hlen k3 hS.bl.symm)]at hf
  exact hf
 have key2:J3 P fn.results.toList r ro H' st->
   a.defers=[]/\∃v,(results fn a.tmps).run P w'=.ok v w'/\∃v' Γ' ow',Ending.returned v=.returned v'/\SR P ⟨GE,Γ,w,bL bs ow⟩ Γ' bs ow' w' #[v'] ⟨[r],H',ro.map fun x=>((0,x.1),x.2)⟩:=by
  intro hc
  obtain⟨v,ow',e1,e2⟩:=hS.finishCellG hc
  obtain⟨_,_,_,_,_,_,_,_,_,_,_,_,_,_,_,hbl2,_,_⟩:=hc
  rw[htake (hlen hbl2 hS.bl.symm)]at e2
  exact⟨hd,v,e1,v,Γ1,ow',rfl,e2⟩
 rcases hQ with hQ|⟨he,hQ⟩
 ·cases e with
  |normal=>exact key hQ
  |ret=>exact key hQ
  |exit id=>exact hQ.elim
  |goto l=>exact hQ.elim
  |panic c=>exact hQ.elim
  |outgrown=>exact hQ.elim
 ·rcases he with rfl|rfl
  ·exact key2 hQ
  ·exact key2 hQ
def OR(P:Program)(rs:List ResultVar)(ro:List (Nat×TypeId))(n:Nat)(st:ax):Bool:=match rs with
 | [.cell t ty] => match P.underlying ty with
  | some (.struct _) => match st.tmps.getD t .undef with
   |.bptr i off=>decide (n<=i)&&match st.boxes[i]? with
    |some (.cells _ own)=>ro.all (fun x=>decide ((off+x.1,x.2)∈own)&&decide (x.1<P.cellsOf ty))&&sY (ro.map (·.1))
    |_=>false
   |_=>false
  |_=>false
 |_=>false
def Sr(P:Program)(rs:List ResultVar)(r:PVal)(ro:List (Nat×TypeId))(H':List aA)(st:ax):Prop:=match AN rs ro st with
 |true=>match D8 P st rs with
  |some p=>p=r/\r.cl H'.length/\MX (st.boxes.take H'.length) H'=H'/\MQ H'.length H'
  |none=>False
 | false => match OR P rs ro H'.length st with
  |true=>match D8 P st rs with
   |some p=>p=r/\r.cl H'.length/\MX (st.boxes.take H'.length) H'=H'/\MQ H'.length H'/\r.isAgg=true
   |none=>False
  |false=>False
def WJ(P:Program)(rs:List ResultVar)(r:PVal)(ro:List (Nat×TypeId))(H':List aA):Exit->List It->ax->Prop:=fun e _ st=>match e with
 |.normal=>Sr P rs r ro H' st
 |.ret=>Sr P rs r ro H' st
 |_=>False
theorem Nq{rs:List ResultVar}{ro:List (Nat×TypeId)}{st:ax}(hc:AN rs ro st=true):(∀x∈ro,(cT rs x.1,x.2)∈st.own/\pA st rs x.1)/\(∀x∈ro,∀y∈ro,cT rs x.1=cT rs y.1->x.1=y.1):=by
 have:=J5 (r:=.undef) (P:=default) (rs:=rs) (ro:=ro) (st:=⟨st.tmps,st.boxes,st.own⟩) hc
 by_cases hr:D8 default st rs=some .undef
 ·exact(this hr trivial).2.2.2
 ·clear this
  unfold AN at hc
  rw[vad]at hc
  obtain⟨c1,c2⟩:=hc
  refine⟨fun x hx=>?_,fun x hx y hy hxy=>?_⟩
  ·have:=vat.1 c1 x hx
   rw[vad]at this
   refine⟨by simpa using this.1,?_⟩
   have h2:=this.2
   clear this c1 c2 hr
   rcases rs with _|⟨y,_|⟨z,rs⟩⟩
   ·simp at h2
   ·cases y with
    |tmp t=>trivial
    |cell t ty=>cases h2
   ·have key:∀o:Option ResultVar,(match o with
     |some (.tmp t)=>(st.tmps.getD t .undef).isSlice
     |_=>false)=true->(match o with
     |some (.tmp t)=>(st.tmps.getD t .undef).isSlice=true
     |_=>False):=by
     intro o
     cases o with
     |none=>intro h;cases h
     |some q=>cases q<;>intro h<;>first|exact h|cases h
    cases y with
    |tmp t=>exact key _ h2
    |cell t ty=>exact key _ h2
  ·have:=vat.1 (vat.1 c2 x hx) y hy
   simpa[hxy]using this
theorem Sr.to{P:Program}{rs:List ResultVar}{r:PVal}{ro:List (Nat×TypeId)}{H':List aA}{st:ax}{e:Exit}(he:e=.normal\/e=.ret)(h:Sr P rs r ro H' st):Tx P rs r ro H' e st:=by
 unfold Sr at h
 split at h
 ·rename_i hc
  split at h
  ·rename_i p hp
   obtain⟨rfl,hcl,hfg,hcb⟩:=h
   obtain⟨s1,s2⟩:=Nq hc
   have:D8 P st rs=some p/\p.cl H'.length/\cC H'.length st.boxes H'/\_/\_:=⟨hp,hcl,Dl hfg hcb,s1,s2⟩
   rcases he with rfl|rfl<;>exact .inl this
  ·exact h.elim
 ·split at h
  ·rename_i hc
   split at h
   ·rename_i p hp
    obtain⟨rfl,hcl,hfg,hcb,hagg⟩:=h
    refine .inr ⟨he,?_⟩
    unfold OR at hc
    split at hc
    ·rename_i t ty _
     split at hc
     ·rename_i fs hfs
      split at hc
      ·rename_i i off ht
       rw[vad,vak]at hc
       obtain⟨hi,hc⟩:=hc
       split at hc
       ·rename_i cs own hB
        rw[vad]at hc
        obtain⟨c1,c2⟩:=hc
        have hpl:cp P ty (cs.drop off)=some p:=by
         have hp':kJ P ty (st.tmps.getD t .undef) st.boxes=some p:=hp
         rw[ht]at hp'
         simpa only[kJ,hB]using hp'
        cases p<;>simp only[PVal.isAgg]at hagg<;>first|(cases hagg;done)|skip
        rename_i l
        have hlen:l.length=P.cellsOf ty:=by
         have hq:=hpl
         unfold cp at hq
         rw[hfs]at hq
         simp only at hq
         split at hq
         ·rename_i hh;cases hq;rw[vaZ];omega
         ·cases hq
        refine⟨t,ty,i,off,cs,own,l,rfl,⟨fs,hfs⟩,ht,hB,rfl,hpl,hcl,hi,Dl hfg hcb,fun x hx=>?_,mS c2⟩
        have:=vat.1 c1 x hx
        simp only[vad,vak]at this
        exact⟨this.1,by rw[hlen];exact this.2⟩
       ·cases hc
      ·cases hc
     ·cases hc
    ·cases hc
   ·exact h.elim
  ·exact h.elim
theorem WJ.to{P:Program}{rs:List ResultVar}{r:PVal}{ro:List (Nat×TypeId)}{H':List aA}{e:Exit}{sc:List It}{st:ax}(h:WJ P rs r ro H' e sc st):Tx P rs r ro H' e st:=by
 unfold WJ at h
 split at h
 ·exact h.to (.inl rfl)
 ·exact h.to (.inr rfl)
 ·exact h.elim
theorem C.evG{P:Program}{GE:List (Nat×List PVal)}{A:List Nat}(hf:P.follows .mixedOrders=true){m:Nat}{f:FuncId}{fn:Func}{c:Code}{args:List PVal}{oa:List ((Nat×Nat)×TypeId)}{H:List aA}{r:PVal}{ro:List (Nat×TypeId)}{H':List aA}
  (hm:decide (m % 1000=H.length)&&decide (m≠0)&&decide (H'.length=H.length)=true) (hcall:∀vs w,(callFunc f vs).run P w=.ok (.enter f vs) w) (hfn:P.funcs[f]? =some fn) (hb:fn.body=some c) (sc:List It)
  (h:wO P GE A m c sc ⟨args++List.replicate (fn.ntmps - args.length) .undef,H,oa⟩ (WJ P fn.results.toList r ro H')):C P GE f args oa H r ro H':=by
 simp only[vad,vak]at hm
 exact C.ofSatG hm.1.1 hm.1.2 hcall hfn hb hm.2 ((fw hf c sc _ _ h).imp fun e st hx=>by obtain⟨sc',hx⟩:=hx;exact hx.to)
section
variable{X Y:Type}
def VW(F:(X->Option Y)->X->Option Y):Nat->X->Option Y
 |0,_=>none
 |n+1,x=>F (VW F n) x
end
theorem rT:true=true:=rfl
theorem rL(l:List aA):l=l:=rfl
theorem rB(B:aA):B=B:=rfl
theorem rW(l:List (Nat×TypeId)):l=l:=rfl
theorem xR(ρ:List Nat)(p:PVal)(h:p.cl 0):CW ρ p p:=.refl p h
theorem xB(ρ:List Nat)(i j off:Nat)(h:ρ[i]? =some j):CW ρ (.bptr j off) (.bptr i off):=.bptr i j off h
theorem xF(ρ:List Nat)(fn:Fn)(f c f' c':List PVal)(h:IG ρ f f')(h':IG ρ c c'):CW ρ (.func fn f c) (.func fn f' c'):=.func fn f c f' c' h.len h'.len h.get h'.get
theorem Qr{a a':PVal}{l l':List PVal}(h:a=a')(h':l=l'):a::l=a'::l':=by rw[h,h']
open Go Go.Shelf Go.RowKit Go.Lib
variable{P:Program}{ρ:Ren}
set_option maxHeartbeats 2000000 in
set_option maxRecDepth 100000 in
theorem N4(L:SlLaysE0.n41 P ρ)(i0:TypeInfo)(z:Value)(hi:P.info? (ρ.t 23)=some i0)(hz0:i0.zero=some z)(hzs:z.cells.size=i0.size)(hsz:0<i0.size)
  (z23:∀w,(Go.sizeOf (ρ.t 23)).run P w=.ok i0.size w) (ad:Addr) (c:Nat) (w:World):
  Calls P (ρ.f 41) #[.slice (some ad) 0 c] w fun r w'=>∃v',r=.returned v'/\w'.ownsRow w.heap.size (ρ.t 23) i0.size v' 0 []/\Below w.heap.size w w':=by
 have mixed:=L.mixed;have t4:=L.t4;have a4:=L.a4;have z4:=L.z4;have v4:=L.v4;have t22:=L.t22;have a22:=L.a22;have z22:=L.z22;have v22:=L.v22
 have q22:∀(w:World) (a:Option Addr) (n c n' c':Nat),(binOp .eql (ρ.t 22) (.slice a n c) (.slice none n' c')).run P w=.ok (.bool a.isNone) w:=fun w a n c n' c'=>Lib.run_eql_slice_nil w _ _ a n c n' c' L.t22
 have u22:∀w,Sem.run P (underlying (ρ.t 22)) w=.ok (TypeDesc.slice (ρ.t 23)) w:=run_underlying t22
 obtain⟨_,_,FG⟩:=L.f41
 go_enter FG,SlBodyN.n41_ntmps ρ
 go_wp2_with (at_builtin;refine wpList_append_own _ rfl _ _ (ρ.t 22) rfl w.heap.size (ρ.t 23) i0 z i0.size i0.bytes t22 hi hz0 rfl rfl hzs hsz _ _ _ rfl (World.ownsRow_made w #[] 0 (vam _) (vaB _) (by simp)) ad 0 c [] rfl (by simp) (by simp) (by simp) (by simp) (by simp) (by simp) ?_)
 intro v' w1 hown hgrow _
 go_wp2
 go_ret
 exact⟨v',rfl,by simpa using hown,((Below.refl _ w).alloc (vam _) _).grown hgrow (by simp) (by intro k hk;simp[Value.ownBlock]at hk;omega)⟩
theorem Rh(L:SlLaysE0.n41 P ρ)(i0:TypeInfo)(z:Value)(hi:P.info? (ρ.t 23)=some i0)(hz0:i0.zero=some z)(hzs:z.cells.size=i0.size)(hsz:0<i0.size)(hby:i0.bytes<=65536)
  (hcall:∀vs w,(callFunc (ρ.f 41) vs).run P w=.ok (.enter (ρ.f 41) vs) w):oo P (ρ.f 41) (ρ.t 23):=by
 have hc:P.cellsOf (ρ.t 23)=i0.size:=by simp[Program.cellsOf,hi]
 have z23:∀w,(Go.sizeOf (ρ.t 23)).run P w=.ok i0.size w:=fun w=>by rw[<-hc];exact run_sizeOf w hi
 refine⟨hcall,fun w x n news hx hl h1 hn=>?_⟩
 rw[hc]at hl ⊢
 rcases hx with⟨rfl,rfl⟩|⟨a,c,rfl,hcell⟩
 ·have hnews:news=[]:=vao (by simpa using hl)
  subst hnews
  refine(AnyE.slices_Clone_nil L 0 0 w).mono fun r w' hr=>?_
  obtain⟨rfl,rfl⟩:=hr
  exact⟨_,rfl,World.ownsRow_nil _ _ _ _,Below.refl _ _⟩
 ·by_cases h0:n=0
  ·subst h0
   have hnews:news=[]:=vao (by simpa using hl)
   subst hnews
   exact N4 L i0 z hi hz0 hzs hsz z23 a c w
  ·have hpos:0<news.length:=by rw[hl];exact vcP (Nat.pos_of_ne_zero h0) hsz
   have hsp:a.spot=none:=by
    have hk:=hcell 0 _ (vab hpos)
    unfold Addr.add at hk
    simp only[if_true]at hk
    unfold World.cell? at hk
    split at hk
    ·split at hk
     ·cases hk
     ·rename_i hs;simpa using hs
    ·cases hk
   obtain⟨b,off,sp⟩:=a
   simp only at hsp
   subst hsp
   refine(AnyE.slices_Clone L i0 z i0.size i0.bytes hi hz0 rfl rfl hzs hsz z23 b off n c news w hl (by unfold maxLen;unfold dy at hn;omega) ?_ (fun j u hj=>by rw[<-Addr.add_lit];exact hcell j u hj) h1).mono fun r w' hr=>?_
   ·have:n * i0.bytes<=1073741824 * 65536:=vcz (by unfold dy at hn;omega) hby
    omega
   ·obtain⟨v',k1,k2,_,k3⟩:=hr
    exact⟨v',k1,k2,k3⟩
theorem Rg(L:SlLaysE0.n41 P ρ){f:FuncId}{e:TypeId}(hf:ρ.f 41=f)(he:ρ.t 23=e)(hq:(P.info? e).any (fun i=>(i.zero.any fun z=>z.cells.size==i.size)&&decide (0<i.size)&&decide (i.bytes<=65536))=true)
  (hcall:∀vs w,(callFunc f vs).run P w=.ok (.enter f vs) w):oo P f e:=by
 subst hf;subst he
 cases hi:P.info? (ρ.t 23)with
 |none=>rw[hi]at hq;cases hq
 | some i0 =>
  rw[hi]at hq
  simp only[Option.any_some,vad,vak]at hq
  obtain⟨⟨h1,h2⟩,h3⟩:=hq
  cases hz:i0.zero with
  |none=>rw[hz]at h1;cases h1
  |some z=>
   rw[hz]at h1
   simp only[Option.any_some,vaT]at h1
   exact Rh L i0 z hi hz h1 h2 h3 hcall
end Go.Proofs.YtggeppllafbidaaGreatDoor
namespace Go.Proofs.YtggeppllafbidaaGreatDoor
open Go
def wP{α:Type}(c:α->List PVal)(l:List α):List PVal:=(l.map c).flatten
def Cg{α:Type}(l:List α):Option (List α):=if l.length<=dy then some l else none
def X2{α:Type}(l:List α)(i:Int)(x:α):Option (List α):=if 0<=i/\i.toNat<l.length then some (l.set i.toNat x)else none
abbrev FA(P:Program)(e:TypeId)(i:Int):Nat:=0+i.toNat * P.cellsOf e
section
variable{P:Program}{GE:List (Nat×List PVal)}{T e:TypeId}{α:Type}{c:α->List PVal}
theorem FY{l r:List α}(h:Cg l=some r):l.length<=dy/\r=l:=by
 unfold Cg at h
 split at h
 ·rename_i hl;cases h;exact⟨hl,rfl⟩
 ·cases h
theorem AV.mapOk(s:AV P T e c)(l:List α):∀x∈l.map c,x.length=P.cellsOf e/\∀q∈x,q.one=true:=fun x hx=>by
 obtain⟨y,_,rfl⟩:=vas.1 hx
 exact⟨s.hc y,s.ho y⟩
theorem AV.cloneCC(s:AV P T e c){f:FuncId}(hC:oo P f e){l r:List α}(h:Cg l=some r):CC P GE f [sl c l] (sl c r) [(0,e)]:=by
 obtain⟨hl,rfl⟩:=FY h
 exact CC.clone hC ⟨am s.cl r,trivial⟩ s.hp (s.mapOk r) (by simpa using hl)
theorem AV.cloneR(s:AV P T e c){f:FuncId}(hC:oo P f e){l r:List α}(h:Cg l=some r):oo P f e/\(0<P.cellsOf e/\(∀x∈l.map c,x.length=P.cellsOf e/\∀q∈x,q.one=true)/\(l.map c).length<=dy)/\(r.length=(l.map c).length/\wP c r=(l.map c).flatten):=by
 obtain⟨hl,rfl⟩:=FY h
 exact⟨hC,⟨s.hp,s.mapOk r,by simpa using hl⟩,by simp,rfl⟩
theorem AV.flat_len(s:AV P T e c)(l:List α):(wP c l).length=l.length * P.cellsOf e:=by
 unfold wP
 rw[Go.Proofs.YtggeppllafbidaaGreatDoor.flat_len (sz:=P.cellsOf e) (fun x hx=>(s.mapOk l x hx).1)]
 simp
theorem EN(hc:∀x,(c x).length=P.cellsOf e):∀{l:List α} {i:Nat} {x:α},l[i]? =some x->wP c l=(wP c l).take (i * P.cellsOf e)++c x++(wP c l).drop (i * P.cellsOf e+P.cellsOf e)/\∀y,wP c (l.set i y)=(wP c l).take (i * P.cellsOf e)++c y++(wP c l).drop (i * P.cellsOf e+P.cellsOf e)
 |[],i,x,h=>by simp at h
 |z::l,0,x,h=>by
  simp at h;subst h
  have e1:wP c (z::l)=c z++wP c l:=by simp[wP]
  have e2:∀y,wP c ((z::l).set 0 y)=c y++wP c l:=fun y=>by simp[wP]
  rw[e1]
  simp only[e2,vcr,vaH,List.take_zero,va4]
  rw[<-hc z,List.drop_left]
  exact⟨rfl,fun _=>rfl⟩
 | z :: l,i + 1,x,h => by
  obtain⟨h1,h2⟩:=EN hc (l:=l) (i:=i) (x:=x) (by simpa using h)
  have e1:wP c (z::l)=c z++wP c l:=by simp[wP]
  have e2:∀y,wP c ((z::l).set (i+1) y)=c z++wP c (l.set i y):=fun y=>by simp[wP]
  have hz:=hc z
  have t1:(c z++wP c l).take ((i+1) * P.cellsOf e)=c z++(wP c l).take (i * P.cellsOf e):=by
   rw[List.take_append,vbb,vbE,hz,vbP (by omega),Nat.add_sub_cancel]
  have t2:(c z++wP c l).drop ((i+1) * P.cellsOf e+P.cellsOf e)=(wP c l).drop (i * P.cellsOf e+P.cellsOf e):=by
   rw[vcN,vbb,vbE,hz,vbO (by omega),va4]
   congr 1;omega
  rw[e1,t1,t2]
  refine⟨?_,fun y=>?_⟩
  ·conv=>lhs;rw[h1]
   simp only[vbo]
  ·rw[e2,h2];simp only[vbo]
theorem AV.ldR(s:AV P T e c){l:List α}{i:Int}{x:α}{p:PVal}(hl:∀r,cp P e (c x++r)=some p)(h:dt l i=some x):cp P e ((wP c l).drop (FA P e i))=some p:=by
 obtain⟨h0,h1⟩:=Dr h
 obtain⟨h2,_⟩:=EN (P:=P) (e:=e) s.hc h1
 have hlen:=s.flat_len l
 have hlt:=ak h1
 have hle:i.toNat * P.cellsOf e<=l.length * P.cellsOf e:=vaR _ (vcu hlt)
 rw[FA,vaH]
 have:(wP c l).drop (i.toNat * P.cellsOf e)=c x++(wP c l).drop (i.toNat * P.cellsOf e+P.cellsOf e):=by
  conv=>lhs;rw[h2]
  rw[vbo,vcN,vbO (by simp;omega),va4]
  have:((wP c l).take (i.toNat * P.cellsOf e)).length=i.toNat * P.cellsOf e:=by simp;omega
  rw[this,vbK,vaU]
 rw[this];exact hl _
theorem TM{l r:List α}{i:Int}{x:α}(h:X2 l i x=some r):0<=i/\i.toNat<l.length/\r=l.set i.toNat x:=by
 unfold X2 at h
 split at h
 ·rename_i hh;cases h;exact⟨hh.1,hh.2,rfl⟩
 ·cases h
theorem AV.stR(s:AV P T e c){l r:List α}{i:Int}{x:α}{v:PVal}(hv:ct v=some (c x))(h:X2 l i x=some r):cR P e (.bptr 0 (FA P e i)) v [.cells (wP c l) []]=some [.cells (wP c r) []]:=by
 obtain⟨h0,h1,rfl⟩:=TM h
 obtain⟨_,h2⟩:=EN (P:=P) (e:=e) s.hc (vab h1)
 have hlen:=s.flat_len l
 have hle:i.toNat * P.cellsOf e+P.cellsOf e<=l.length * P.cellsOf e:=by
  have:=vaR (P.cellsOf e) h1
  rw[Nat.succ_mul]at this;exact this
 unfold cR
 simp only[hv,List.getElem?_cons_zero,FA,vaH]
 rw[vai ⟨s.hc x,s.hi,by rw[s.hc x];omega,vat.2 (s.ho x)⟩,h2,s.hc x]
 simp
end
def PS(_:List It)(F:Prop):Prop:=F
section
variable{sc:List It}{F X Y:Prop}
theorem en(h:F):PS [] F:=h
theorem sv{o:Option PVal}{p:PVal}(h:o=some p)(r:PS sc F):PS (.v p::sc) (o=some p/\F):=⟨h,r⟩
theorem b9{o:List aA->Option PVal}{p:PVal}(h:∀H,o H=some p)(r:PS sc F):PS (.v p::sc) ((∀H,o H=some p)/\F):=⟨h,r⟩
theorem sx{o:Option (List PVal)}{l:List PVal}(h:o=some l)(r:PS sc F):PS (.x l::sc) (o=some l/\F):=⟨h,r⟩
theorem se{o:Option (List PVal)}{l:List PVal}(h:o=some l)(r:PS sc F):PS (.e l::sc) (o=some l/\F):=⟨h,r⟩
theorem sg(n:Nat){x b:Bool}(h:x=b)(r:PS sc F):PS (.g n b::sc) (x=b/\F):=⟨h,r⟩
theorem ss(r:PS sc F):PS (.s::sc) F:=r
theorem V1{o:Option (List PVal)}{l:List PVal}(h:o=some l)(r:PS sc F):PS (.s::sc) (o=some l/\F):=⟨h,r⟩
theorem aX{P:Program}{GE:List (Nat×List PVal)}{g:FuncId}{vs:List PVal}{p:PVal}{ro:List (Nat×TypeId)}(h:CC P GE g vs p ro)(r:PS sc F):PS (.c p ro::sc) (CC P GE g vs p ro/\F):=⟨h,r⟩
theorem sb{P:Program}{T:TypeId}{ps:List (Nat×PVal)}{p:PVal}{L:List (Nat×TypeId)}(h:dA P T ps=some p)(h':xQ P T ps L)(r:PS sc F):PS (.b p L::sc) (dA P T ps=some p/\xQ P T ps L/\F):=⟨h,h',r⟩
theorem sy{l vs:List PVal}(h:l=vs)(r:PS sc F):PS (.y vs::sc) (l=vs/\F):=⟨h,r⟩
theorem UL{o:Option (List PVal)}{vs:List PVal}(h:o=some vs)(r:PS sc F):PS (.y vs::sc) (o=some vs/\F):=⟨h,r⟩
theorem sz{o:Option PVal}{l:List PVal}(h:o=some (.agg l))(r:PS sc F):PS (.z l::sc) (o=some (.agg l)/\F):=⟨h,r⟩
theorem CO(an:List Nat)(r:PS sc F):PS (.dr an::sc) F:=r
theorem jC(n:Nat)(r:PS sc F):PS (.pa n::sc) F:=r
theorem cm{P:Program}{GE:List (Nat×List PVal)}{m:Nat}{c:Code}{e:Exit}{s0 s1:ax}(h:aL P GE m c (EX e s1) s0)(r:PS sc F):PS (.pc s0 e s1::sc) ((s0.tmps=s0.tmps/\s0.boxes=s0.boxes/\true=true)/\aL P GE m c (EX e s1) s0/\F):=⟨fr s0,h,r⟩
theorem ZD(i:It)(r:PS sc F):PS (i::sc) F:=r
theorem si(i:It)(h:X)(r:PS sc F):PS (i::sc) (X/\F):=⟨h,r⟩
theorem sf(h:X)(r:PS sc F):PS sc (X/\F):=⟨h,r⟩
theorem qaK{o:Option (List aA)}{B:aA}(h:o=some [B])(r:PS sc F):PS (.w 0 B::sc) (o=some [B]/\F):=⟨h,r⟩
theorem ZE{o:Option (List (PVal×PVal))}{m:List (PVal×PVal)}(h:o=some m)(r:PS sc F):PS (.w 0 (.map m)::sc) (o=some m/\F):=⟨h,r⟩
theorem qaJ(i:Nat)(e:TypeId){n k:Nat}{cs fs:List PVal}(h:X/\Y/\(n=k/\cs=fs))(r:PS sc F):PS (.ar i e n cs::sc) (X/\Y/\(n=k/\cs=fs)/\F):=⟨h.1,h.2.1,h.2.2,r⟩
theorem YT(i:Nat)(es:List (List PVal))(lv rk:List Nat)(h:X)(h':Y){Z:Prop}(h'':Z)(r:PS sc F):PS (.fz i es lv rk::sc) (X/\Y/\Z/\F):=⟨h,h',h'',r⟩
end
section
variable{P:Program}{GE:List (Nat×List PVal)}{A:List Nat}{m:Nat}
theorem dS(hf:P.follows .mixedOrders=true){c:Code}{e0:Exit}{st0 st:ax}{sc:List It}{F:Prop}(h:PS sc F)(he:F=wO P GE A m c sc st (FN e0 st0)):aL P GE m c (EX e0 st0) st:=piece hf sc (Eq.mp he h)
theorem Xz(hf:P.follows .mixedOrders=true){σ X:Type}{S:σ->ax}{ex:X->Exit}{so:X->ax}{c:Code}{s:σ}{st:ax}{sc:List It}{F:Prop}(h:PS sc F)(he:F=wO P GE A m c sc st (FN .normal (S s))):aL P GE m c (LQ S ex so (.inl s)) st:=lO hf sc (Eq.mp he h)
theorem XC(hf:P.follows .mixedOrders=true){σ X:Type}{S:σ->ax}{ex:X->Exit}{so:X->ax}{c:Code}{x:X}{st:ax}{sc:List It}{F:Prop}(hn:ex x≠.normal)(h:PS sc F)(he:F=wO P GE A m c sc st (FN (ex x) (so x))):aL P GE m c (LQ S ex so (.inr x)) st:=YN hf sc hn (Eq.mp he h)
theorem C.evp(hf:P.follows .mixedOrders=true){f:FuncId}{fn:Func}{c:Code}{args:List PVal}{r:PVal}{ro:List (Nat×TypeId)}
  (hcall:∀vs w,(callFunc f vs).run P w=.ok (.enter f vs) w) (hfn:P.funcs[f]? =some fn) (hb:fn.body=some c) (hcl:kI 0 args) {sc:List It} {F:Prop} (h:PS sc F)
  (he:F=wO P GE A 0 c sc ⟨args++List.replicate (fn.ntmps - args.length) .undef,[],[]⟩ (FR P fn.results.toList r ro)):CC P GE f args r ro:=C.ev hf hcall hfn hb hcl sc (Eq.mp he h)
theorem C.evGp(hf:P.follows .mixedOrders=true){f:FuncId}{fn:Func}{c:Code}{args:List PVal}{oa:List ((Nat×Nat)×TypeId)}{H:List aA}{r:PVal}{ro:List (Nat×TypeId)}{H':List aA}
  (hm:decide (m % 1000=H.length)&&decide (m≠0)&&decide (H'.length=H.length)=true) (hcall:∀vs w,(callFunc f vs).run P w=.ok (.enter f vs) w) (hfn:P.funcs[f]? =some fn) (hb:fn.body=some c) {sc:List It} {F:Prop} (h:PS sc F)
  (he:F=wO P GE A m c sc ⟨args++List.replicate (fn.ntmps - args.length) .undef,H,oa⟩ (WJ P fn.results.toList r ro H')):C P GE f args oa H r ro H':=C.evG hf hm hcall hfn hb sc (Eq.mp he h)
end
section
variable{P:Program}{GE:List (Nat×List PVal)}{A:List Nat}{m:Nat}
theorem cc(hf:P.follows .mixedOrders=true){σ X:Type}{S:σ->ax}{ex:X->Exit}{so:X->ax}{c:Code}{s:σ}{st:ax}{sc:List It}{F:Prop}(h:PS sc F)(he:F=wO P GE A m c sc st (WI m .normal (S s))):aL P GE m c (LQ S ex so (.inl s)) st:=XA hf sc (Eq.mp he h)
theorem mC(hf:P.follows .mixedOrders=true){σ X:Type}{S:σ->ax}{ex:X->Exit}{so:X->ax}{c:Code}{x:X}{st:ax}{sc:List It}{F:Prop}(hn:ex x≠.normal)(h:PS sc F)(he:F=wO P GE A m c sc st (WI m (ex x) (so x))):aL P GE m c (LQ S ex so (.inr x)) st:=XD hf sc hn (Eq.mp he h)
end
def tm(n:Nat):Nat->List (Nat×PVal)->List PVal
 |k,[]=>List.replicate (n - k) .undef
 |k,x::l=>List.replicate (x.1 - k) .undef++x.2::tm n (x.1+1) l
abbrev aP(n:Nat)(l:List (Nat×PVal))(H:List aA)(o:List ((Nat×Nat)×TypeId)):ax:=⟨tm n 0 l,H,o⟩
def VP(n:Nat):List (Nat×PVal)->Prop
 |[]=>True
 |x::l=>x.2.cl n/\VP n l
theorem MS{n:Nat}{l:List PVal}(h:kI n l):∀k,kI n (List.replicate k .undef++l)
 |0=>h
 |k+1=>by rw[List.replicate_succ,vbk];exact⟨trivial,MS h k⟩
theorem cb{n N:Nat}:∀{l:List (Nat×PVal)} {k:Nat},VP n l->kI n (tm N k l)
 |[],k,_=>by unfold tm;have:=MS (n:=n) (l:=[]) trivial (N - k);rwa[vbs]at this
 |x::l,k,h=>by unfold tm;exact MS (l:=x.2::tm N (x.1+1) l) (by simp only[kI];exact⟨h.1,cb h.2⟩) _
def bits:Nat->Nat->List Bool->List Bool
 |0,_,l=>l
 |k+1,n,l=>if n<=1 then l else bits k (n / 2) ((n % 2==1)::l)
def cA(c:Code)(n:Nat):Code:=dc c (bits 100 n [])
section
variable{X Y:Type}
def ku(F:(X->Option Y)->X->Option Y)(x:X):Option Y:=VW F Ul x
theorem VN:18446744073709551616<Ul:=by unfold Ul;omega
theorem cn{F:(X->Option Y)->X->Option Y}{M:X->Y->Prop}(hF:∀rec:X->Option Y,(∀x r,rec x=some r->M x r)->∀x r,F rec x=some r->M x r){x:X}{r:Y}(h:ku F x=some r):M x r:=by
 have key:∀n x r,VW F n x=some r->M x r:=by
  intro n
  induction n with
  |zero=>intro x r h;cases h
  |succ n ih=>intro x r h;exact hF _ ih x r h
 exact key _ x r h
theorem jr{F:(X->Option Y)->X->Option Y}(μ:X->Nat)(Q:X->Prop)(s:X->Y)(h:∀(R:X->Option Y) x,Q x->(∀y,μ y<μ x->Q y->R y=some (s y))->F R x=some (s x))(x:X)(hx:Q x)(hm:μ x<Ul):ku F x=some (s x):=by
 have key:∀n x,μ x<n->Q x->VW F n x=some (s x):=by
  intro n
  induction n with
  |zero=>intro x hx;omega
  |succ n ih=>intro x hx hq;exact h _ x hq fun y hy hqy=>ih y (by omega) hqy
 exact key _ x hm hx
end
def U5{α:Type}(n:Nat)(l:List α)(i:Int):Option α:=if 0<=i/\i.toNat<n then l[i.toNat]? else none
def Xq{α:Type}(n:Nat)(l:List α):Option (List α):=if n=l.length then some l else none
theorem Uu{α:Type}{n:Nat}{l:List α}{i:Int}{x:α}(h:U5 n l i=some x):dt l i=some x:=by
 unfold U5 at h
 split at h
 ·rename_i hh;unfold dt;rw[vai hh.1];exact h
 ·cases h
theorem I1{α:Type}{n:Nat}{l r:List α}(h:Xq n l=some r):n=l.length/\r=l:=by
 unfold Xq at h
 split at h
 ·cases h;exact⟨by assumption,rfl⟩
 ·cases h
section
variable{P:Program}{GE:List (Nat×List PVal)}{T e:TypeId}{α:Type}{c:α->List PVal}
theorem AV.iaN(s:AV P T e c)(b:Nat){n:Nat}{l:List α}{i:Int}{k:IntKind}{x:α}(h:U5 n l i=some x):j6 P T (.bsl b 0 n) (.int k i)=some (.bptr b (FA P e i)):=by
 unfold U5 at h
 split at h
 ·rename_i hh
  unfold j6
  rw[s.hu]
  simp only
  rw[vai ⟨hh.1,by omega,s.hi⟩]
 ·cases h
theorem AV.ldN(s:AV P T e c){n:Nat}{l:List α}{i:Int}{x:α}{p:PVal}(hl:∀r,cp P e (c x++r)=some p)(h:U5 n l i=some x):cp P e ((wP c l).drop (FA P e i))=some p:=s.ldR hl (Uu h)
theorem AV.fz1(s:AV P T e c){m b:Nat}(hb:decide (m % 1000<=b)=true)(l:List α):(m % 1000<=b)/\∃sz,0<sz/\∀x∈l.map c,x.length=sz:=⟨vbq hb,_,s.hp,fun x hx=>(s.mapOk l x hx).1⟩
theorem AV.fz2(s:AV P T e c)(b:Nat)(l:List α):Hd b (l.map c):=xN b _ (MR fun p hp=>by obtain⟨x,_,rfl⟩:=vas.1 hp;exact s.cl x)
theorem qap(c:α->List PVal){n:Nat}{l r:List α}(h:Xq n l=some r):wP c l=(r.map c).flatten:=by rw[(I1 h).2];rfl
theorem qaq(c:α->List PVal){n:Nat}{l r:List α}(h:Xq n l=some r):n=(r.map c).length:=by rw[(I1 h).2,vbz];exact(I1 h).1
theorem Zt{m b:Nat}(hb:decide (m % 1000<=b)=true)(l:List PVal)(hl:decide (l.length≠0)=true):(m % 1000<=b)/\∃sz,0<sz/\∀x∈[l],x.length=sz:=⟨vbq hb,l.length,by have:=vbq hl;omega,fun x hx=>by rw[va9.1 hx]⟩
theorem Zu(b:Nat){l:List PVal}(h:kI 0 l):Hd b [l]:=xN b _ ⟨h,trivial⟩
theorem Zv{l r:List PVal}(h:r=l):l=[r].flatten:=by rw[h];simp
theorem Si(b:Nat){p:PVal}(h:p.cl 0):p.no b:=Ox b p h
end
theorem XY{α:Type}{c:α->List PVal}(n:Nat)(h:∀x,kI 0 (c x)):∀(l:List α),kI n (wP c l)
 |[]=>trivial
 |x::l=>by
  have e:wP c (x::l)=c x++wP c l:=by simp[wP]
  rw[e]
  exact Cf.2 ⟨hU (h x),XY n h l⟩
theorem eF(e:Exit)(s:ax):PS [] (e=e/\s.tmps=s.tmps/\s.boxes=s.boxes/\true=true):=⟨rfl,fr s⟩
theorem lG(m:Nat)(e:Exit)(s:ax)(h4:decide (m % 1000<=s.boxes.length)=true)(h5:kI s.boxes.length s.tmps)(h6:MQ s.boxes.length s.boxes):PS [] (e=e/\s.tmps=s.tmps/\s.boxes=s.boxes/\true=true/\decide (m % 1000<=s.boxes.length)=true/\kI s.boxes.length s.tmps/\MQ s.boxes.length s.boxes):=⟨rfl,qao m s h4 h5 h6⟩
open Go Go.Proofs.Tryz
set_option linter.unusedVariables false
set_option maxRecDepth 100000
noncomputable abbrev Pg:=Tryz.prog
theorem mixed:Pg.follows .mixedOrders=true:=by kernel_rfl
inductive aa where
 |mk (Op:Int) (Name:ag) (N:Int) (Kids:(List aa))
def aa.Op:aa->Int
 |⟨x,_,_,_⟩=>x
def aa.Name:aa->ag
 |⟨_,x,_,_⟩=>x
def aa.N:aa->Int
 |⟨_,_,x,_⟩=>x
def aa.Kids:aa->(List aa)
 |⟨_,_,_,x⟩=>x
mutual
def ac:aa->List PVal
 |⟨x0,x1,x2,x3⟩=>[.int .i64 x0,.str x1,.int .i64 x2,.slice (ul x3)]
def ul:List aa->List (List PVal)
 |[]=>[]
 |x::r=>ac x::ul r
end
theorem Jd:∀(l:List aa),ul l=l.map ac
 |[]=>by simp[ul]
 |x::r=>by simp[ul,Jd r]
mutual
theorem ah:∀(x:aa),kI 0 (ac x)
 |⟨x0,x1,x2,x3⟩=>by rw[ac];exact(aI trivial (aI trivial (aI trivial (aI (Lu x3) trivial))))
theorem Lu:∀(l:List aa),yO 0 (ul l)
 |[]=>by simp[ul,yO]
 |x::r=>by rw[ul];exact⟨ah x,Lu r⟩
end
theorem aR:∀(x:aa),ac x=[.int .i64 x.Op,.str x.Name,.int .i64 x.N,sl ac x.Kids]
 |⟨x0,x1,x2,x3⟩=>by
  simp only[ac,Jd]
  rfl
abbrev cj(x:aa):PVal:=.agg (ac x)
theorem ET(x:aa):(ac x).length=4:=by rw[aR];rfl
theorem bh(x:aa):ct (.agg (ac x))=some (ac x):=rfl
theorem bz(x:aa):ct (cj x)=some (ac x):=rfl
theorem bp(x:aa):ct (.agg (ac x))=some [.int .i64 x.Op,.str x.Name,.int .i64 x.N,sl ac x.Kids]:=by rw[aR];rfl
theorem RF(x:aa):∀q∈ac x,q.one=true:=by
 intro q hq
 rw[aR]at hq
 simp only[vaE,vbB,or_false]at hq
 rcases hq with rfl|rfl|rfl|rfl<;>rfl
theorem Un:Pg.cellsOf 28=4:=by kernel_rfl
theorem az(x:aa):cp Pg 28 (ac x)=some (.agg (ac x)):=by
 have:=Fm (P:=Pg) (t:=28) (l:=ac x) (r:=[]) (by kernel_rfl) (Un.trans (ET x).symm)
 rwa[vbs]at this
theorem aU(x:aa)(r:List PVal):cp Pg 28 ([.int .i64 x.Op,.str x.Name,.int .i64 x.N,sl ac x.Kids]++r)=some (.agg (ac x)):=by
 rw[<-aR];exact Fm (by kernel_rfl) (Un.trans (ET x).symm)
theorem dG(x:aa):PVal.agg [.int .i64 x.Op,.str x.Name,.int .i64 x.N,sl ac x.Kids]=.agg (ac x):=by rw[aR]
theorem sM:dA Pg 28 []=some (.agg (ac (⟨0,([]:ag),0,([]:List aa)⟩:aa))):=by
 simp only[aR]
 kernel_rfl
theorem sK:xQ Pg 28 [] [(3,28)]:=by
 exact⟨[.int .i64 0,.str ([]:ag),.int .i64 0,.val qf],by kernel_rfl,(aI rfl trivial)⟩
theorem rj(x0:Int)(x1:ag):dA Pg 28 [(0,.int .i64 x0),(1,.str x1)]=some (.agg (ac (⟨x0,x1,0,([]:List aa)⟩:aa))):=by
 simp only[aR]
 kernel_rfl
theorem rf(x0:Int)(x1:ag):xQ Pg 28 [(0,.int .i64 x0),(1,.str x1)] [(3,28)]:=by
 exact⟨[.int .i64 x0,.str x1,.int .i64 0,.val qf],by kernel_rfl,(aI rfl trivial)⟩
theorem sL(x0:Int)(x1:ag)(x2:Int):dA Pg 28 [(0,.int .i64 x0),(1,.str x1),(2,.int .i64 x2)]=some (.agg (ac (⟨x0,x1,x2,([]:List aa)⟩:aa))):=by
 simp only[aR]
 kernel_rfl
theorem sJ(x0:Int)(x1:ag)(x2:Int):xQ Pg 28 [(0,.int .i64 x0),(1,.str x1),(2,.int .i64 x2)] [(3,28)]:=by
 exact⟨[.int .i64 x0,.str x1,.int .i64 x2,.val qf],by kernel_rfl,(aI rfl trivial)⟩
theorem nx(x0:Int)(x2:Int):dA Pg 28 [(0,.int .i64 x0),(2,.int .i64 x2)]=some (.agg (ac (⟨x0,([]:ag),x2,([]:List aa)⟩:aa))):=by
 simp only[aR]
 kernel_rfl
theorem nw(x0:Int)(x2:Int):xQ Pg 28 [(0,.int .i64 x0),(2,.int .i64 x2)] [(3,28)]:=by
 exact⟨[.int .i64 x0,.str ([]:ag),.int .i64 x2,.val qf],by kernel_rfl,(aI rfl trivial)⟩
theorem rl(x0:Int)(x3:(List aa)):dA Pg 28 [(0,.int .i64 x0),(3,sl ac x3)]=some (.agg (ac (⟨x0,([]:ag),0,x3⟩:aa))):=by
 simp only[aR]
 kernel_rfl
theorem Pt(x0:Int):dA Pg 28 [(0,.int .i64 x0)]=some (.agg (ac (⟨x0,([]:ag),0,([]:List aa)⟩:aa))):=by
 simp only[aR]
 kernel_rfl
theorem Pr(x0:Int):xQ Pg 28 [(0,.int .i64 x0)] [(3,28)]:=by
 exact⟨[.int .i64 x0,.str ([]:ag),.int .i64 0,.val qf],by kernel_rfl,(aI rfl trivial)⟩
theorem aB(x:aa):cM Pg 28 (.eptr (ac x)) 0=some (.eptr ((ac x).drop 0)):=by rw[aR];kernel_rfl
theorem bF(x:aa):cM Pg 28 (.eptr (ac x)) 1=some (.eptr ((ac x).drop 1)):=by rw[aR];kernel_rfl
theorem bG(x:aa):cM Pg 28 (.eptr (ac x)) 2=some (.eptr ((ac x).drop 2)):=by rw[aR];kernel_rfl
theorem aH(x:aa):cM Pg 28 (.eptr (ac x)) 3=some (.eptr ((ac x).drop 3)):=by rw[aR];kernel_rfl
theorem aC(x:aa):cp Pg 25 ((ac x).drop 0)=some (.int .i64 x.Op):=by rw[aR];kernel_rfl
theorem bN(x:aa):cp Pg 9 ((ac x).drop 1)=some (.str x.Name):=by rw[aR];kernel_rfl
theorem bO(x:aa):cp Pg 3 ((ac x).drop 2)=some (.int .i64 x.N):=by rw[aR];kernel_rfl
theorem aJ(x:aa):cp Pg 26 ((ac x).drop 3)=some (sl ac x.Kids):=by rw[aR];kernel_rfl
inductive ae where
 |mk (Op:Int) (Name:ag) (Args:(List ae)) (Names:(List ag)) (Pred:aa) (Preds:(List aa))
def ae.Op:ae->Int
 |⟨x,_,_,_,_,_⟩=>x
def ae.Name:ae->ag
 |⟨_,x,_,_,_,_⟩=>x
def ae.Args:ae->(List ae)
 |⟨_,_,x,_,_,_⟩=>x
def ae.Names:ae->(List ag)
 |⟨_,_,_,x,_,_⟩=>x
def ae.Pred:ae->aa
 |⟨_,_,_,_,x,_⟩=>x
def ae.Preds:ae->(List aa)
 |⟨_,_,_,_,_,x⟩=>x
mutual
def af:ae->List PVal
 |⟨x0,x1,x2,x3,x4,x5⟩=>[.int .i64 x0,.str x1,.slice (um x2),sl cS x3]++(ac x4++([sl ac x5]))
def um:List ae->List (List PVal)
 |[]=>[]
 |x::r=>af x::um r
end
theorem Je:∀(l:List ae),um l=l.map af
 |[]=>by simp[um]
 |x::r=>by simp[um,Je r]
mutual
theorem aj:∀(x:ae),kI 0 (af x)
 |⟨x0,x1,x2,x3,x4,x5⟩=>by rw[af];exact Cf.2 (aI ((aI trivial (aI trivial (aI (Lv x2) (aI (am d8 x3) trivial))))) (Cf.2 (aI (ah x4) ((aI (am ah x5) trivial)))))
theorem Lv:∀(l:List ae),yO 0 (um l)
 |[]=>by simp[um,yO]
 |x::r=>by rw[um];exact⟨aj x,Lv r⟩
end
theorem ba:∀(x:ae),af x=[.int .i64 x.Op,.str x.Name,sl af x.Args,sl cS x.Names,.int .i64 x.Pred.Op,.str x.Pred.Name,.int .i64 x.Pred.N,sl ac x.Pred.Kids,sl ac x.Preds]
 |⟨x0,x1,x2,x3,x4,x5⟩=>by
  simp only[af,Je,aR,vbk,va4]
  rfl
abbrev AR(x:ae):PVal:=.agg (af x)
theorem EU(x:ae):(af x).length=9:=by rw[ba];rfl
theorem bH(x:ae):ct (.agg (af x))=some (af x):=rfl
theorem wq(x:ae):ct (AR x)=some (af x):=rfl
theorem cu(x:ae):ct (.agg (af x))=some [.int .i64 x.Op,.str x.Name,sl af x.Args,sl cS x.Names,.int .i64 x.Pred.Op,.str x.Pred.Name,.int .i64 x.Pred.N,sl ac x.Pred.Kids,sl ac x.Preds]:=by rw[ba];rfl
theorem RG(x:ae):∀q∈af x,q.one=true:=by
 intro q hq
 rw[ba]at hq
 simp only[vaE,vbB,or_false]at hq
 rcases hq with rfl|rfl|rfl|rfl|rfl|rfl|rfl|rfl|rfl<;>rfl
theorem Uo:Pg.cellsOf 30=9:=by kernel_rfl
theorem aQ(x:ae):cp Pg 30 (af x)=some (.agg (af x)):=by
 have:=Fm (P:=Pg) (t:=30) (l:=af x) (r:=[]) (by kernel_rfl) (Uo.trans (EU x).symm)
 rwa[vbs]at this
theorem bu(x:ae)(r:List PVal):cp Pg 30 ([.int .i64 x.Op,.str x.Name,sl af x.Args,sl cS x.Names,.int .i64 x.Pred.Op,.str x.Pred.Name,.int .i64 x.Pred.N,sl ac x.Pred.Kids,sl ac x.Preds]++r)=some (.agg (af x)):=by
 rw[<-ba];exact Fm (by kernel_rfl) (Uo.trans (EU x).symm)
theorem dH(x:ae):PVal.agg [.int .i64 x.Op,.str x.Name,sl af x.Args,sl cS x.Names,.int .i64 x.Pred.Op,.str x.Pred.Name,.int .i64 x.Pred.N,sl ac x.Pred.Kids,sl ac x.Preds]=.agg (af x):=by rw[ba]
theorem Pu:dA Pg 30 []=some (.agg (af (⟨0,([]:ag),([]:List ae),([]:List ag),(⟨0,([]:ag),0,([]:List aa)⟩:aa),([]:List aa)⟩:ae))):=by
 simp only[ba]
 kernel_rfl
theorem Ps:xQ Pg 30 [] [(2,30),(3,9),(7,28),(8,28)]:=by
 exact⟨[.int .i64 0,.str ([]:ag),.val qf,.val qf,.int .i64 0,.str ([]:ag),.int .i64 0,.val qf,.val qf],by kernel_rfl,(aI rfl (aI rfl (aI rfl (aI rfl trivial))))⟩
theorem EL(x0:Int)(x1:ag)(x3:(List ag))(x4:aa):dA Pg 30 [(0,.int .i64 x0),(1,.str x1),(3,sl cS x3),(4,.agg (ac x4))]=some (.agg (af (⟨x0,x1,([]:List ae),x3,x4,([]:List aa)⟩:ae))):=by
 simp only[ba,aR]
 kernel_rfl
theorem EK(x0:Int)(x1:ag)(x3:(List ag))(x4:aa):xQ Pg 30 [(0,.int .i64 x0),(1,.str x1),(3,sl cS x3),(4,.agg (ac x4))] [(2,30),(8,28)]:=by
 simp only[aR]
 exact⟨[.int .i64 x0,.str x1,.val qf,sl cS x3,.int .i64 x4.Op,.str x4.Name,.int .i64 x4.N,sl ac x4.Kids,.val qf],by kernel_rfl,(aI rfl (aI rfl trivial))⟩
theorem Ce(x0:Int)(x1:ag)(x3:(List ag))(x4:aa)(x5:(List aa)):dA Pg 30 [(0,.int .i64 x0),(1,.str x1),(3,sl cS x3),(4,.agg (ac x4)),(5,sl ac x5)]=some (.agg (af (⟨x0,x1,([]:List ae),x3,x4,x5⟩:ae))):=by
 simp only[ba,aR]
 kernel_rfl
theorem Cd(x0:Int)(x1:ag)(x3:(List ag))(x4:aa)(x5:(List aa)):xQ Pg 30 [(0,.int .i64 x0),(1,.str x1),(3,sl cS x3),(4,.agg (ac x4)),(5,sl ac x5)] [(2,30)]:=by
 simp only[aR]
 exact⟨[.int .i64 x0,.str x1,.val qf,sl cS x3,.int .i64 x4.Op,.str x4.Name,.int .i64 x4.N,sl ac x4.Kids,sl ac x5],by kernel_rfl,(aI rfl trivial)⟩
theorem IP(x0:Int)(x3:(List ag))(x2:(List ae)):dA Pg 30 [(0,.int .i64 x0),(3,sl cS x3),(2,sl af x2)]=some (.agg (af (⟨x0,([]:ag),x2,x3,(⟨0,([]:ag),0,([]:List aa)⟩:aa),([]:List aa)⟩:ae))):=by
 simp only[ba]
 kernel_rfl
theorem IN(x0:Int)(x3:(List ag))(x2:(List ae)):xQ Pg 30 [(0,.int .i64 x0),(3,sl cS x3),(2,sl af x2)] [(7,28),(8,28)]:=by
 exact⟨[.int .i64 x0,.str ([]:ag),sl af x2,sl cS x3,.int .i64 0,.str ([]:ag),.int .i64 0,.val qf,.val qf],by kernel_rfl,(aI rfl (aI rfl trivial))⟩
theorem MP(x0:Int)(x4:aa):dA Pg 30 [(0,.int .i64 x0),(4,.agg (ac x4))]=some (.agg (af (⟨x0,([]:ag),([]:List ae),([]:List ag),x4,([]:List aa)⟩:ae))):=by
 simp only[ba,aR]
 kernel_rfl
theorem MO(x0:Int)(x4:aa):xQ Pg 30 [(0,.int .i64 x0),(4,.agg (ac x4))] [(2,30),(3,9),(8,28)]:=by
 simp only[aR]
 exact⟨[.int .i64 x0,.str ([]:ag),.val qf,.val qf,.int .i64 x4.Op,.str x4.Name,.int .i64 x4.N,sl ac x4.Kids,.val qf],by kernel_rfl,(aI rfl (aI rfl (aI rfl trivial)))⟩
theorem yN(x0:Int)(x1:ag)(b3 n3:Nat)(x4:aa)(x5:(List aa)):dA Pg 30 [(0,.int .i64 x0),(1,.str x1),(3,.bsl b3 0 n3),(4,.agg (ac x4)),(5,sl ac x5)]=some (.agg [.int .i64 x0,.str x1,sl af ([]:List ae),.bsl b3 0 n3,.int .i64 x4.Op,.str x4.Name,.int .i64 x4.N,sl ac x4.Kids,sl ac x5]):=by
 simp only[aR]
 kernel_rfl
theorem yM(x0:Int)(x1:ag)(b3 n3:Nat)(x4:aa)(x5:(List aa)):xQ Pg 30 [(0,.int .i64 x0),(1,.str x1),(3,.bsl b3 0 n3),(4,.agg (ac x4)),(5,sl ac x5)] [(2,30)]:=by
 simp only[aR]
 exact⟨[.int .i64 x0,.str x1,.val qf,.bsl b3 0 n3,.int .i64 x4.Op,.str x4.Name,.int .i64 x4.N,sl ac x4.Kids,sl ac x5],by kernel_rfl,(aI rfl trivial)⟩
theorem au(x:ae):cM Pg 30 (.eptr (af x)) 0=some (.eptr ((af x).drop 0)):=by rw[ba];kernel_rfl
theorem ck(x:ae):cM Pg 30 (.eptr (af x)) 1=some (.eptr ((af x).drop 1)):=by rw[ba];kernel_rfl
theorem aF(x:ae):cM Pg 30 (.eptr (af x)) 2=some (.eptr ((af x).drop 2)):=by rw[ba];kernel_rfl
theorem aM(x:ae):cM Pg 30 (.eptr (af x)) 3=some (.eptr ((af x).drop 3)):=by rw[ba];kernel_rfl
theorem bv(x:ae):cM Pg 30 (.eptr (af x)) 4=some (.eptr ((af x).drop 4)):=by rw[ba];kernel_rfl
theorem bk(x:ae):cM Pg 30 (.eptr (af x)) 5=some (.eptr ((af x).drop 8)):=by rw[ba];kernel_rfl
theorem av(x:ae):cp Pg 22 ((af x).drop 0)=some (.int .i64 x.Op):=by rw[ba];kernel_rfl
theorem cq(x:ae):cp Pg 9 ((af x).drop 1)=some (.str x.Name):=by rw[ba];kernel_rfl
theorem aG(x:ae):cp Pg 23 ((af x).drop 2)=some (sl af x.Args):=by rw[ba];kernel_rfl
theorem aN(x:ae):cp Pg 24 ((af x).drop 3)=some (sl cS x.Names):=by rw[ba];kernel_rfl
theorem bw(x:ae):cp Pg 28 ((af x).drop 4)=some (.agg (ac x.Pred)):=by
 rw[ba,aR];kernel_rfl
theorem bm(x:ae):cp Pg 26 ((af x).drop 8)=some (sl ac x.Preds):=by rw[ba];kernel_rfl
structure ai where
 names:(List ag)
 by_:(List aa)
def aq(x:ai):List PVal:=[sl cS x.names,sl ac x.by_]
theorem bZ(x:ai):aq x=[sl cS x.names,sl ac x.by_]:=rfl
theorem aY(x:ai):kI 0 (aq x):=(aI (am d8 x.names) (aI (am ah x.by_) trivial))
theorem lK(x:ai):(aq x).length=2:=by rw[bZ];rfl
theorem cG(x:ai):ct (.agg (aq x))=some (aq x):=rfl
theorem cX(x:ai):ct (.agg (aq x))=some [sl cS x.names,sl ac x.by_]:=by rw[bZ];rfl
theorem Xo:Pg.cellsOf 71=2:=by kernel_rfl
theorem b6(x:ai):cp Pg 71 (aq x)=some (.agg (aq x)):=by
 have:=Fm (P:=Pg) (t:=71) (l:=aq x) (r:=[]) (by kernel_rfl) (Xo.trans (lK x).symm)
 rwa[vbs]at this
theorem bQ(x:ai)(r:List PVal):cp Pg 71 ([sl cS x.names,sl ac x.by_]++r)=some (.agg (aq x)):=by
 rw[<-bZ];exact Fm (by kernel_rfl) (Xo.trans (lK x).symm)
theorem lY(x:ai):PVal.agg [sl cS x.names,sl ac x.by_]=.agg (aq x):=by rw[bZ]
theorem tF:dA Pg 71 []=some (.agg (aq (⟨([]:List ag),([]:List aa)⟩:ai))):=by
 kernel_rfl
theorem tE:xQ Pg 71 [] [(0,9),(1,28)]:=by
 exact⟨[.val qf,.val qf],by kernel_rfl,(aI rfl (aI rfl trivial))⟩
theorem ri(x0:(List ag))(x1:(List aa)):dA Pg 71 [(0,sl cS x0),(1,sl ac x1)]=some (.agg (aq (⟨x0,x1⟩:ai))):=by
 kernel_rfl
theorem io(x:ai):cM Pg 71 (.eptr (aq x)) 0=some (.eptr ((aq x).drop 0)):=by kernel_rfl
theorem ey(x:ai):cM Pg 71 (.eptr (aq x)) 1=some (.eptr ((aq x).drop 1)):=by kernel_rfl
theorem iq(x:ai):cp Pg 24 ((aq x).drop 0)=some (sl cS x.names):=by kernel_rfl
theorem ez(x:ai):cp Pg 26 ((aq x).drop 1)=some (sl ac x.by_):=by kernel_rfl
theorem cJ:AV Pg 23 30 af:=⟨underlying23,fun x=>(EU x).trans Uo.symm,by kernel_rfl,by rw[Uo];decide,by kernel_rfl,vbq (by kernel_rfl),RG,aj⟩
theorem XZ:Pg.cellsOf 9=1:=by kernel_rfl
theorem aZ:AV Pg 24 9 cS:=⟨underlying24,fun _=>XZ.symm,by kernel_rfl,by rw[XZ];decide,by kernel_rfl,vbq (by kernel_rfl),YM,d8⟩
theorem aS:AV Pg 26 28 ac:=⟨underlying26,fun x=>(ET x).trans Un.symm,by kernel_rfl,by rw[Un];decide,by kernel_rfl,vbq (by kernel_rfl),RF,ah⟩
theorem Zr:Pg.cellsOf 5=1:=by kernel_rfl
theorem Es:(Pg.underlying 9).any TE=true:=by kernel_rfl
theorem Y4:Fs Pg 4=some (PVal.bool false):=by kernel_rfl
theorem YP:jv Pg 24=some [sl cS ([]:List ag)]:=by kernel_rfl
theorem d9:jv Pg 28=some [.int .i64 0,.str ([]:ag),.int .i64 0,sl ac ([]:List aa)]:=by kernel_rfl
theorem jl:jv Pg 30=some [.int .i64 0,.str ([]:ag),sl af ([]:List ae),sl cS ([]:List ag),.int .i64 0,.str ([]:ag),.int .i64 0,sl ac ([]:List aa),sl ac ([]:List aa)]:=by kernel_rfl
theorem Qa:jv Pg 71=some [sl cS ([]:List ag),sl ac ([]:List aa)]:=by kernel_rfl
theorem YQ:jv Pg 90=some [.val .nilFunc]:=by kernel_rfl
def cr:List ag:=[([97,110,100]:ag),([97,115,115,117,109,101]:ag),([98,111,111,108]:ag),([98,111,117,110,100]:ag),([99,97,115,101]:ag),([99,101,108,108]:ag),([99,108,97,115,115]:ag),([100,97,116,97]:ag),([100,101,102]:ag),([100,105,118]:ag),([101,108,115,101]:ag),([101,110,100]:ag),([102,97,108,115,101]:ag),([102,111,114,97,108,108]:ag),([102,117,110]:ag),([103,101,116]:ag),([105,102]:ag),([105,110]:ag),([105,110,115,116]:ag),([105,110,116]:ag),([105,110,118,97,114,105,97,110,116]:ag),([108,101,116]:ag),([109,97,116,99,104]:ag),([109,101,97,115,117,114,101]:ag),([109,101,116,114,105,99]:ag),([109,111,100]:ag),([109,117]:ag),([110,101,119]:ag),([110,111,116]:ag),([111,102]:ag),([111,114]:ag),([113,117,97,108]:ag),([114,101,102,108,101,99,116]:ag),([115,101,116]:ag),([116,104,101,110]:ag),([116,114,117,101]:ag),([117,115,101]:ag),([118]:ag),([118,97,108]:ag),([116,97,103]:ag),([119,104,101,114,101]:ag),([119,105,116,104]:ag)]
theorem Xk:Pg.cellsOf 158=42:=by kernel_rfl
theorem ut:cp Pg 158 (cr.map PVal.str)=some (.agg (cr.map PVal.str)):=by kernel_rfl
theorem DD{k:IntKind}{i:Int}{x:ag}(h:dt cr i=some x):xP Pg 158 (.agg (cr.map PVal.str)) (.int k i)=some (PVal.str x):=WS underlying158 XZ (by kernel_rfl) (by kernel_rfl) (by kernel_rfl) h
def ip:List Int:=[1,10,100,1000,10000,100000,1000000,10000000,100000000,1000000000,10000000000,100000000000,1000000000000,10000000000000,100000000000000,1000000000000000,10000000000000000,100000000000000000,1000000000000000000,10000000000000000000]
theorem Xl:Pg.cellsOf 165=20:=by kernel_rfl
theorem Xj:Pg.cellsOf 138=1:=by kernel_rfl
def wa:List Int:=[0,1,28,2,29,14,24,3,30,22,20,15,25,17,4,8,31,27,13,23,21,19,16,7,26,12,18,6,11,5,10,9]
theorem Xm:Pg.cellsOf 167=32:=by kernel_rfl
def wb:List Int:=[0,1,56,2,57,49,28,3,61,58,42,50,38,29,17,4,62,47,59,36,45,43,51,22,53,39,33,30,24,18,12,5,63,55,48,27,60,41,37,16,46,35,44,21,52,32,23,11,54,26,40,15,34,20,31,10,25,14,19,9,13,8,7,6]
theorem Xn:Pg.cellsOf 168=64:=by kernel_rfl
def GE:List (Nat×List PVal):=[(0,cr.map PVal.str),(1,ip.map (PVal.int .u64)),(2,wa.map (PVal.int .u8)),(3,wb.map (PVal.int .u8))]
theorem bE(A:List Nat){m:Nat}{c:Code}{sc:List It}{F:Prop}{e0:Exit}{st0 st:ax}(h:PS sc F)(he:F=wO Pg GE A m c sc st (FN e0 st0)):aL Pg GE m c (EX e0 st0) st:=dS mixed h he
theorem vJ(A:List Nat){m:Nat}{c:Code}{sc:List It}{F:Prop}{σ X:Type}{S:σ->ax}{ex:X->Exit}{so:X->ax}{s:σ}{st:ax}(h:PS sc F)(he:F=wO Pg GE A m c sc st (FN .normal (S s))):aL Pg GE m c (LQ S ex so (.inl s)) st:=Xz mixed h he
theorem eS(A:List Nat){m:Nat}{c:Code}{sc:List It}{F:Prop}{σ X:Type}{S:σ->ax}{ex:X->Exit}{so:X->ax}{x:X}{st:ax}(hn:ex x≠.normal)(h:PS sc F)(he:F=wO Pg GE A m c sc st (FN (ex x) (so x))):aL Pg GE m c (LQ S ex so (.inr x)) st:=XC mixed hn h he
theorem bo(A:List Nat){f:FuncId}{fn:Func}{c:Code}{args:List PVal}{r:PVal}{ro:List (Nat×TypeId)}(hcall:∀vs w,(callFunc f vs).run Pg w=.ok (.enter f vs) w)(hfn:Pg.funcs[f]? =some fn)(hb:fn.body=some c)(hcl:kI 0 args){sc:List It}{F:Prop}(h:PS sc F)(he:F=wO Pg GE A 0 c sc ⟨args++List.replicate (fn.ntmps - args.length) .undef,[],[]⟩ (FR Pg fn.results.toList r ro)):CC Pg GE f args r ro:=C.evp mixed hcall hfn hb hcl h he
abbrev waA:=List ag
abbrev waB:=List aa
abbrev waC:=List ae
theorem Ok:∀n,(∀l,Sh Pg n 28 l->∃x,l=ac x):=by
 intro n
 induction n using Nat.strongRecOn with
 | ind n ih =>
  cases n with
  |zero=>exact fun l h=>h.elim
  | succ n =>
   exact fun l h=>by
    unfold Sh at h
    rw[underlying28]at h
    obtain⟨a0,b0,rfl,_,h0,a1,b1,rfl,_,h1,a2,b2,rfl,_,h2,a3,b3,rfl,_,h3,rfl⟩:=h
    obtain⟨x0,rfl⟩:=(VU underlying25) n _ h0
    obtain⟨x1,rfl⟩:=(VV underlying9) n _ h1
    obtain⟨x2,rfl⟩:=(VU underlying3) n _ h2
    obtain⟨x3,rfl⟩:=S0 underlying26 (c:=ac) (fun m hm=>(ih m (by omega))) _ h3
    exact⟨(⟨x0,x1,x2,x3⟩:aa),by rw[aR];rfl⟩
theorem Ol:∀n,(∀l,Sh Pg n 30 l->∃x,l=af x):=by
 intro n
 induction n using Nat.strongRecOn with
 | ind n ih =>
  cases n with
  |zero=>exact fun l h=>h.elim
  | succ n =>
   exact fun l h=>by
    unfold Sh at h
    rw[underlying30]at h
    obtain⟨a0,b0,rfl,_,h0,a1,b1,rfl,_,h1,a2,b2,rfl,_,h2,a3,b3,rfl,_,h3,a4,b4,rfl,_,h4,a5,b5,rfl,_,h5,rfl⟩:=h
    obtain⟨x0,rfl⟩:=(VU underlying22) n _ h0
    obtain⟨x1,rfl⟩:=(VV underlying9) n _ h1
    obtain⟨x2,rfl⟩:=S0 underlying23 (c:=af) (fun m hm=>(ih m (by omega))) _ h2
    obtain⟨x3,rfl⟩:=(Xt underlying24 (VV underlying9)) n _ h3
    obtain⟨x4,rfl⟩:=Ok n _ h4
    obtain⟨x5,rfl⟩:=(Xt underlying26 Ok) n _ h5
    exact⟨(⟨x0,x1,x2,x3,x4,x5⟩:ae),by rw[ba];(try simp only[aR]);rfl⟩
abbrev HK(GE:List (Nat×List PVal))(Γ:aV)(w:World):qj:=⟨GE,Γ,w,fun _=>False⟩
structure Km(GE:List (Nat×List PVal))(Γ:aV)(w:World):Prop where
 wi:∀b n,Γ b=some n->∃c t fr,w.heap[b]? =some (.cells c t fr)/\n<=c.size
 gl:∀g cs,(g,cs)∈GE->VR Γ [] w (.eptr cs) (.pointer (some ⟨g,0,none⟩))
 gc:∀g cs,(g,cs)∈GE->kI 0 cs
 gx:∀g cs,(g,cs)∈GE->g<w.heap.size/\∃c t fr,w.heap[g]? =some (.cells c t fr)/\c.size=cs.length
theorem VR.clo{Γ:aV}{bs bs':bD}{w:World}{p:PVal}{v:Value}(h:VR Γ bs w p v)(hc:p.cl 0):VR Γ bs' w p v:=h.restrict (n:=0) hc fun i b hi _=>absurd hi (vaM _)
section
variable{P:Program}{E:qj}{Γ:aV}{bs:bD}{ow:Nat->Option kH}{w:World}{a:Array Value}{st:ax}
theorem SR.base(h:SR P E Γ bs ow w a st):Km E.GE Γ w where
 wi:=h.wi
 gl:=fun g cs hg=>(h.gl g cs hg).clo (by simp only[PVal.cl];exact h.gc g cs hg)
 gc:=h.gc
 gx:=fun g cs hg=>⟨(h.gnow hg).1,(h.gnow hg).2.2.2⟩
theorem Km.good{GE:List (Nat×List PVal)}(hB:Km GE Γ w):Be GE 0 (HK GE Γ w) where
 ge:=rfl
 low:=fun b n h=>by obtain⟨c,t,fr,h1,_⟩:=hB.wi b n h;exact(vap.1 h1).1
 nt:=fun _ _ hb=>hb
 gl:=hB.gl
theorem Km.fresh{GE:List (Nat×List PVal)}(hB:Km GE Γ w)(k:Nat){tmps:List PVal}(hs:a.size=tmps.length)(hv:∀(t:Nat) p v,tmps[t]? =some p->a[t]? =some v->VR Γ [] w p v):SR P (HK GE Γ w) Γ (List.replicate k none) (fun _=>none) w a ⟨tmps,List.replicate k .dead,[]⟩:=by
 have hno:∀(i b:Nat),(List.replicate k (none:Option Nat))[i]? =some (some b)->False:=fun i b h=>by
  rw[vaN]at h
  split at h<;>simp at h
 exact{
  wi:=hB.wi
  sz:=hs
  tm:=fun t p v hp hv'=>(hv t p v hp hv').mono (.refl _ _) (fun i b h=>by simp at h)
  bl:=by simp
  bx:=fun i b B hb=>(hno i b hb).elim
  inj:=fun i j b hb=>(hno i b hb).elim
  bn:=fun i b hb=>(hno i b hb).elim
  on:=fun b L hL=>by cases hL
  ot:=fun t k e he=>by simp at he
  ob:=fun i j e cs own b _ _ hb=>(hno i b hb).elim
  gl:=fun g cs hg=>(hB.gl g cs hg).mono (.refl _ _) (fun i b h=>by simp at h)
  gc:=hB.gc
  gx:=fun g cs hg=>⟨(hB.gx g cs hg).1,fun h=>h,(hB.gx g cs hg).2⟩
  step:=.refl _ _ _ _}
theorem SR.again(h:SR P E Γ bs ow w a st)(hc:kI 0 st.tmps){GE:List (Nat×List PVal)}{Γ':aV}{w':World}(hB:Km GE Γ' w')(hle:Γ.Le w Γ' w')(k:Nat):SR P (HK GE Γ' w') Γ' (List.replicate k none) (fun _=>none) w' a ⟨st.tmps,List.replicate k .dead,[]⟩:=
 hB.fresh k h.sz fun t p v hp hv=>((h.tm t p v hp hv).clo (ny hc hp)).mono hle (.refl _)
theorem SR.aside(h:SR P E Γ bs ow w a st){GE:List (Nat×List PVal)}{Γ':aV}{bs':bD}{ow':Nat->Option kH}{w':World}{a':Array Value}{st':ax}(h':SR P (HK GE Γ w) Γ' bs' ow' w' a' st'):SR P E Γ' bs ow w' a st:=
 h.world (fun _=>False) h'.step.le h'.wi h'.step.os h'.step.tape h'.step.output h'.step.size (fun b hb _=>h'.step.keep b hb id) (fun _ hx=>hx.elim) (fun _ _ _ hx=>hx) (fun _ _ _ hx=>hx)
theorem SR.putOther(h:SR P E Γ bs ow w a st){l:Nat}{o:Obj}(hT:¬bL bs ow l)(hE:E.T l\/E.w.heap.size<=l)(ho:∀c t fr,w.heap[l]? ≠some (.cells c t fr)):SR P E Γ bs ow (w.putObj l o) a st/\Γ.Le w Γ (w.putObj l o):=by
 have hg:∀b n,Γ b=some n->b≠l:=fun b n hb e=>by
  obtain⟨c,t,fr,h1,_⟩:=h.wi b n hb
  exact ho c t fr (e▸h1)
 have hle:Γ.Le w Γ (w.putObj l o):=fun b n hb _=>⟨n,hb,vam _,fun k _=>bT (World.putObj_heap_other (hg b n hb)) k⟩
 refine⟨h.world (fun b=>b=l) hle (fun b n hb=>?_) rfl rfl rfl (by simp) (fun b _ hb=>⟨World.putObj_heap_other hb,rfl⟩) (fun b hb=>hb▸hE) (fun i b hb e=>hT (.inl ⟨i,e▸hb⟩)) (fun b L hL e=>hT (.inr (by rw[<-e,hL];simp))),hle⟩
 obtain⟨c,t,fr,h1,h2⟩:=h.wi b n hb
 exact⟨c,t,fr,(World.putObj_heap_other (hg b n hb)).trans h1,h2⟩
theorem SR.rebase(h:SR P E Γ bs ow w a st):SR P ⟨E.GE,Γ,w,bL bs ow⟩ Γ bs ow w a st:=
 { h with
  bn:=fun i b hb=>.inl (.inl ⟨i,hb⟩)
  on:=fun b L hL=>⟨(h.on b L hL).1,.inl (.inr (by rw[hL];simp))⟩
  gx:=fun g cs hg=>by
   obtain⟨k1,k2,k3,k4⟩:=h.gnow hg
   refine⟨k1,fun hT=>?_,k4⟩
   rcases hT with⟨i,hi⟩|hT
   ·exact k2 i g hi rfl
   ·exact hT k3
  step:=.refl _ _ _ _}
theorem SR.touchE(h:SR P E Γ bs ow w a st){b:Nat}(hb:bL bs ow b):E.T b\/E.w.heap.size<=b:=by
 rcases hb with⟨i,hi⟩|hb
 ·exact h.bn i b hi
 ·cases hL:ow b with
  |none=>exact absurd hL hb
  |some L=>exact(h.on b L hL).2
theorem SR.unbase(h:SR P E Γ bs ow w a st){Γ':aV}{bs':bD}{ow':Nat->Option kH}{w':World}{a':Array Value}{st':ax}(h':SR P ⟨E.GE,Γ,w,bL bs ow⟩ Γ' bs' ow' w' a' st'):SR P E Γ' bs' ow' w' a' st':=by
 have hT:∀b,bL bs ow b\/w.heap.size<=b->E.T b\/E.w.heap.size<=b:=fun b hb=>hb.elim h.touchE fun hb=>.inr (va1 h.step.size hb)
 exact{h' with
  bn:=fun i b hb=>hT b (h'.bn i b hb)
  on:=fun b L hL=>⟨(h'.on b L hL).1,hT b (h'.on b L hL).2⟩
  gx:=h.gx
  step:={
   os:=h'.step.os.trans h.step.os
   tape:=h'.step.tape.trans h.step.tape
   output:=h'.step.output.trans h.step.output
   size:=va1 h.step.size h'.step.size
   keep:=fun b hb hTb=>by
    have hlt:b<w.heap.size:=vaD hb h.step.size
    have hn:¬bL bs ow b:=fun hx=>(h.touchE hx).elim hTb fun hx=>absurd hx (vce.2 hb)
    obtain⟨k1,k2⟩:=h'.step.keep b hlt hn
    obtain⟨q1,q2⟩:=h.step.keep b hb hTb
    exact⟨k1.trans q1,k2.trans q2⟩
   le:=h.step.le.trans h'.step.le}}
theorem aL.on{m:Nat}{c:Code}{Q:Exit->ax->Prop}(hS:aL P E.GE m c Q st)(hm:m≠0)(h:SR P E Γ bs ow w a st)(hl:m % 1000<=bs.length)(ro:Option Nat)(ds:List Deferred):Lx ro P c (fun e a' w'=>a'.defers=ds/\∃Γ' bs' ow' st',SR P E Γ' bs' ow' w' a'.tmps st'/\Q e st'/\(∀i:Nat,i<m % 1000->bs'[i]? =bs[i]?)/\Γ.Le w Γ' w'/\w.heap.size<=w'.heap.size/\
   ∀b,b<w.heap.size->¬bL bs ow b->w'.heap[b]? =w.heap[b]?/\¬bL bs' ow' b) ⟨a,ds⟩ w:=by
 have hE:Be E.GE m ⟨E.GE,Γ,w,bL bs ow⟩:={
  ge:=rfl
  low:=fun b n hb=>h.lt_of_ghost hb
  nt:=fun h0=>absurd h0 hm
  gl:=h.base.gl}
 have hlen:(bs.take (m % 1000)).length=m % 1000:=by simp;omega
 refine qb (hS ro ⟨E.GE,Γ,w,bL bs ow⟩ (bs.take (m % 1000)) ⟨a,ds⟩ w hE hlen ⟨Γ,bs,ow,h.rebase,fun i hi=>?_⟩) fun e a' w' hq=>?_
 ·rw[van (by omega)]
 obtain⟨hd,st',⟨Γ',bs',ow',h',hk⟩,hQ⟩:=hq
 refine⟨hd,Γ',bs',ow',st',h.unbase h',hQ,fun i hi=>?_,h'.step.le,h'.step.size,fun b hb hT=>⟨(h'.step.keep b hb hT).1,fun hx=>?_⟩⟩
 ·rw[hk i (by omega),van hi]
 ·exact(h'.touchE hx).elim hT fun hx=>absurd hx (vce.2 hb)
theorem aL.wide{GE:List (Nat×List PVal)}{c:Code}{Q:Exit->ax->Prop}{st0:ax}(hS:aL P GE 0 c Q st0)(hB:Km GE Γ w){ow:Nat->Option kH}{bs:bD}(h:SR P (HK GE Γ w) Γ bs ow w a st0)(n:Nat)(ds:List Deferred):c.wpIn Fence.wide n P (fun e a' w'=>a'.defers=ds/\∃Γ' bs' ow' st',SR P (HK GE Γ w) Γ' bs' ow' w' a'.tmps st'/\Q e st') ⟨a,ds⟩ w:=
 wpIn_wide.2 (wp_mono (hS none (HK GE Γ w) [] ⟨a,ds⟩ w hB.good rfl ⟨Γ,bs,ow,h,fun i hi=>absurd hi (vaM _)⟩) fun e a' w' hq=>by
  obtain⟨hd,st',⟨Γ',bs',ow',h',_⟩,hQ⟩:=hq
  exact⟨hd,Γ',bs',ow',st',h',hQ⟩)
theorem aL.wideE{GE:List (Nat×List PVal)}{c:Code}{Q:Exit->ax->Prop}(hS:aL P GE 0 c Q st)(hE:Be GE 0 E)(h:SR P E Γ bs ow w a st)(n:Nat)(ds:List Deferred):c.wpIn Fence.wide n P (fun e a' w'=>a'.defers=ds/\∃Γ' bs' ow' st',SR P E Γ' bs' ow' w' a'.tmps st'/\Q e st') ⟨a,ds⟩ w:=
 wpIn_wide.2 (wp_mono (hS none E [] ⟨a,ds⟩ w hE rfl ⟨Γ,bs,ow,h,fun i hi=>absurd hi (vaM _)⟩) fun e a' w' hq=>by
  obtain⟨hd,st',⟨Γ',bs',ow',h',_⟩,hQ⟩:=hq
  exact⟨hd,Γ',bs',ow',st',h',hQ⟩)
theorem SR.allocO(h:SR P E Γ bs ow w a st)(o:Obj):SR P E Γ bs ow (w.alloc o) a st/\Γ.Le w Γ (w.alloc o):=by
 have hlt:∀b n,Γ b=some n->b<w.heap.size:=fun b n hb=>h.lt_of_ghost hb
 have hle:Γ.Le w Γ (w.alloc o):=fun b n hb _=>⟨n,hb,vam _,fun k _=>bT (cU w o (hlt b n hb)) k⟩
 refine⟨h.world (fun _=>False) hle (fun b n hb=>?_) rfl rfl rfl (by simp[World.size_alloc]) (fun b hb _=>⟨cU w o hb,rfl⟩) (fun _ hx=>hx.elim) (fun _ _ _ hx=>hx) (fun _ _ _ hx=>hx),hle⟩
 obtain⟨c,t,fr,h1,h2⟩:=h.wi b n hb
 exact⟨c,t,fr,(cU w o (hlt b n hb)).trans h1,h2⟩
theorem SR.forgetT(h:SR P E Γ bs ow w a st){tm:List PVal}(hf:G6 st.tmps tm=tm):SR P E Γ bs ow w a {st with tmps:=tm}:=
 { h with
  sz:=by rw[h.sz,<-M0 (l:=st.tmps) (bs:=tm),hf]
  tm:=fun t p v hp hv=>by
   rw[<-hf]at hp
   rcases MZ hp with rfl|hp'
   ·exact .undef v
   ·exact h.tm t p v hp' hv}
theorem SR.back(h:SR P E Γ bs ow w a st)(ho:st.own=[]){Γ':aV}{bs':bD}{ow':Nat->Option kH}{w':World}{a':Array Value}{st':ax}{H':List aA}(h':SR P E Γ' bs' ow' w' a' st')(hle:Γ.Le w Γ' w')
  (hbs:∀i:Nat,i<bs.length->bs'[i]? =bs[i]?) (hH:cC H'.length st'.boxes H') (hl:H'.length=bs.length):
  ∃ow'',SR P E Γ' bs ow'' w' a {st with boxes:=H'}/\∀b,bL bs ow'' b->bL bs' ow' b:=by
 have hf:=h'.finish (H':=H') (v:=undef) (r:=.undef) (src:=fun k=>(0,k)) (ro:=[]) (.undef _) trivial hH (fun x hx=>by simp at hx) (fun x hx=>by simp at hx)
 have hb:bs'.take H'.length=bs:=by
  obtain⟨h1,_⟩:=lF hH
  have h2:H'.length<=bs'.length:=by rw[h'.bl];exact h1
  refine vbf fun i=>?_
  by_cases hi:i<H'.length
  ·rw[van hi];exact hbs i (by omega)
  ·rw[vb8 (by omega),vaC (by omega)]
 rw[hb]at hf
 refine⟨_,{hf with
  sz:=h.sz
  tm:=fun t p v hp hv=>(h.tm t p v hp hv).mono hle (.refl _)
  ot:=fun t k e he=>by simp only[ho]at he;simp at he},fun b hb=>?_⟩
 rcases hb with⟨i,hi⟩|hb
 ·exact .inl ⟨i,(hbs i (ak hi)).trans hi⟩
 ·refine .inr fun e=>hb ?_
  simp[zI,e]
end
section
variable{P:Program}{n:Nat}{a:Act}{w:World}{lO:Act->World->Prop}{Q:Exit->Act->World->Prop}
theorem RH{o:Oper}(hd:ee o=true)(h:o.wp P a w lO Q):o.wpIn Fence.wide n P a w lO Q:=by
 refine⟨fun _ _=>trivial,?_⟩
 have hs:o.semAt (Fence.wide).round a.eval=execOp a.eval o:=Oper.semAt_eq _ _ _ fun c hc=>by unfold ee at hd;rw[hc]at hd;cases hd
 rw[hs]
 unfold Oper.wp at h
 generalize (execOp a.eval o).run P w=r at *
 have hdep:(Fence.wide).depth.isSome=true->1<=n:=fun h=>by simp[Fence.wide]at h
 cases r with
 | ok x w' =>
  cases x<;>simp only[Oper.upon]at h<;>simp only[Oper.uponIn]<;>first
   |exact h.elim
   |exact h
   |exact⟨hdep,callsIn_wide.2 h⟩
   | exact ⟨hdep,fun c cs _ => by
     obtain⟨v,w',r,s⟩:=h c cs
     exact⟨v,w',r,stepsIn_wide.2 s⟩⟩
 |halt x w'=>cases x<;>simp only[Oper.upon]at h<;>simp only[Oper.uponIn]<;>exact h
theorem Rf{o:Oper}{f:Operand}{args:Array Operand}{tys:Array TypeId}(ho:o.op=.call {callee:=.value f,args:=args,argTypes:=tys}){g:FuncId}{fs cs:Array Value}(hf:a.eval f=.func (.func g) fs cs)
  (hc:∀vs w,(callFunc g vs).run P w=.ok (.enter g vs) w) {R:Ending->World->Prop} (h:CallsIn Fence.wide (n - 1) P g (fs++args.map a.eval++cs) w R) (hR:∀e w',R e w'->∃v,e=.returned v/\lO (a.put o.dst v) w'):o.wpIn Fence.wide n P a w lO Q:=by
 refine⟨fun _ _=>trivial,?_⟩
 have hs:o.semAt (Fence.wide).round a.eval=execOp a.eval o:=Oper.semAt_eq _ _ _ fun c hc=>by rw[ho]at hc;cases hc
 have hrun:(execOp a.eval o).run P w=.ok (.enter g (fs++args.map a.eval++cs)) w:=by
  simp[execOp,ho,resolve,hf,Deferred.ofValue,invoke,hc]
 rw[hs,hrun,Oper.uponIn_enter]
 refine⟨fun h=>by simp[Fence.wide]at h,h.mono fun e w' hr=>?_⟩
 obtain⟨v,rfl,hx⟩:=hR e w' hr
 exact hx
theorem Qk{o:Oper}{f:Operand}{args:Array Operand}{tys:Array TypeId}(ho:o.op=.call {callee:=.value f,args:=args,argTypes:=tys}){l:Nat}(hf:a.eval f=.func (.yield l) #[] #[])
  {R:Ending->World->Prop} (h:YieldAt Fence.wide (n - 1) P l (args.map a.eval) w R) (hR:∀e w',R e w'->∃v,e=.returned v/\lO (a.put o.dst v) w'):o.wpIn Fence.wide n P a w lO Q:=by
 refine⟨fun _ _=>trivial,?_⟩
 have hs:o.semAt (Fence.wide).round a.eval=execOp a.eval o:=Oper.semAt_eq _ _ _ fun c hc=>by rw[ho]at hc;cases hc
 obtain⟨fn,tmps,assign,body,hy,hr⟩:=h
 have hrun:(execOp a.eval o).run P w=.ok (.round l fn tmps assign body) w:=by
  simp[execOp,ho,resolve,hf,Deferred.ofValue,invoke,hy]
 rw[hs,hrun,Oper.uponIn_round]
 refine⟨fun h=>by simp[Fence.wide]at h,hr.mono fun e w' hr=>?_⟩
 obtain⟨v,rfl,hx⟩:=hR e w' hr
 exact hx
theorem Cs{ops:Array Oper}{i:Nat}{rest:List Nat}{o:Oper}(ho:ops[i]? =some o)(hg:o.guard=none)(h:o.wpIn Fence.wide n P a w (wpOpsIn Fence.wide n P ops Q rest) Q):wpOpsIn Fence.wide n P ops Q (i::rest) a w:=by
 unfold wpOpsIn
 simp only[ho,Region.wanted,hg,if_true]
 exact h
theorem AG{E:qj}{A:List Nat}{ops:Array Oper}{K:ax->Prop}{rest:List Nat}{ds:List Deferred}
  (hK:∀Γ bs ow a w st,SR P E Γ bs ow w a st->K st->wpOpsIn Fence.wide n P ops Q rest ⟨a,ds⟩ w):
  ∀(L:List Oper) (is:List Nat) (Γ:aV) (bs:bD) (ow:Nat->Option kH) (a:Array Value) (w:World) (st:ax),is.map (fun i=>ops[i]?)=L.map some->
   (∀o∈L,o.guard=none/\ee o=true/\aD o.op=false)->SR P E Γ bs ow w a st->cB P E.GE A ops K L 0 st->wpOpsIn Fence.wide n P ops Q (is++rest) ⟨a,ds⟩ w
 |[],[],Γ,bs,ow,a,w,st,_,_,h,hp=>hK Γ bs ow a w st h hp
 |o::L,i::is,Γ,bs,ow,a,w,st,hi,hg,h,hp=>by
  obtain⟨g1,g2,g3⟩:=hg o (by simp)
  unfold cB at hp
  simp only[g1]at hp
  simp only[vaW,vby]at hi
  refine Cs hi.1 g1 (RH g2 (Oper.wp_mono (fun a' w' hA=>?_) (D0 (a:=⟨a,ds⟩) h (fun hm=>by rw[g3]at hm;cases hm) hp Q)))
  obtain⟨hd,Γ',bs',ow',st',h1,h2,_⟩:=hA
  obtain⟨a1,ds1⟩:=a'
  simp only at hd h1
  subst hd
  refine AG (A:=A) hK L is Γ' bs' ow' a1 w' st' hi.2 (fun o ho=>hg o (vaS _ ho)) h1 ?_
  rw[g3]at h2
  exact h2
end
def lP:Code->Array Oper
 |.region _ ops _=>ops
 |_=>#[]
def X0:Code->Nat
 |.region id _ _=>id
 |_=>0
def QK(c:Code)(i:Nat):Oper:=(lP c)[i]?.getD default
def V9(o:Oper):Array TypeId:=match o.op with
 |.call c=>c.argTypes
 |_=>#[]
def Jz(o:Oper):Bool:=o.guard.isNone&&ee o&&!aD o.op
theorem Fk{L:List Oper}(h:L.all Jz=true):∀o∈L,o.guard=none/\ee o=true/\aD o.op=false:=fun o ho=>by
 have:=vat.1 h o ho
 simpa[Jz,and_assoc]using this
theorem px{P:Program}{GE:List (Nat×List PVal)}{A:List Nat}{ops:Array Oper}{K K':ax->Prop}(hK:∀st,K st->K' st):∀(L:List Oper) (id:Nat) (st:ax),cB P GE A ops K L id st->cB P GE A ops K' L id st
 |[],_,st,h=>hK st h
 | o :: L,id,st,h => by
  unfold cB at h ⊢
  split at h
  ·exact z6 (fun st hx=>px hK L _ st hx) h
  ·split at h
   ·exact⟨fun hx=>z6 (fun st hx=>px hK L _ st hx) (h.1 hx),fun hx=>px hK L _ _ (h.2 hx)⟩
   ·exact h
theorem Zw{P:Program}{m:Nat}{sc:List It}{F:Prop}{st st0:ax}(h:PS sc F)(he:F=Sg m sc st (fun _ st'=>FG st' st0)):re P m st st0:=by
 obtain⟨_,st',hw,hf⟩:=M1 (P:=P) (Eq.mp he h)
 exact hw.trans hf.weak
theorem aL.thenW{P:Program}{GE:List (Nat×List PVal)}{m:Nat}{c:Code}{e:Exit}{st0 st1 st2:ax}(h:aL P GE m c (EX e st1) st0)(hw:re P m st1 st2):aL P GE m c (EX e st2) st0:=
 h.mono fun e' st' hx=>⟨st2,hx.2▸hw,hx.1,rfl⟩
theorem DO{P:Program}{GE:List (Nat×List PVal)}{A:List Nat}{ops:Array Oper}{L:List Oper}{st st0:ax}{sc:List It}{F:Prop}(h:PS sc F)(he:F=IW P GE A ops (fun _ st=>FG st st0) L 0 0 sc st):cB P GE A ops (fun st=>FG st st0) L 0 st:=
 px (fun st ⟨_,hx⟩=>hx) L 0 st (xC L 0 0 sc st (Eq.mp he h))
theorem FG.sr{P:Program}{E:qj}{Γ:aV}{bs:bD}{ow:Nat->Option kH}{w:World}{a:Array Value}{st st0:ax}(h:SR P E Γ bs ow w a st)(hf:FG st st0):∃Γ' bs' ow',SR P E Γ' bs' ow' w a st0:=by
 obtain⟨Γ',bs',ow',h',_⟩:=(hf.weak (P:=P) (m:=0)) E [] ⟨a,[]⟩ w rfl ⟨Γ,bs,ow,h,fun i hi=>absurd hi (vaM _)⟩
 exact⟨Γ',bs',ow',h'⟩
structure Yd(P:Program)(GE:List (Nat×List PVal))(l:Nat){S α:Type}(c:α->List PVal)(step:S->α->Option (Bool×S))(J:Bool->S->aV->World->Prop):Prop where
 base:∀b s Γ w,J b s Γ w->Km GE Γ w
 side:∀b s Γ w,J b s Γ w->∀Γ' bs' ow' w' a' st',SR P (HK GE Γ w) Γ' bs' ow' w' a' st'->J b s Γ' w'
 yield:∀s Γ w x v n r,J true s Γ w->VR Γ [] w (.agg (c x)) v->step s x=some r->YieldAt Fence.wide n P l #[v] w fun e w'=>∃Γ',e=.returned (.bool r.1)/\Γ.Le w Γ' w'/\J r.1 r.2 Γ' w'
section
variable{S:Type}(step:S->aa->Option (Bool×S))
mutual
def Eo:aa->S->Option (Bool×S)
 |⟨o,n,k,ks⟩,s=>(step s ⟨o,n,k,ks⟩).bind fun r=>match r.1 with
  |false=>some (false,r.2)
  |true=>if ks.length<4611686018427387904 then tD ks r.2 else none
def tD:List aa->S->Option (Bool×S)
 |[],s=>some (true,s)
 |p::ps,s=>(Eo p s).bind fun r=>match r.1 with
  |false=>some (false,r.2)
  |true=>tD ps r.2
end
theorem Nv(p:aa)(s:S):Eo step p s=(step s p).bind fun r=>match r.1 with
  |false=>some (false,r.2)
  |true=>if p.Kids.length<4611686018427387904 then tD step p.Kids r.2 else none:=by
 obtain⟨o,n,k,ks⟩:=p
 rw[Eo];rfl
end
abbrev fV:Nat:=130
noncomputable def bV:Code:=f130.body.getD .skip
abbrev YY:Code:=dc bV [false]
abbrev UR:Code:=dc bV [true,false,false]
abbrev ZF:Code:=dc bV [true,false,true,false,false]
abbrev ZG:Code:=dc bV [true,true,false,false]
abbrev vL:Code:=dc bV [true,true,false,true,false,false]
abbrev ZH:Code:=dc bV [true,true,false,true,false,false,false]
abbrev YZ:Code:=dc bV [true,true,false,true,false,false,true,true,false,false,false]
abbrev US:Code:=dc bV [true,true,false,true,false,false,true,true,false,false,true,false]
abbrev ZI:Code:=dc bV [true,true,false,true,false,false,true,true,false,false,true,true,false,false]
abbrev ZJ:Code:=dc bV [true,true,false,true,false,false,true,true,true]
abbrev ZK:Code:=dc bV [true,true,true,false]
theorem Xc:bV=.seq YY (.seq (.seq UR (.cond (.tmp 10) (.seq ZF .ret) .skip)) (.seq (.seq ZG (.block 0 (.loop vL))) (.seq ZK .ret))):=by kernel_rfl
theorem XL:vL=.seq ZH (.seq (.cond (.tmp 15) .skip (.exit 0)) (.seq (.block 1 (.seq YZ (.seq US (.cond (.tmp 21) (.seq ZI .ret) .skip)))) ZJ)):=by kernel_rfl
abbrev yv(l:Nat):PVal:=.val (.func (.yield l) #[] #[])
abbrev Ny(p:aa):List PVal:=[.int .i64 p.Op,.str p.Name,.int .i64 p.N,sl ac p.Kids]
theorem Zq(p:aa):kI 0 (Ny p):=by have:=ah p;rwa[aR]at this
abbrev Y0(p:aa)(l:Nat):ax:=aP 23 [(1,yv l),(2,.eptr (ac p))] [.dead] []
abbrev Vb(l:Nat)(ks:List aa)(i:Int):ax:=aP 23 [(1,yv l),(12,sl ac ks),(13,.int .i64 (ks.length:Int)),(14,.int .i64 i)] [.dead] []
abbrev Y1(l:Nat)(ks:List aa)(i:Int)(x:aa):ax:=aP 23 [(1,yv l),(6,.eptr (ac x)),(12,sl ac ks),(13,.int .i64 (ks.length:Int)),(14,.int .i64 i)] [.dead,.dead] []
theorem qaL(p:aa)(l:Nat):aL Pg GE 0 YY (EX .normal (Y0 p l)) (aP 23 [(0,.agg (ac p)),(1,yv l)] [] []):=by
 have z:=sx (bp p)<|eF .normal (aP 23 [(1,yv l),(2,.bptr 0 0)] [.cells (Ny p) []] [])
 have h1:aL Pg GE 0 YY (EX .normal (aP 23 [(1,yv l),(2,.bptr 0 0)] [.cells (Ny p) []] [])) (aP 23 [(0,.agg (ac p)),(1,yv l)] [] []):=dS (A:=[]) mixed z (by kernel_rfl)
 have z2:=YT 0 [Ny p] [1,2] [] (Zt (m:=0) (b:=0) rfl (Ny p) rfl) (Zu 0 (Zq p)) (Zv (l:=Ny p) (r:=Ny p) rfl)<|en (fr (aP 23 [(1,yv l),(2,.eptr (Ny p))] [.dead] []))
 have h2:=h1.thenW (st2:=aP 23 [(1,yv l),(2,.eptr (Ny p))] [.dead] []) (Zw z2 (by kernel_rfl))
 unfold Y0
 rw[aR]
 rw[aR]at h2
 exact h2
theorem qaM(p:aa)(l:Nat):cB Pg GE [] (lP UR) (fun st=>FG st (aP 23 [(1,yv l),(2,.eptr (ac p)),(7,yv l),(8,.agg (ac p))] [.dead] [])) ((lP UR).toList.take 2) 0 (Y0 p l):=by
 have z:=sv (az p)<|en (fr (aP 23 [(1,yv l),(2,.eptr (ac p)),(7,yv l),(8,.agg (ac p))] [.dead] []))
 exact DO z (by kernel_rfl)
theorem Y2(p:aa)(l:Nat)(b:Bool):cB Pg GE [] (lP UR) (fun st=>FG st (aP 23 [(1,yv l),(2,.eptr (ac p)),(10,.bool (!b))] [.dead] [])) ((lP UR).toList.drop 3) 0 (aP 23 [(1,yv l),(2,.eptr (ac p)),(7,yv l),(8,.agg (ac p)),(9,.bool b)] [.dead] []):=by
 have z:=en (fr (aP 23 [(1,yv l),(2,.eptr (ac p)),(10,.bool (!b))] [.dead] []))
 exact DO z (by kernel_rfl)
abbrev vE(H:List aA)(b:Bool):ax:=aP 23 [(4,.bool b)] H []
theorem qaN(p:aa)(l:Nat):aL Pg GE 0 (.seq ZF .ret) (EX .ret (vE [.dead] false)) (aP 23 [(1,yv l),(2,.eptr (ac p)),(10,.bool true)] [.dead] []):=by
 have z:=eF .ret (vE [.dead] false)
 exact dS (A:=[]) mixed z (by kernel_rfl)
theorem qaO(p:aa)(l:Nat):aL Pg GE 0 ZG (EX .normal (Vb l p.Kids 0)) (aP 23 [(1,yv l),(2,.eptr (ac p)),(10,.bool false)] [.dead] []):=by
 have z:=sv (aH p)<|sv (aJ p)<|b9 (aS.ln p.Kids)<|eF .normal (Vb l p.Kids 0)
 exact dS (A:=[]) mixed z (by kernel_rfl)
abbrev Wr(l:Nat)(ks:List aa)(i:Int):ax:=aP 23 [(1,yv l),(12,sl ac ks),(13,.int .i64 (ks.length:Int)),(14,.int .i64 i),(15,.bool (decide (i<(ks.length:Int))))] [.dead] []
theorem qaP(l:Nat)(ks:List aa)(i:Int):aL Pg GE 0 ZH (EX .normal (Wr l ks i)) (Vb l ks i):=by
 have z:=eF .normal (Wr l ks i)
 exact dS (A:=[]) mixed z (by kernel_rfl)
theorem qaQ(l:Nat)(ks:List aa)(i:Int)(x:aa)(hx:dt ks i=some x):aL Pg GE 0 YZ (EX .normal (Y1 l ks i x)) (Wr l ks i):=by
 have z:=sv (aS.ia (k:=.i64) hx)<|sv (az x)<|sx d9<|sx (bp x)<|eF .normal (aP 23 [(1,yv l),(6,.bptr 1 0),(12,sl ac ks),(13,.int .i64 (ks.length:Int)),(14,.int .i64 i)] [.dead,.cells (Ny x) []] [])
 have h1:aL Pg GE 0 YZ (EX .normal (aP 23 [(1,yv l),(6,.bptr 1 0),(12,sl ac ks),(13,.int .i64 (ks.length:Int)),(14,.int .i64 i)] [.dead,.cells (Ny x) []] [])) (Wr l ks i):=dS (A:=[]) mixed z (by kernel_rfl)
 have z2:=YT 1 [Ny x] [1,6,12,13,14] [] (Zt (m:=0) (b:=1) rfl (Ny x) rfl) (Zu 1 (Zq x)) (Zv (l:=Ny x) (r:=Ny x) rfl)<|sf (Si 1 (p:=sl ac ks) (am ah ks))<|en (fr (aP 23 [(1,yv l),(6,.eptr (Ny x)),(12,sl ac ks),(13,.int .i64 (ks.length:Int)),(14,.int .i64 i)] [.dead,.dead] []))
 have h2:=h1.thenW (st2:=aP 23 [(1,yv l),(6,.eptr (Ny x)),(12,sl ac ks),(13,.int .i64 (ks.length:Int)),(14,.int .i64 i)] [.dead,.dead] []) (Zw z2 (by kernel_rfl))
 unfold Y1
 rw[aR]
 exact h2
theorem qaR(l:Nat)(ks:List aa)(i:Int)(x:aa):cB Pg GE [] (lP US) (fun st=>FG st (aP 23 [(1,yv l),(12,sl ac ks),(13,.int .i64 (ks.length:Int)),(14,.int .i64 i),(18,.agg (ac x)),(19,yv l)] [.dead,.dead] [])) ((lP US).toList.take 2) 0 (Y1 l ks i x):=by
 have z:=sv (az x)<|en (fr (aP 23 [(1,yv l),(12,sl ac ks),(13,.int .i64 (ks.length:Int)),(14,.int .i64 i),(18,.agg (ac x)),(19,yv l)] [.dead,.dead] []))
 exact DO z (by kernel_rfl)
abbrev ZL(l:Nat)(ks:List aa)(i:Int)(x:aa)(b:Bool):ax:=aP 23 [(1,yv l),(12,sl ac ks),(13,.int .i64 (ks.length:Int)),(14,.int .i64 i),(18,.agg (ac x)),(19,yv l),(20,.bool b)] [.dead,.dead] []
abbrev XO(l:Nat)(ks:List aa)(i:Int)(b:Bool):ax:=aP 23 [(1,yv l),(12,sl ac ks),(13,.int .i64 (ks.length:Int)),(14,.int .i64 i),(21,.bool (!b))] [.dead,.dead] []
theorem Y3(l:Nat)(ks:List aa)(i:Int)(x:aa)(b:Bool):cB Pg GE [] (lP US) (fun st=>FG st (XO l ks i b)) ((lP US).toList.drop 3) 0 (ZL l ks i x b):=by
 have z:=en (fr (XO l ks i b))
 exact DO z (by kernel_rfl)
theorem qaS(l:Nat)(ks:List aa)(i:Int):aL Pg GE 0 (.seq ZI .ret) (EX .ret (vE [.dead,.dead] false)) (XO l ks i false):=by
 have z:=eF .ret (vE [.dead,.dead] false)
 exact dS (A:=[]) mixed z (by kernel_rfl)
theorem qaT(l:Nat)(ks:List aa)(i:Int):aL Pg GE 0 ZJ (EX .normal (⟨(Vb l ks (bA (i+1))).tmps,[.dead,.dead],[]⟩)) (XO l ks i true):=by
 have z:=eF .normal (⟨(Vb l ks (bA (i+1))).tmps,[.dead,.dead],[]⟩)
 exact dS (A:=[]) mixed z (by kernel_rfl)
theorem qaU(l:Nat)(ks:List aa)(i:Int):aL Pg GE 0 (.seq ZK .ret) (EX .ret (vE [.dead] true)) (Wr l ks i):=by
 have z:=eF .ret (vE [.dead] true)
 exact dS (A:=[]) mixed z (by kernel_rfl)
theorem il{n:Int}(h1: -9223372036854775808<=n)(h2:n<9223372036854775808):bA n=n:=Wd h1 h2
theorem bP{α:Type}(l:List α)(i:Nat)(h:i<l.length):dt l (i:Int)=some l[i]:=by
 unfold dt
 rw[vai (by omega)]
 simp[h]
theorem jY(l:ag)(i:Nat)(h:i<l.length):hX l (i:Int)=some ((l[i].toNat:Int)):=by
 unfold hX;rw[bP l i h];rfl
theorem oI(c:UInt8)(l:ag):hX (c::l) 0=some (c.toNat:Int):=by
 have:=jY (c::l) 0 (by simp)
 simpa using this
theorem Ds{α:Type}(c:α)(l:List α):dt (c::l) 0=some c:=by
 have:=bP (c::l) 0 (by simp)
 simpa using this
theorem Qf{α:Type}(l:List α)(i:Nat)(h:i<=l.length):Hy l none (some (i:Int))=some (l.take i):=by
 simp[Hy,bd,h]
theorem wG{α:Type}(l:List α)(i:Nat)(h:i<=l.length):Hy l (some (i:Int)) none=some (l.drop i):=by
 simp[Hy,bd,h]
theorem eJ{α:Type}{l r:List α}(h:l.length+r.length<=1073741824):app l r=some (l++r):=vai h
theorem EY{σ X:Type}{body:σ->Option (σ⊕X)}{s s':σ}(h:body s=some (.inl s')):loop body s=loop body s':=by rw[mf,h]
theorem oK{σ X:Type}{body:σ->Option (σ⊕X)}{s:σ}{x:X}(h:body s=some (.inr x)):loop body s=some x:=by rw[mf,h]
def gH{α σ X:Type}(f:Nat->α->σ->σ⊕X)(e:σ->X):List α->Nat->σ->X
 |[],_,s=>e s
 |x::r,i,s=>match f i x s with
  |.inl s'=>gH f e r (i+1) s'
  |.inr y=>y
theorem ir{α σ τ X:Type}(l:List α)(hl:l.length<9223372036854775808)(mk:Int->σ->τ)(body:τ->Option (τ⊕X))(I:Nat->σ->Prop)(f:Nat->α->σ->σ⊕X)(e:σ->X)
  (hin:∀(i:Nat) (h:i<l.length) s,I i s->body (mk i s)=some (match f i l[i] s with|.inl s'=>.inl (mk (bA ((i:Int)+1)) s')|.inr y=>.inr y)/\∀s',f i l[i] s=.inl s'->I (i+1) s')
  (hend:∀s,I l.length s->body (mk l.length s)=some (.inr (e s))):∀(i:Nat) (s:σ),i<=l.length->I i s->loop body (mk i s)=some (gH f e (l.drop i) i s):=by
 intro i s hi hI
 obtain⟨k,hk⟩:∃k,k+i=l.length:=⟨l.length - i,by omega⟩
 induction k generalizing i s with
 |zero=>
  have:i=l.length:=by omega
  subst this
  rw[mf,hend s hI,vcO]
  rfl
 | succ k ih =>
  have hlt:i<l.length:=by omega
  obtain⟨h1,h2⟩:=hin i hlt s hI
  rw[mf,h1,va6 hlt]
  unfold gH
  cases hf:f i l[i] s with
  |inl s'=>
   simp only
   rw[il (by omega) (by omega)]
   have:=ih (i+1) s' (by omega) (h2 s' hf) (by omega)
   rw[show((i:Int)+1)=((i+1:Nat):Int) by omega]
   exact this
  |inr y=>rfl
theorem OS{α X:Type}(p:α->Bool)(y e:X):∀(l:List α) (i:Nat),gH (fun _ x (_:Unit)=>if p x=true then Sum.inr y else .inl ()) (fun _=>e) l i ()=if l.any p=true then y else e
 |[],i=>by simp[gH]
 | x :: l,i => by
  have ih:=OS p y e l (i+1)
  unfold gH
  by_cases h:p x=true
  ·simp[h]
  ·simp only[h,if_false,ih,List.any_cons,vcj,vaz]
theorem lL{α X:Type}(l:List α)(hl:l.length<9223372036854775808)(body:Int->Option (Int⊕X))(p:α->Bool)(y e:X)
  (hin:∀(i:Nat) (h:i<l.length),body i=some (if p l[i]=true then .inr y else .inl (bA ((i:Int)+1)))) (hend:body l.length=some (.inr e)) (i:Nat) (hi:i<=l.length):
  loop body (i:Int)=some (if(l.drop i).any p=true then y else e):=by
 have:=ir l hl (fun i (_:Unit)=>i) body (fun _ _=>True) (fun _ x _=>if p x=true then Sum.inr y else .inl ()) (fun _=>e) (fun i h s _=>⟨?_,fun _ _=>trivial⟩) (fun s _=>hend) i () hi trivial
 ·rw[this,OS]
 ·rw[hin i h]
  by_cases hp:p l[i]=true<;>simp[hp]
theorem L1{α X:Type}(p:α->Bool)(y:Nat->X)(e:X):∀(l:List α) (i:Nat),gH (fun j x (_:Unit)=>if p x=true then Sum.inr (y j)else .inl ()) (fun _=>e) l i ()=match l.findIdx? p with|some j=>y (i+j)|none=>e
 |[],i=>by simp[gH]
 | x :: l,i => by
  have ih:=L1 p y e l (i+1)
  unfold gH
  rw[List.findIdx?_cons]
  by_cases h:p x=true
  ·simp[h]
  ·simp only[h,if_false,ih,vaz]
   cases l.findIdx? p with
   |none=>rfl
   |some j=>simp only[vaf];congr 1;omega
theorem AD{α X:Type}(l:List α)(hl:l.length<9223372036854775808)(body:Int->Option (Int⊕X))(p:α->Bool)(y:Nat->X)(e:X)
  (hin:∀(i:Nat) (h:i<l.length),body i=some (if p l[i]=true then .inr (y i)else .inl (bA ((i:Int)+1)))) (hend:body l.length=some (.inr e)):
  loop body (0:Int)=some (match l.findIdx? p with|some j=>y j|none=>e):=by
 have:=ir l hl (fun i (_:Unit)=>i) body (fun _ _=>True) (fun j x _=>if p x=true then Sum.inr (y j)else .inl ()) (fun _=>e) (fun i h s _=>⟨?_,fun _ _=>trivial⟩) (fun s _=>hend) 0 () (vaB _) trivial
 ·simp only[Int.ofNat_zero,vaU]at this
  have this2:=L1 p y e l 0
  simp only[vaH]at this2
  rw[<-this2]
  exact this
 ·rw[hin i h]
  by_cases hp:p l[i]=true<;>simp[hp]
end Go.Proofs.YtggeppllafbidaaGreatDoor
