/- PROVED: a part of the proof. Conditions: none. -/
import Derived.Test.YtoficachfgggjaaDoorPkD7
import Derived.Test.YtoficachfgggjaaDoorPkD3
import Derived.Shelf.SlicesE.Clone
import Derived.Test.YtoficachfgggjaaDoorChecked
import Derived.Test.YtoficachfgggjaaDoorProg
import Derived.Ground.SlgnProg
import Derived.Ground.SlsfProg
import Derived.Shelf.Lays
import Derived.Shelf.LaysM
import Derived.Shelf.SlGeneric
import Derived.Shelf.SlLaysE0
import Derived.Shelf.SlLaysF0
import Derived.Shelf.SlSortCmp.NoneTotal
noncomputable section
namespace Go.Proofs.YtoficachfgggjaaDoor
open Go
theorem rT:true=true:=rfl
theorem rL(l:List ai):l=l:=rfl
theorem rB(B:ai):B=B:=rfl
theorem rW(l:List (Nat×TypeId)):l=l:=rfl
theorem rM(l:List (PVal×PVal)):l=l:=rfl
theorem xR(ρ:List Nat)(p:PVal)(h:p.cl 0):rA ρ p p:=.refl p h
theorem xB(ρ:List Nat)(i j off:Nat)(h:ρ[i]? =some j):rA ρ (.bptr j off) (.bptr i off):=.bptr i j off h
theorem xM(ρ:List Nat)(i j:Nat)(h:ρ[i]? =some j):rA ρ (.mapr j) (.mapr i):=.mapr i j h
theorem tX{a a':PVal}{l l':List PVal}(h:a=a')(h':l=l'):a::l=a'::l':=by rw[h,h']
open Go Go.Shelf Go.RowKit Go.Lib
variable{P:Program}{ρ:Ren}
theorem xS{w:World}(base:Nat)(t ty e:TypeId)(i:TypeInfo)(z:Value)(ht:P.underlying t=some (.slice e))(hi:P.info? e=some i)(hz:i.zero=some z)
  (v:Value) (n:Nat) (xs:List Value) (hown:w.ownsRow base e i.size v n xs)
  (a:Addr) (m c:Nat) (news:List Value) (hl:news.length=m * i.size) (hnews:∀j u,news[j]? =some u->w.cell? (a.add j)=some u) (h1:∀u∈news,u.oneCell'=true)
  (h63:n+m<=maxLen) (hbytes:(n+m) * i.bytes<=140737488355328) {v':Value} {w':World} (hr:(Builtin.append_ #[t,t] ty #[v,.slice (some a) m c]).run P w=.ok v' w'):w.drawn<=w'.drawn:=by
 have hsmall:n+m<=9223372036854775807:=by simp only[maxLen]at h63;omega
 rcases hown.2 with⟨rfl,rfl⟩|⟨g,cap,cur,rfl,hbg,hg,hnc,hcm,hcs,htake⟩
 ·by_cases hm:m=0
  ·subst hm
   have hn:news=[]:=vaq (by simpa using hl)
   subst hn
   have:(Builtin.append_ #[t,t] ty #[.slice none 0 0,.slice (some a) 0 c]).run P w=.ok (.slice none 0 0) w:=by
    simp[Builtin.append_,run_underlying ht,Go.sizeOf,typeInfo,hi,Builtin.lenOf,Builtin.firstCells,loadCells,loadCellsFrom]
   rw[this]at hr;cases hr;exact vap _
  ·rw[run_append_nil (P:=P) w t ty e i z ht hi hz a m c news hl hnews (by omega) (by omega) (by have hb:=hbytes;simp only[vaB]at hb;omega)]at hr
   cases hr;exact vcC _
 ·by_cases hroom:n+m<=cap
  ·have hfit:n * i.size+news.length<=cur.size:=by rw[hl,hcs,<-va3];exact vaK _ hroom
   rw[run_append_room (P:=P) w t ty e i ht hi g n cap cur hg a m c news hl hnews h1 hroom hfit]at hr
   cases hr;exact vap _
  ·have holds:∀j u,xs[j]? =some u->w.cell? ((⟨g,0,none⟩:Addr).add j)=some u:=hown.cells (g:=g) rfl
   rw[run_append_grow (P:=P) w t ty e i z ht hi hz ⟨g,0,none⟩ n cap xs hown.1 holds a m c news hl hnews (by omega) (by omega) (growslice_fits (by omega) hbytes)]at hr
   cases hr;exact vcC _
theorem wH(w:World){o:Oper}{a:Act}{K:Act->World->Prop}{Q:Exit->Act->World->Prop}(s x:Operand)(t:TypeId)
  (ho:o.op=.call {callee:=.builtin .append,args:=#[s,x],argTypes:=#[t,t]})
  (base:Nat) (e:TypeId) (i:TypeInfo) (z:Value) (size bytes:Nat) (ht:P.underlying t=some (.slice e)) (hi:P.info? e=some i) (hz:i.zero=some z)
  (hsize:i.size=size) (hby:i.bytes=bytes) (hzs:z.cells.size=size) (hsz:0<size)
  (v:Value) (n:Nat) (xs:List Value) (hs:a.eval s=v) (hown:w.ownsRow base e size v n xs)
  (ad:Addr) (m c:Nat) (news:List Value) (hx:a.eval x=.slice (some ad) m c) (hl:news.length=m * size) (hnews:∀j u,news[j]? =some u->w.cell? (ad.add j)=some u) (h1:∀u∈news,u.oneCell'=true)
  (h63:n+m<=maxLen) (hbytes:(n+m) * bytes<=140737488355328) (hbase:base<=w.heap.size)
  (h:∀v' w',w'.ownsRow base e size v' (n+m) (xs++news)->w.grownBy w' v.ownBlock->w.drawn<=w'.drawn->K (a.put o.dst v') w'):o.wp P a w K Q:=by
 obtain⟨v',w',hr,h2,h3,_⟩:=run_append_own (P:=P) w base t o.type e i z size bytes ht hi hz hsize hby hzs hsz v n xs hown ad m c news hl hnews h1 h63 hbytes hbase
 subst hsize
 subst hby
 have hd:=xS (P:=P) base t o.type e i z ht hi hz v n xs hown ad m c news hl hnews h1 h63 hbytes hr
 unfold Oper.wp execOp
 simp only[ho,resolve,invoke,builtin,Sem.run_bind,Sem.run_pure,Result.andThen_ok,List.map_toArray,vaW,vcL,hs,hx,hr]
 exact h v' w' h2 h3 hd
theorem lQ(w:World){ops:Array Oper}{rest:List Oper}{o:Oper}{a:Act}{Q:Exit->Act->World->Prop}(hgd:o.guard=none)(s x:Operand)(t:TypeId)
  (ho:o.op=.call {callee:=.builtin .append,args:=#[s,x],argTypes:=#[t,t]})
  (base:Nat) (e:TypeId) (i:TypeInfo) (z:Value) (size bytes:Nat) (ht:P.underlying t=some (.slice e)) (hi:P.info? e=some i) (hz:i.zero=some z)
  (hsize:i.size=size) (hby:i.bytes=bytes) (hzs:z.cells.size=size) (hsz:0<size)
  (v:Value) (n:Nat) (xs:List Value) (hs:a.eval s=v) (hown:w.ownsRow base e size v n xs)
  (ad:Addr) (m c:Nat) (news:List Value) (hx:a.eval x=.slice (some ad) m c) (hl:news.length=m * size) (hnews:∀j u,news[j]? =some u->w.cell? (ad.add j)=some u) (h1:∀u∈news,u.oneCell'=true)
  (h63:n+m<=maxLen) (hbytes:(n+m) * bytes<=140737488355328) (hbase:base<=w.heap.size)
  (h:∀v' w',w'.ownsRow base e size v' (n+m) (xs++news)->w.grownBy w' v.ownBlock->w.drawn<=w'.drawn->wpList P ops Q rest (a.put o.dst v') w'):wpList P ops Q (o::rest) a w:=
 wpList_plain hgd fun _ hK=>wH w s x t ho base e i z size bytes ht hi hz hsize hby hzs hsz v n xs hs hown ad m c news hx hl hnews h1 h63 hbytes hbase fun v' w' h2 h3 h4=>hK _ _ (h v' w' h2 h3 h4)
set_option maxHeartbeats 2000000 in
set_option maxRecDepth 100000 in
theorem Au(L:SlLaysE0.n41 P ρ)(i0:TypeInfo)(z:Value)(size bytes:Nat)(hi:P.info? (ρ.t 23)=some i0)(hz0:i0.zero=some z)(hz1:i0.size=size)(hz2:i0.bytes=bytes)(hzs:z.cells.size=size)(hsz:0<size)
  (z23:∀w,(Go.sizeOf (ρ.t 23)).run P w=.ok size w) (b off n c:Nat) (news:List Value) (w:World) (hl:news.length=n * size) (hn:n<=maxLen) (hbig:n * bytes<=140737488355328)
  (hc:∀j u,news[j]? =some u->w.cell? ⟨b,off+j,none⟩=some u) (h1:∀u∈news,u.oneCell'=true):
  Calls P (ρ.f 41) #[.slice (some ⟨b,off,none⟩) n c] w fun e w'=>∃v',e=.returned v'/\w'.ownsRow w.heap.size (ρ.t 23) size v' n news/\(Below w.heap.size w w'/\w.drawn<=w'.drawn):=by
 have mixed:=L.mixed;have t4:=L.t4;have a4:=L.a4;have z4:=L.z4;have v4:=L.v4;have t22:=L.t22;have a22:=L.a22;have z22:=L.z22;have v22:=L.v22
 have q22:∀(w:World) (a:Option Addr) (n c n' c':Nat),(binOp .eql (ρ.t 22) (.slice a n c) (.slice none n' c')).run P w=.ok (.bool a.isNone) w:=fun w a n c n' c'=>Lib.run_eql_slice_nil w _ _ a n c n' c' L.t22
 have u22:∀w,Sem.run P (underlying (ρ.t 22)) w=.ok (TypeDesc.slice (ρ.t 23)) w:=run_underlying t22
 have A:Aside (∀j u,news[j]? =some u->w.cell? ⟨b,off+j,none⟩=some u):=hc
 clear hc
 obtain⟨_,_,FG⟩:=L.f41
 go_enter FG,SlBodyN.n41_ntmps ρ
 go_wp2_with (at_builtin;refine lQ _ rfl _ _ (ρ.t 22) rfl w.heap.size (ρ.t 23) i0 z size bytes t22 hi hz0 hz1 hz2 hzs hsz _ _ _ rfl (World.ownsRow_made w #[] 0 (vap _) (vaJ _) (by simp)) ⟨b,off,none⟩ n c news rfl ?qc1 ?qc2 ?qc3 ?qc4 ?qc5 ?qc6 ?_)
 case qc1=>exact hl
 case qc2=>
  intro j u hj
  rw[Addr.add_lit]
  exact Lib.cell?_alloc_some _ (A.out j u hj)
 case qc3=>exact h1
 case qc4=>rw[vaB];exact hn
 case qc5=>rw[vaB];exact hbig
 case qc6=>simp
 intro v' w1 hown hgrow hdr
 go_wp2
 go_ret
 refine⟨v',rfl,by simpa using hown,?_,hdr⟩
 exact((Below.refl _ w).alloc (vap _) _).grown hgrow (by simp) (by intro k hk;simp[Value.ownBlock]at hk;omega)
set_option maxHeartbeats 2000000 in
set_option maxRecDepth 100000 in
theorem ze(L:SlLaysE0.n41 P ρ)(i0:TypeInfo)(z:Value)(hi:P.info? (ρ.t 23)=some i0)(hz0:i0.zero=some z)(hzs:z.cells.size=i0.size)(hsz:0<i0.size)
  (z23:∀w,(Go.sizeOf (ρ.t 23)).run P w=.ok i0.size w) (ad:Addr) (c:Nat) (w:World):
  Calls P (ρ.f 41) #[.slice (some ad) 0 c] w fun r w'=>∃v',r=.returned v'/\w'.ownsRow w.heap.size (ρ.t 23) i0.size v' 0 []/\(Below w.heap.size w w'/\w.drawn<=w'.drawn):=by
 have mixed:=L.mixed;have t4:=L.t4;have a4:=L.a4;have z4:=L.z4;have v4:=L.v4;have t22:=L.t22;have a22:=L.a22;have z22:=L.z22;have v22:=L.v22
 have q22:∀(w:World) (a:Option Addr) (n c n' c':Nat),(binOp .eql (ρ.t 22) (.slice a n c) (.slice none n' c')).run P w=.ok (.bool a.isNone) w:=fun w a n c n' c'=>Lib.run_eql_slice_nil w _ _ a n c n' c' L.t22
 have u22:∀w,Sem.run P (underlying (ρ.t 22)) w=.ok (TypeDesc.slice (ρ.t 23)) w:=run_underlying t22
 obtain⟨_,_,FG⟩:=L.f41
 go_enter FG,SlBodyN.n41_ntmps ρ
 go_wp2_with (at_builtin;refine lQ _ rfl _ _ (ρ.t 22) rfl w.heap.size (ρ.t 23) i0 z i0.size i0.bytes t22 hi hz0 rfl rfl hzs hsz _ _ _ rfl (World.ownsRow_made w #[] 0 (vap _) (vaJ _) (by simp)) ad 0 c [] rfl (by simp) (by simp) (by simp) (by simp) (by simp) (by simp) ?_)
 intro v' w1 hown hgrow hdr
 go_wp2
 go_ret
 exact⟨v',rfl,by simpa using hown,((Below.refl _ w).alloc (vap _) _).grown hgrow (by simp) (by intro k hk;simp[Value.ownBlock]at hk;omega),hdr⟩
theorem BU(L:SlLaysE0.n41 P ρ)(i0:TypeInfo)(z:Value)(hi:P.info? (ρ.t 23)=some i0)(hz0:i0.zero=some z)(hzs:z.cells.size=i0.size)(hsz:0<i0.size)(hby:i0.bytes<=65536)
  (hcall:∀vs w,(callFunc (ρ.f 41) vs).run P w=.ok (.enter (ρ.f 41) vs) w):lc P (ρ.f 41) (ρ.t 23):=by
 have hc:P.cellsOf (ρ.t 23)=i0.size:=by simp[Program.cellsOf,hi]
 have z23:∀w,(Go.sizeOf (ρ.t 23)).run P w=.ok i0.size w:=fun w=>by rw[<-hc];exact run_sizeOf w hi
 refine⟨hcall,fun w x n news hx hl h1 hn=>?_⟩
 rw[hc]at hl ⊢
 rcases hx with⟨rfl,rfl⟩|⟨a,c,rfl,hcell⟩
 ·have hnews:news=[]:=vaq (by simpa using hl)
  subst hnews
  refine(AnyE.slices_Clone_nil L 0 0 w).mono fun r w' hr=>?_
  obtain⟨rfl,rfl⟩:=hr
  exact⟨_,rfl,World.ownsRow_nil _ _ _ _,Below.refl _ _,vap _⟩
 ·by_cases h0:n=0
  ·subst h0
   have hnews:news=[]:=vaq (by simpa using hl)
   subst hnews
   exact ze L i0 z hi hz0 hzs hsz z23 a c w
  ·have hpos:0<news.length:=by rw[hl];exact vcN (Nat.pos_of_ne_zero h0) hsz
   have hsp:a.spot=none:=by
    have hk:=hcell 0 _ (vab hpos)
    unfold Addr.add at hk
    simp only[if_true]at hk
    unfold World.cell? at hk
    split at hk
    ·split at hk
     ·cases hk
     ·rename_i hs;simpa using hs
    ·cases hk
   obtain⟨b,off,sp⟩:=a
   simp only at hsp
   subst hsp
   refine Au L i0 z i0.size i0.bytes hi hz0 rfl rfl hzs hsz z23 b off n c news w hl (by unfold maxLen;unfold dT at hn;omega) ?_ (fun j u hj=>by rw[<-Addr.add_lit];exact hcell j u hj) h1
   have:n * i0.bytes<=1073741824 * 65536:=vcB (by unfold dT at hn;omega) hby
   omega
theorem BT(L:SlLaysE0.n41 P ρ){f:FuncId}{e:TypeId}(hf:ρ.f 41=f)(he:ρ.t 23=e)(hq:(P.info? e).any (fun i=>(i.zero.any fun z=>z.cells.size==i.size)&&decide (0<i.size)&&decide (i.bytes<=65536))=true)
  (hcall:∀vs w,(callFunc f vs).run P w=.ok (.enter f vs) w):lc P f e:=by
 subst hf;subst he
 cases hi:P.info? (ρ.t 23)with
 |none=>rw[hi]at hq;cases hq
 | some i0 =>
  rw[hi]at hq
  simp only[Option.any_some,vac,vaf]at hq
  obtain⟨⟨h1,h2⟩,h3⟩:=hq
  cases hz:i0.zero with
  |none=>rw[hz]at h1;cases h1
  |some z=>
   rw[hz]at h1
   simp only[Option.any_some,vaE]at h1
   exact BU L i0 z hi hz h1 h2 h3 hcall
end Go.Proofs.YtoficachfgggjaaDoor
namespace Go.Proofs.YtoficachfgggjaaDoor
open Go
def ra{α:Type}(l:List α):Option (List α):=if l.length<=dT then some l else none
section
variable{P:Program}{GE:List (Nat×List PVal)}{T e:TypeId}{α:Type}{c:α->List PVal}
theorem zd{l r:List α}(h:ra l=some r):l.length<=dT/\r=l:=by
 unfold ra at h
 split at h
 ·rename_i hl;cases h;exact⟨hl,rfl⟩
 ·cases h
theorem yS.mapOk(s:yS P T e c)(l:List α):∀x∈l.map c,x.length=P.cellsOf e/\∀q∈x,q.one=true:=fun x hx=>by
 obtain⟨y,_,rfl⟩:=vas.1 hx
 exact⟨s.hc y,s.ho y⟩
theorem yS.cloneCC(s:yS P T e c){f:FuncId}(hC:lc P f e){l r:List α}(h:ra l=some r):CC P GE f [sl c l] (sl c r) [(0,e)]:=by
 obtain⟨hl,rfl⟩:=zd h
 exact CC.clone hC ⟨aw s.cl r,trivial⟩ s.hp (s.mapOk r) (by simpa using hl)
end
def PS(_:List It)(F:Prop):Prop:=F
section
variable{sc:List It}{F X Y:Prop}
theorem en(h:F):PS [] F:=h
theorem sv{o:Option PVal}{p:PVal}(h:o=some p)(r:PS sc F):PS (.v p::sc) (o=some p/\F):=⟨h,r⟩
theorem g8{o:List ai->Option PVal}{p:PVal}(h:∀H,o H=some p)(r:PS sc F):PS (.v p::sc) ((∀H,o H=some p)/\F):=⟨h,r⟩
theorem sx{o:Option (List PVal)}{l:List PVal}(h:o=some l)(r:PS sc F):PS (.x l::sc) (o=some l/\F):=⟨h,r⟩
theorem se{o:Option (List PVal)}{l:List PVal}(h:o=some l)(r:PS sc F):PS (.e l::sc) (o=some l/\F):=⟨h,r⟩
theorem sg(n:Nat){x b:Bool}(h:x=b)(r:PS sc F):PS (.g n b::sc) (x=b/\F):=⟨h,r⟩
theorem sk(r:PS sc F):PS (.k::sc) F:=r
theorem ss(r:PS sc F):PS (.s::sc) F:=r
theorem eb{P:Program}{GE:List (Nat×List PVal)}{g:FuncId}{vs:List PVal}{p:PVal}{ro:List (Nat×TypeId)}(h:CC P GE g vs p ro)(r:PS sc F):PS (.c p ro::sc) (CC P GE g vs p ro/\F):=⟨h,r⟩
theorem sb{P:Program}{T:TypeId}{ps:List (Nat×PVal)}{p:PVal}{L:List (Nat×TypeId)}(h:fy P T ps=some p)(h':yA P T ps L)(r:PS sc F):PS (.b p L::sc) (fy P T ps=some p/\yA P T ps L/\F):=⟨h,h',r⟩
theorem sy{l vs:List PVal}(h:l=vs)(r:PS sc F):PS (.y vs::sc) (l=vs/\F):=⟨h,r⟩
theorem sz{o:Option PVal}{l:List PVal}(h:o=some (.agg l))(r:PS sc F):PS (.z l::sc) (o=some (.agg l)/\F):=⟨h,r⟩
theorem Aj(an:List Nat)(r:PS sc F):PS (.dr an::sc) F:=r
theorem wJ(n:Nat)(r:PS sc F):PS (.pa n::sc) F:=r
theorem gq{P:Program}{GE:List (Nat×List PVal)}{m:Nat}{c:Code}{e:Exit}{s0 s1:ak}(h:aL P GE m c (EX e s1) s0)(r:PS sc F):PS (.pc s0 e s1::sc) ((s0.tmps=s0.tmps/\s0.boxes=s0.boxes/\true=true)/\aL P GE m c (EX e s1) s0/\F):=⟨fr s0,h,r⟩
theorem GR(i:It)(r:PS sc F):PS (i::sc) F:=r
theorem si(i:It)(h:X)(r:PS sc F):PS (i::sc) (X/\F):=⟨h,r⟩
theorem sf(h:X)(r:PS sc F):PS sc (X/\F):=⟨h,r⟩
theorem Hv{o:Option (List ai)}{B:ai}(h:o=some [B])(r:PS sc F):PS (.w 0 B::sc) (o=some [B]/\F):=⟨h,r⟩
theorem H8{o:Option (List (PVal×PVal))}{m:List (PVal×PVal)}(h:o=some m)(r:PS sc F):PS (.w 0 (.map m)::sc) (o=some m/\F):=⟨h,r⟩
end
section
variable{P:Program}{GE:List (Nat×List PVal)}{A:List Nat}{m:Nat}
theorem Fm(hf:P.follows .mixedOrders=true){c:Code}{e0:Exit}{st0 st:ak}{sc:List It}{F:Prop}(h:PS sc F)(he:F=nP P GE A m c sc st (FN e0 st0)):aL P GE m c (EX e0 st0) st:=Dy hf sc (Eq.mp he h)
theorem GH(hf:P.follows .mixedOrders=true){σ X:Type}{S:σ->ak}{ex:X->Exit}{so:X->ak}{c:Code}{s:σ}{st:ak}{sc:List It}{F:Prop}(h:PS sc F)(he:F=nP P GE A m c sc st (FN .normal (S s))):aL P GE m c (LQ S ex so (.inl s)) st:=sH hf sc (Eq.mp he h)
theorem GK(hf:P.follows .mixedOrders=true){σ X:Type}{S:σ->ak}{ex:X->Exit}{so:X->ak}{c:Code}{x:X}{st:ak}{sc:List It}{F:Prop}(hn:ex x≠.normal)(h:PS sc F)(he:F=nP P GE A m c sc st (FN (ex x) (so x))):aL P GE m c (LQ S ex so (.inr x)) st:=Ho hf sc hn (Eq.mp he h)
theorem C.evp(hf:P.follows .mixedOrders=true){f:FuncId}{fn:Func}{c:Code}{args:List PVal}{r:PVal}{ro:List (Nat×TypeId)}
  (hcall:∀vs w,(callFunc f vs).run P w=.ok (.enter f vs) w) (hfn:P.funcs[f]? =some fn) (hb:fn.body=some c) (hcl:jP 0 args) {sc:List It} {F:Prop} (h:PS sc F)
  (he:F=nP P GE A 0 c sc ⟨args++List.replicate (fn.ntmps - args.length) .undef,[],[]⟩ (FR P fn.results.toList r ro)):CC P GE f args r ro:=C.ev hf hcall hfn hb hcl sc (Eq.mp he h)
theorem C.evGp(hf:P.follows .mixedOrders=true){f:FuncId}{fn:Func}{c:Code}{args:List PVal}{oa:List ((Nat×Nat)×TypeId)}{H:List ai}{r:PVal}{ro:List (Nat×TypeId)}{H':List ai}
  (hm:decide (m % 1000=H.length)&&decide (m≠0)&&decide (H'.length=H.length)=true) (hcall:∀vs w,(callFunc f vs).run P w=.ok (.enter f vs) w) (hfn:P.funcs[f]? =some fn) (hb:fn.body=some c) {sc:List It} {F:Prop} (h:PS sc F)
  (he:F=nP P GE A m c sc ⟨args++List.replicate (fn.ntmps - args.length) .undef,H,oa⟩ (F6 P fn.results.toList r ro H')):C P GE f args oa H r ro H':=C.evG hf hm hcall hfn hb sc (Eq.mp he h)
end
section
variable{P:Program}{GE:List (Nat×List PVal)}{A:List Nat}{m:Nat}
theorem iz(hf:P.follows .mixedOrders=true){σ X:Type}{S:σ->ak}{ex:X->Exit}{so:X->ak}{c:Code}{s:σ}{st:ak}{sc:List It}{F:Prop}(h:PS sc F)(he:F=nP P GE A m c sc st (F5 m .normal (S s))):aL P GE m c (LQ S ex so (.inl s)) st:=GI hf sc (Eq.mp he h)
theorem kp(hf:P.follows .mixedOrders=true){σ X:Type}{S:σ->ak}{ex:X->Exit}{so:X->ak}{c:Code}{x:X}{st:ak}{sc:List It}{F:Prop}(hn:ex x≠.normal)(h:PS sc F)(he:F=nP P GE A m c sc st (F5 m (ex x) (so x))):aL P GE m c (LQ S ex so (.inr x)) st:=GL hf sc hn (Eq.mp he h)
end
def tm(n:Nat):Nat->List (Nat×PVal)->List PVal
 |k,[]=>List.replicate (n - k) .undef
 |k,x::l=>List.replicate (x.1 - k) .undef++x.2::tm n (x.1+1) l
abbrev cJ(n:Nat)(l:List (Nat×PVal))(H:List ai)(o:List ((Nat×Nat)×TypeId)):ak:=⟨tm n 0 l,H,o⟩
def Gs(n:Nat):List (Nat×PVal)->Prop
 |[]=>True
 |x::l=>x.2.cl n/\Gs n l
theorem xV{n:Nat}{l:List PVal}(h:jP n l):∀k,jP n (List.replicate k .undef++l)
 |0=>h
 |k+1=>by rw[List.replicate_succ,vcn];exact⟨trivial,xV h k⟩
theorem eR{n N:Nat}:∀{l:List (Nat×PVal)} {k:Nat},Gs n l->jP n (tm N k l)
 |[],k,_=>by unfold tm;have:=xV (n:=n) (l:=[]) trivial (N - k);rwa[vbx]at this
 |x::l,k,h=>by unfold tm;exact xV (l:=x.2::tm N (x.1+1) l) (by simp only[jP];exact⟨h.1,eR h.2⟩) _
def bits:Nat->Nat->List Bool->List Bool
 |0,_,l=>l
 |k+1,n,l=>if n<=1 then l else bits k (n / 2) ((n % 2==1)::l)
def cA(c:Code)(n:Nat):Code:=rb c (bits 100 n [])
theorem eF(e:Exit)(s:ak):PS [] (e=e/\s.tmps=s.tmps/\s.boxes=s.boxes/\true=true):=⟨rfl,fr s⟩
theorem tc(m:Nat)(e:Exit)(s:ak)(h4:decide (m % 1000<=s.boxes.length)=true)(h5:jP s.boxes.length s.tmps)(h6:xT s.boxes.length s.boxes):PS [] (e=e/\s.tmps=s.tmps/\s.boxes=s.boxes/\true=true/\decide (m % 1000<=s.boxes.length)=true/\jP s.boxes.length s.tmps/\xT s.boxes.length s.boxes):=⟨rfl,H5 m s h4 h5 h6⟩
def pl(n:Nat)(i:Int):Option Nat:=if 0<=i/\i<n then some i.toNat else none
def cN{α:Type}(n:Nat)(f:α->PVal)(x:Nat->α):List PVal:=(List.range n).map fun k=>f (x k)
def gV{α:Type}(x:Nat->α)(L:Nat)(v:α):Nat->α:=fun k=>if k=L then v else x k
def q7{α:Type}(z:α):Nat->α:=fun _=>z
def mF{α:Type}(z:α)(l:List α):Nat->α:=fun k=>l.getD k z
theorem sn{n x:Nat}{i:Int}(h:pl n i=some x):0<=i/\i<n/\x=i.toNat/\x<n:=by
 unfold pl at h
 split at h
 ·rename_i hh;cases h;exact⟨hh.1,hh.2,rfl,by omega⟩
 ·cases h
theorem Hm{n x:Nat}{i:Int}(h:pl n i=some x):0+x * 1<n:=by
 have:=(sn h).2.2.2;omega
theorem EF{n m x y:Nat}{i j:Int}(h:pl n i=some x)(h':pl m j=some y):0+x * m+y * 1<n * m:=by
 have h1:=(sn h).2.2.2
 have h2:=(sn h').2.2.2
 have h3:(x+1) * m<=n * m:=vaK m h1
 rw[va3,vbN]at h3
 omega
section
variable{P:Program}{α:Type}{n:Nat}{f:α->PVal}{x:Nat->α}
theorem q8:(cN n f x).length=n:=by simp[cN]
theorem Be{k:Nat}(h:k<n):(cN n f x)[k]? =some (f (x k)):=by
 unfold cN;rw[vax,vaX h];rfl
theorem CR(h:∀a,(f a).cl 0):jP 0 (cN n f x):=xU fun p hp=>by
 obtain⟨k,_,rfl⟩:=vas.1 hp;exact h _
theorem Fa(h:∀a,(f a).one=true):∀q∈cN n f x,q.one=true:=fun p hp=>by
 obtain⟨k,_,rfl⟩:=vas.1 hp;exact h _
theorem za{t e:TypeId}{m:Nat}(hu:P.underlying t=some (.array n e))(hi:(P.info? e).isSome=true)(hm:P.cellsOf e=m){b off y:Nat}{k:IntKind}{i:Int}(h:pl n i=some y):dh P t (.bptr b off) (.int k i)=some (.bptr b (off+y * m)):=by
 obtain⟨h0,h1,rfl,_⟩:=sn h
 unfold dh
 rw[hu]
 simp only
 rw[vae ⟨h0,h1,hi⟩,hm]
theorem CT{t:TypeId}(hs:(P.underlying t).any qV=true){L:Nat}(h:L<n):bo P t ((cN n f x).drop L)=some (f (x L)):=by
 have hl:L<(cN n f x).length:=by rw[q8];exact h
 rw[vba hl]
 have:=Be (f:=f) (x:=x) h
 rw[vab hl]at this
 rw[vaR this]
 exact yy hs _ _
theorem Fb{L:Nat}(h:L<n)(v:α):(cN n f x).take L++[f v]++(cN n f x).drop (L+1)=cN n f (gV x L v):=by
 have hl:((cN n f x).take L).length=L:=by rw[vbb,q8];omega
 apply vbd
 intro k
 by_cases hk:k<n
 ·rw[Be hk]
  unfold gV
  by_cases h1:k<L
  ·rw[vbq,vad (by omega),vaw h1,Be hk,vag (by omega)]
  ·by_cases h2:k=L
   ·subst h2
    rw[vbq,vai (by omega),hl,vbP,vae rfl]
    rfl
   ·rw[vai (by simp;omega),vaU,vag h2]
    have:L+1+(k - ((cN n f x).take L++[f v]).length)=k:=by simp[hl];omega
    rw[this,Be hk]
 ·rw[vaA (by simp[q8];omega),vaA (by rw[q8];omega)]
theorem EC{t:TypeId}(hc:P.cellsOf t=1)(hi:(P.info? t).isSome=true)(ho:∀a,(f a).one=true){L:Nat}{v:α}(h:L<n)(hp:∀a,bW (f a)=some [f a]):bE P t (.bptr 0 L) (f v) [.cells (cN n f x) []]=some [.cells (cN n f (gV x L v)) []]:=by
 unfold bE
 simp only[hp,List.getElem?_cons_zero]
 rw[vae ⟨hc.symm,hi,by rw[q8];show L+1<=n;omega,by simp[ho]⟩]
 have:=Fb (f:=f) (x:=x) h v
 simp only[List.length_singleton]
 rw[this]
 rfl
end
open Go Go.Proofs.Tryd
set_option linter.unusedVariables false
set_option maxRecDepth 100000
noncomputable abbrev Pg:=Tryd.prog
theorem mixed:Pg.follows .mixedOrders=true:=by kernel_rfl
structure ag where
 From:Int
 To:Int
 Strict:Bool
deriving DecidableEq
def am(x:ag):List PVal:=[.int .i64 x.From,.int .i64 x.To,.bool x.Strict]
theorem qo(x:ag):am x=[.int .i64 x.From,.int .i64 x.To,.bool x.Strict]:=rfl
theorem aM(x:ag):jP 0 (am x):=(aI trivial (aI trivial (aI trivial trivial)))
abbrev A0(x:ag):PVal:=.agg (am x)
theorem vV(x:ag):(am x).length=3:=by rw[qo];rfl
theorem sK(x:ag):bW (.agg (am x))=some (am x):=rfl
theorem zN(x:ag):bW (A0 x)=some (am x):=rfl
theorem pR(x:ag):bW (.agg (am x))=some [.int .i64 x.From,.int .i64 x.To,.bool x.Strict]:=by rw[qo];rfl
theorem Ds(x:ag):∀q∈am x,q.one=true:=by
 intro q hq
 rw[qo]at hq
 simp only[vay,vb7,or_false]at hq
 rcases hq with rfl|rfl|rfl<;>rfl
theorem D7:Pg.cellsOf 43=3:=by kernel_rfl
theorem jk(x:ag):bo Pg 43 (am x)=some (.agg (am x)):=by
 have:=tK (P:=Pg) (t:=43) (l:=am x) (r:=[]) (by kernel_rfl) (D7.trans (vV x).symm)
 rwa[vbx]at this
theorem vW(x:ag)(r:List PVal):bo Pg 43 ([.int .i64 x.From,.int .i64 x.To,.bool x.Strict]++r)=some (.agg (am x)):=by
 rw[<-qo];exact tK (by kernel_rfl) (D7.trans (vV x).symm)
def kN(x y:ag):Bool:=(x.From==y.From)&&((x.To==y.To)&&((x.Strict==y.Strict)&&(true)))
theorem zF(x y:ag):zL Pg .neq 43 (.agg (am x)) (.agg (am y))=some (.bool (!(kN x y))):=by kernel_rfl
theorem Ax(x y:ag):kN x y=decide (x=y):=by
 cases x;cases y;rw[vbt];simp[kN]
theorem qJ(x0:Int)(x1:Int)(x2:Bool):fy Pg 43 [(0,.int .i64 x0),(1,.int .i64 x1),(2,.bool x2)]=some (.agg (am (⟨x0,x1,x2⟩:ag))):=by
 kernel_rfl
theorem fx(x:ag):d4 Pg 43 (.eptr (am x)) 0=some (.eptr ((am x).drop 0)):=by kernel_rfl
theorem jf(x:ag):d4 Pg 43 (.eptr (am x)) 1=some (.eptr ((am x).drop 1)):=by kernel_rfl
theorem oo(x:ag):d4 Pg 43 (.eptr (am x)) 2=some (.eptr ((am x).drop 2)):=by kernel_rfl
theorem gE(x:ag):bo Pg 3 ((am x).drop 0)=some (.int .i64 x.From):=by kernel_rfl
theorem kc(x:ag):bo Pg 3 ((am x).drop 1)=some (.int .i64 x.To):=by kernel_rfl
theorem pO(x:ag):bo Pg 4 ((am x).drop 2)=some (.bool x.Strict):=by kernel_rfl
structure aa where
 Caller:ah
 Callee:ah
 Arcs:(List ag)
deriving DecidableEq
def ac(x:aa):List PVal:=[.str x.Caller,.str x.Callee,sl am x.Arcs]
theorem db(x:aa):ac x=[.str x.Caller,.str x.Callee,sl am x.Arcs]:=rfl
theorem af(x:aa):jP 0 (ac x):=(aI trivial (aI trivial (aI (aw aM x.Arcs) trivial)))
abbrev nO(x:aa):PVal:=.agg (ac x)
theorem rl(x:aa):(ac x).length=3:=by rw[db];rfl
theorem df(x:aa):bW (.agg (ac x))=some (ac x):=rfl
theorem lI(x:aa):bW (nO x)=some (ac x):=rfl
theorem dG(x:aa):bW (.agg (ac x))=some [.str x.Caller,.str x.Callee,sl am x.Arcs]:=by rw[db];rfl
theorem AN(x:aa):∀q∈ac x,q.one=true:=by
 intro q hq
 rw[db]at hq
 simp only[vay,vb7,or_false]at hq
 rcases hq with rfl|rfl|rfl<;>rfl
theorem D6:Pg.cellsOf 24=3:=by kernel_rfl
theorem aU(x:aa):bo Pg 24 (ac x)=some (.agg (ac x)):=by
 have:=tK (P:=Pg) (t:=24) (l:=ac x) (r:=[]) (by kernel_rfl) (D6.trans (rl x).symm)
 rwa[vbx]at this
theorem bD(x:aa)(r:List PVal):bo Pg 24 ([.str x.Caller,.str x.Callee,sl am x.Arcs]++r)=some (.agg (ac x)):=by
 rw[<-db];exact tK (by kernel_rfl) (D6.trans (rl x).symm)
theorem jH(x:aa):PVal.agg [.str x.Caller,.str x.Callee,sl am x.Arcs]=.agg (ac x):=by rw[db]
theorem pF:fy Pg 24 []=some (.agg (ac (⟨([]:ah),([]:ah),([]:List ag)⟩:aa))):=by
 kernel_rfl
theorem pE:yA Pg 24 [] [(2,43)]:=by
 exact⟨[.str ([]:ah),.str ([]:ah),.val zG],by kernel_rfl,(aI rfl trivial)⟩
theorem qK(x0:ah)(x1:ah):fy Pg 24 [(0,.str x0),(1,.str x1)]=some (.agg (ac (⟨x0,x1,([]:List ag)⟩:aa))):=by
 kernel_rfl
theorem qH(x0:ah)(x1:ah):yA Pg 24 [(0,.str x0),(1,.str x1)] [(2,43)]:=by
 exact⟨[.str x0,.str x1,.val zG],by kernel_rfl,(aI rfl trivial)⟩
theorem be(x:aa):d4 Pg 24 (.eptr (ac x)) 0=some (.eptr ((ac x).drop 0)):=by kernel_rfl
theorem bg(x:aa):d4 Pg 24 (.eptr (ac x)) 1=some (.eptr ((ac x).drop 1)):=by kernel_rfl
theorem aN(x:aa):d4 Pg 24 (.eptr (ac x)) 2=some (.eptr ((ac x).drop 2)):=by kernel_rfl
theorem bI(x:aa):bo Pg 9 ((ac x).drop 0)=some (.str x.Caller):=by kernel_rfl
theorem bJ(x:aa):bo Pg 9 ((ac x).drop 1)=some (.str x.Callee):=by kernel_rfl
theorem aO(x:aa):bo Pg 22 ((ac x).drop 2)=some (sl am x.Arcs):=by kernel_rfl
theorem HQ:Pg.cellsOf 4=1:=by kernel_rfl
abbrev kC:=Nat->Bool
def kn(x:kC):List PVal:=cN 36 PVal.bool x
theorem uH(x:kC):jP 0 (kn x):=CR (fun _=>trivial)
theorem G9{x:kC}{L:Nat}(h:L<36):bo Pg 4 ((kn x).drop L)=some (PVal.bool (x L)):=CT (show(Pg.underlying 4).any qV=true by kernel_rfl) h
theorem Ha{x:kC}{L:Nat}{v:Bool}(h:L<36):bE Pg 4 (.bptr 0 L) (PVal.bool v) [.cells (kn x) []]=some [.cells (kn (gV x L v)) []]:=EC HQ (by kernel_rfl) (fun _=>rfl) h (fun _=>rfl)
theorem Fe:Pg.cellsOf 52=3:=by kernel_rfl
theorem Gx:Pg.cellsOf 3=1:=by kernel_rfl
abbrev kl:=Nat->Int
def jd(x:kl):List PVal:=cN 3 (PVal.int .i64) x
abbrev qh(x:kl):PVal:=.agg (jd x)
theorem xW(x:kl):jP 0 (jd x):=CR (fun _=>trivial)
theorem zB(x:kl):(jd x).length=3:=q8
theorem ke(x:kl):bW (qh x)=some (jd x):=rfl
theorem Dr(x:kl):∀q∈jd x,q.one=true:=Fa (fun _=>rfl)
theorem Ed(x:kl):bo Pg 52 (jd x)=some (.agg (jd x)):=by
 have:=tK (P:=Pg) (t:=52) (l:=jd x) (r:=[]) (by kernel_rfl) (Fe.trans (zB x).symm)
 rwa[vbx]at this
theorem E1{x:kl}{L:Nat}(h:L<3):bo Pg 3 ((jd x).drop L)=some ((PVal.int .i64) (x L)):=CT (show(Pg.underlying 3).any qV=true by kernel_rfl) h
theorem dj(x0:Int)(x1:Int)(x2:Int):fy Pg 52 [(0,(PVal.int .i64) x0),(1,(PVal.int .i64) x1),(2,(PVal.int .i64) x2)]=some (.agg (jd (mF 0 [x0,x1,x2]))):=by kernel_rfl
theorem Hj:Pg.cellsOf 74=36:=by kernel_rfl
abbrev iQ:=Nat->Int
def bV(x:iQ):List PVal:=cN 36 (PVal.int .i64) x
abbrev FI(x:iQ):PVal:=.agg (bV x)
theorem rU(x:iQ):jP 0 (bV x):=CR (fun _=>trivial)
theorem Dp(x:iQ):(bV x).length=36:=q8
theorem wg(x:iQ):bW (FI x)=some (bV x):=rfl
theorem Ee(x:iQ):bo Pg 74 (bV x)=some (.agg (bV x)):=by
 have:=tK (P:=Pg) (t:=74) (l:=bV x) (r:=[]) (by kernel_rfl) (Hj.trans (Dp x).symm)
 rwa[vbx]at this
theorem D1{x:iQ}{L:Nat}(h:L<36):bo Pg 3 ((bV x).drop L)=some ((PVal.int .i64) (x L)):=CT (show(Pg.underlying 3).any qV=true by kernel_rfl) h
theorem Gk{x:iQ}{L:Nat}{v:Int}(h:L<36):bE Pg 3 (.bptr 0 L) ((PVal.int .i64) v) [.cells (bV x) []]=some [.cells (bV (gV x L v)) []]:=EC Gx (by kernel_rfl) (fun _=>rfl) h (fun _=>rfl)
theorem Gh{b off:Nat}{k:IntKind}{i:Int}{x:Nat}(h:pl 6 i=some x):dh Pg 45 (.bptr b off) (.int k i)=some (.bptr b (off+x * 1)):=za underlying45 (by kernel_rfl) HQ h
theorem Hh:Pg.cellsOf 45=6:=by kernel_rfl
theorem Gi{b off:Nat}{k:IntKind}{i:Int}{x:Nat}(h:pl 6 i=some x):dh Pg 46 (.bptr b off) (.int k i)=some (.bptr b (off+x * 6)):=za underlying46 (by kernel_rfl) Hh h
theorem E0{b off:Nat}{k:IntKind}{i:Int}{x:Nat}(h:pl 3 i=some x):dh Pg 52 (.bptr b off) (.int k i)=some (.bptr b (off+x * 1)):=za underlying52 (by kernel_rfl) Gx h
theorem BM{b off:Nat}{k:IntKind}{i:Int}{x:Nat}(h:pl 6 i=some x):dh Pg 72 (.bptr b off) (.int k i)=some (.bptr b (off+x * 1)):=za underlying72 (by kernel_rfl) Gx h
theorem Hi:Pg.cellsOf 72=6:=by kernel_rfl
theorem BN{b off:Nat}{k:IntKind}{i:Int}{x:Nat}(h:pl 6 i=some x):dh Pg 74 (.bptr b off) (.int k i)=some (.bptr b (off+x * 6)):=za underlying74 (by kernel_rfl) Hi h
theorem gp:yS Pg 22 43 am:=⟨underlying22,fun x=>(vV x).trans D7.symm,by kernel_rfl,by rw[D7];decide,by kernel_rfl,vbL (by kernel_rfl),Ds,aM⟩
theorem cQ:yS Pg 33 24 ac:=⟨underlying33,fun x=>(rl x).trans D6.symm,by kernel_rfl,by rw[D6];decide,by kernel_rfl,vbL (by kernel_rfl),AN,af⟩
theorem HS:Pg.cellsOf 9=1:=by kernel_rfl
theorem HR:Pg.cellsOf 5=1:=by kernel_rfl
theorem yI:yS Pg 71 52 jd:=⟨underlying71,fun x=>(zB x).trans Fe.symm,by kernel_rfl,by rw[Fe];decide,by kernel_rfl,vbL (by kernel_rfl),Dr,xW⟩
theorem z7:yS Pg 100 3 (cI .i64):=⟨underlying100,fun _=>Gx.symm,by kernel_rfl,by rw[Gx];decide,by kernel_rfl,vbL (by kernel_rfl),(Hn .i64),(Hg .i64)⟩
theorem H7:(Pg.underlying 3).any qV=true:=by kernel_rfl
theorem Ht:(Pg.underlying 33).any qV=true:=by kernel_rfl
theorem Ia:tN Pg 4=some (PVal.bool false):=by kernel_rfl
theorem GM:gj Pg 46=some (kn (q7 false)):=by kernel_rfl
theorem Hr:gj Pg 52=some (jd (q7 0)):=by kernel_rfl
theorem GN:gj Pg 74=some (bV (q7 0)):=by kernel_rfl
theorem qB:gj Pg 24=some [.str ([]:ah),.str ([]:ah),sl am ([]:List ag)]:=by kernel_rfl
theorem Hq:gj Pg 33=some [sl ac ([]:List aa)]:=by kernel_rfl
theorem DH:gj Pg 43=some [.int .i64 0,.int .i64 0,.bool false]:=by kernel_rfl
theorem Hs:gj Pg 56=some [.val (.map none)]:=by kernel_rfl
def aV:List ah:=[([97,110,100]:ah),([97,115,115,117,109,101]:ah),([98,111,111,108]:ah),([98,111,117,110,100]:ah),([99,97,115,101]:ah),([99,101,108,108]:ah),([99,108,97,115,115]:ah),([100,97,116,97]:ah),([100,101,102]:ah),([100,105,118]:ah),([101,108,115,101]:ah),([101,110,100]:ah),([102,97,108,115,101]:ah),([102,111,114,97,108,108]:ah),([102,117,110]:ah),([103,101,116]:ah),([105,102]:ah),([105,110]:ah),([105,110,115,116]:ah),([105,110,116]:ah),([105,110,118,97,114,105,97,110,116]:ah),([108,101,116]:ah),([109,97,116,99,104]:ah),([109,101,97,115,117,114,101]:ah),([109,101,116,114,105,99]:ah),([109,111,100]:ah),([109,117]:ah),([110,101,119]:ah),([110,111,116]:ah),([111,102]:ah),([111,114]:ah),([113,117,97,108]:ah),([114,101,102,108,101,99,116]:ah),([115,101,116]:ah),([116,104,101,110]:ah),([116,114,117,101]:ah),([117,115,101]:ah),([118]:ah),([118,97,108]:ah),([116,97,103]:ah),([119,104,101,114,101]:ah),([119,105,116,104]:ah)]
theorem Gt:Pg.cellsOf 101=42:=by kernel_rfl
theorem ms:bo Pg 101 (aV.map PVal.str)=some (.agg (aV.map PVal.str)):=by kernel_rfl
theorem sC{k:IntKind}{i:Int}{x:ah}(h:ep aV i=some x):oF Pg 101 (.agg (aV.map PVal.str)) (.int k i)=some (PVal.str x):=Gj underlying101 HS (by kernel_rfl) (by kernel_rfl) (by kernel_rfl) h
def fG:List Int:=[1,10,100,1000,10000,100000,1000000,10000000,100000000,1000000000,10000000000,100000000000,1000000000000,10000000000000,100000000000000,1000000000000000,10000000000000000,100000000000000000,1000000000000000000,10000000000000000000]
theorem Gu:Pg.cellsOf 115=20:=by kernel_rfl
theorem Hk:Pg.cellsOf 99=1:=by kernel_rfl
def nl:List Int:=[0,1,28,2,29,14,24,3,30,22,20,15,25,17,4,8,31,27,13,23,21,19,16,7,26,12,18,6,11,5,10,9]
theorem Gv:Pg.cellsOf 120=32:=by kernel_rfl
def nm:List Int:=[0,1,56,2,57,49,28,3,61,58,42,50,38,29,17,4,62,47,59,36,45,43,51,22,53,39,33,30,24,18,12,5,63,55,48,27,60,41,37,16,46,35,44,21,52,32,23,11,54,26,40,15,34,20,31,10,25,14,19,9,13,8,7,6]
theorem Gw:Pg.cellsOf 121=64:=by kernel_rfl
def GE:List (Nat×List PVal):=[(0,aV.map PVal.str),(1,fG.map (PVal.int .u64)),(2,nl.map (PVal.int .u8)),(3,nm.map (PVal.int .u8))]
theorem kj(A:List Nat){m:Nat}{c:Code}{sc:List It}{F:Prop}{e0:Exit}{st0 st:ak}(h:PS sc F)(he:F=nP Pg GE A m c sc st (FN e0 st0)):aL Pg GE m c (EX e0 st0) st:=Fm mixed h he
theorem yl(A:List Nat){m:Nat}{c:Code}{sc:List It}{F:Prop}{σ X:Type}{S:σ->ak}{ex:X->Exit}{so:X->ak}{s:σ}{st:ak}(h:PS sc F)(he:F=nP Pg GE A m c sc st (FN .normal (S s))):aL Pg GE m c (LQ S ex so (.inl s)) st:=GH mixed h he
theorem ny(A:List Nat){m:Nat}{c:Code}{sc:List It}{F:Prop}{σ X:Type}{S:σ->ak}{ex:X->Exit}{so:X->ak}{x:X}{st:ak}(hn:ex x≠.normal)(h:PS sc F)(he:F=nP Pg GE A m c sc st (FN (ex x) (so x))):aL Pg GE m c (LQ S ex so (.inr x)) st:=GK mixed hn h he
theorem cT(A:List Nat){f:FuncId}{fn:Func}{c:Code}{args:List PVal}{r:PVal}{ro:List (Nat×TypeId)}(hcall:∀vs w,(callFunc f vs).run Pg w=.ok (.enter f vs) w)(hfn:Pg.funcs[f]? =some fn)(hb:fn.body=some c)(hcl:jP 0 args){sc:List It}{F:Prop}(h:PS sc F)(he:F=nP Pg GE A 0 c sc ⟨args++List.replicate (fn.ntmps - args.length) .undef,[],[]⟩ (FR Pg fn.results.toList r ro)):CC Pg GE f args r ro:=C.evp mixed hcall hfn hb hcl h he
abbrev waA:=List aa
abbrev waB:=List ag
abbrev waC:=List ah
theorem Ec:∀n,(∀l,Sh Pg n 43 l->∃x,l=am x):=by
 intro n
 induction n using Nat.strongRecOn with
 | ind n ih =>
  cases n with
  |zero=>exact fun l h=>h.elim
  | succ n =>
   exact fun l h=>by
    unfold Sh at h
    rw[underlying43]at h
    obtain⟨a0,b0,rfl,_,h0,a1,b1,rfl,_,h1,a2,b2,rfl,_,h2,rfl⟩:=h
    obtain⟨x0,rfl⟩:=(Gz underlying3) n _ h0
    obtain⟨x1,rfl⟩:=(Gz underlying3) n _ h1
    obtain⟨x2,rfl⟩:=(Hl underlying4) n _ h2
    exact⟨(⟨x0,x1,x2⟩:ag),by rw[qo];rfl⟩
theorem B7:∀n,(∀l,Sh Pg n 24 l->∃x,l=ac x):=by
 intro n
 induction n using Nat.strongRecOn with
 | ind n ih =>
  cases n with
  |zero=>exact fun l h=>h.elim
  | succ n =>
   exact fun l h=>by
    unfold Sh at h
    rw[underlying24]at h
    obtain⟨a0,b0,rfl,_,h0,a1,b1,rfl,_,h1,a2,b2,rfl,_,h2,rfl⟩:=h
    obtain⟨x0,rfl⟩:=(GD underlying9) n _ h0
    obtain⟨x1,rfl⟩:=(GD underlying9) n _ h1
    obtain⟨x2,rfl⟩:=(GA underlying22 Ec) n _ h2
    exact⟨(⟨x0,x1,x2⟩:aa),by rw[db];rfl⟩
set_option linter.unusedSimpArgs false
section
variable{α:Type}
def yV(ord:α->α->Option Int)(x y:α):Bool:=match ord x y with
 |some r=>decide (r<0)
 |none=>false
def AE(lt:α->α->Bool)(x:α):List α->List α
 |[]=>[x]
 |y::r=>if lt y x=true then y::AE lt x r else x::y::r
def pN(lt:α->α->Bool):List α->List α
 |[]=>[]
 |x::r=>AE lt x (pN lt r)
structure CJ(lt:α->α->Bool)(S:α->Prop):Prop where
 irr:∀x,S x->lt x x=false
 trans:∀x y z,S x->S y->S z->lt x y=true->lt y z=true->lt x z=true
 ntrans:∀x y z,S x->S y->S z->lt x y=false->lt y z=false->lt x z=false
 tot:∀x y,S x->S y->lt x y=false->lt y x=false->x=y
theorem td(lt:α->α->Bool)(x:α):∀l,(AE lt x l).Perm (x::l)
 |[]=>.refl _
 | y :: r => by
  unfold AE
  split
  ·exact((td lt x r).cons y).trans (List.Perm.swap x y r)
  ·exact .refl _
theorem iH(lt:α->α->Bool):∀l,(pN lt l).Perm l
 |[]=>.refl _
 |x::r=>(td lt x (pN lt r)).trans ((iH lt r).cons x)
abbrev nc(lt:α->α->Bool)(l:List α):Prop:=l.Pairwise fun x y=>lt y x=false
theorem ud{lt:α->α->Bool}{S:α->Prop}(h:CJ lt S)(x:α)(hx:S x):∀{l},(∀y∈l,S y)->nc lt l->nc lt (AE lt x l)
 |[],_,_=>by simp[AE,nc]
 | y :: r,hS,hs => by
  unfold nc at hs ⊢
  have h':=vaV.1 hs
  have hy:=hS y (by simp)
  have hr:∀z∈r,S z:=fun z hz=>hS z (by simp[hz])
  unfold AE
  split
  ·rename_i hyx
   rw[vaV]
   refine⟨fun z hz=>?_,ud h x hx hr h'.2⟩
   rcases vay.1 ((td lt x r).mem_iff.1 hz)with rfl|hz
   ·cases hc:lt z y with
    |false=>rfl
    |true=>
     have:=h.trans _ _ _ hy hx hy hyx hc
     rw[h.irr _ hy]at this;cases this
   ·exact h'.1 z hz
  ·rename_i hyx
   have hyx:lt y x=false:=by simpa using hyx
   rw[vaV]
   refine⟨fun z hz=>?_,hs⟩
   rcases vay.1 hz with rfl|hz
   ·exact hyx
   ·exact h.ntrans _ _ _ (hr z hz) hy hx (h'.1 z hz) hyx
theorem mJ{lt:α->α->Bool}{S:α->Prop}(h:CJ lt S):∀{l},(∀y∈l,S y)->nc lt (pN lt l)
 |[],_=>by simp[pN,nc]
 |x::r,hS=>by
  unfold pN
  exact ud h x (hS x (by simp)) (fun y hy=>hS y (by have:=(iH lt r).mem_iff.1 hy;simp[this])) (mJ h fun y hy=>hS y (by simp[hy]))
theorem qd{lt:α->α->Bool}{S:α->Prop}(h:CJ lt S):∀{l r:List α},(∀y∈l,S y)->l.Perm r->nc lt l->nc lt r->l=r
 |[],r,_,hp,_,_=>(List.Perm.nil_eq hp)
 | x :: l,r,hS,hp,hl,hr => by
  cases r with
  |nil=>exact absurd hp.length_eq (by simp)
  | cons y r =>
   have hl':=vaV.1 hl
   have hr':=vaV.1 hr
   have hxS:=hS x (by simp)
   have hyS:=hS y (hp.mem_iff.2 (by simp))
   have hxy:x=y:=by
    have h1:x∈y::r:=hp.mem_iff.1 (by simp)
    have h2:y∈x::l:=hp.mem_iff.2 (by simp)
    rcases vay.1 h1 with h1|h1
    ·exact h1
    ·rcases vay.1 h2 with h2|h2
     ·exact h2.symm
     ·exact h.tot _ _ hxS hyS (hr'.1 x h1) (hl'.1 y h2)
   subst hxy
   rw[qd h (fun z hz=>hS z (by simp[hz])) hp.cons_inv hl'.2 hr'.2]
end
section
variable{α:Type}[DecidableEq α]
def FY(ord:α->α->Option Int)(l:List α):Bool:=
 decide (l.length<=dT)&&(l.all (fun x=>l.all fun y=>(ord x y).isSome)&&(l.all (fun x=>!yV ord x x)&&
 (l.all (fun x=>l.all fun y=>l.all fun z=>(!(yV ord x y&&yV ord y z)||yV ord x z)&&((yV ord x y||yV ord y z)||!yV ord x z))&&
 l.all fun x=>l.all fun y=>yV ord x y||(yV ord y x||decide (x=y)))))
def qW(ord:α->α->Option Int)(l:List α):Option (List α):=if FY ord l=true then some (pN (yV ord) l)else none
theorem wc{ord:α->α->Option Int}{l:List α}(h:FY ord l=true):l.length<=dT/\(∀x∈l,∀y∈l,∃r,ord x y=some r)/\CJ (yV ord) (·∈l):=by
  unfold FY at h
  simp only[vac,vaf,van,vaM,vaH]at h
  obtain⟨h1,h2,h3,h4,h5⟩:=h
  refine⟨h1,fun x hx y hy=>vaz.1 (h2 x hx y hy),fun x hx=>h3 x hx,fun x y z hx hy hz a b=>?_,fun x y z hx hy hz a b=>?_,fun x y hx hy a b=>?_⟩
  · rcases (h4 x hx y hy z hz).1 with h | h
    ·rw[a,b]at h;cases h
    ·exact h
  · rcases (h4 x hx y hy z hz).2 with (h | h) | h
    ·rw[a]at h;cases h
    ·rw[b]at h;cases h
    ·exact h
  · rcases h5 x hx y hy with h | h | h
    ·rw[a]at h;cases h
    ·rw[b]at h;cases h
    ·exact h
theorem yM{ord:α->α->Option Int}{l r l':List α}(h:qW ord l=some r)(hp:l'.Perm l)(hs:nc (yV ord) l'):l'=r:=by
 unfold qW at h
 split at h
 ·rename_i hk
  cases h
  obtain⟨_,_,ho⟩:=wc hk
  exact qd ho (fun y hy=>hp.mem_iff.1 hy) (hp.trans (iH _ l).symm) hs (mJ ho fun y hy=>hy)
 ·cases h
theorem DP{ord:α->α->Option Int}{l r:List α}(h:qW ord l=some r):FY ord l=true/\r.length=l.length:=by
 unfold qW at h
 split at h
 ·rename_i hk
  cases h
  exact⟨hk,(iH _ l).length_eq⟩
 ·cases h
end
theorem cR{n:Int}(h1: -9223372036854775808<=n)(h2:n<9223372036854775808):bU n=n:=FJ h1 h2
theorem d9{α:Type}(l:List α)(i:Nat)(h:i<l.length):ep l (i:Int)=some l[i]:=by
 unfold ep
 rw[vae (by omega)]
 simp[h]
theorem ie(l:ah)(i:Nat)(h:i<l.length):g5 l (i:Int)=some ((l[i].toNat:Int)):=by
 unfold g5;rw[d9 l i h];rfl
theorem nj(c:UInt8)(l:ah):g5 (c::l) 0=some (c.toNat:Int):=by
 have:=ie (c::l) 0 (by simp)
 simpa using this
theorem Dh{α:Type}(c:α)(l:List α):ep (c::l) 0=some c:=by
 have:=d9 (c::l) 0 (by simp)
 simpa using this
theorem AY{α:Type}(l:List α)(i:Nat)(h:i<=l.length):Aa l none (some (i:Int))=some (l.take i):=by
 simp[Aa,bd,h]
theorem sV{α:Type}(l:List α)(i:Nat)(h:i<=l.length):Aa l (some (i:Int)) none=some (l.drop i):=by
 simp[Aa,bd,h]
theorem mE{α:Type}{l r:List α}(h:l.length+r.length<=1073741824):app l r=some (l++r):=vae h
theorem pH{l r:ah}(h:l.length+r.length<=4611686018427387904):CW l r=some (l++r):=vae h
theorem dc{σ X:Type}{body:σ->Option (σ⊕X)}{s s':σ}(h:body s=some (.inl s')):loop body s=loop body s':=by rw[uM,h]
theorem aK{σ X:Type}{body:σ->Option (σ⊕X)}{s:σ}{x:X}(h:body s=some (.inr x)):loop body s=some x:=by rw[uM,h]
def kh{α σ X:Type}(f:Nat->α->σ->σ⊕X)(e:σ->X):List α->Nat->σ->X
 |[],_,s=>e s
 |x::r,i,s=>match f i x s with
  |.inl s'=>kh f e r (i+1) s'
  |.inr y=>y
theorem nk{α σ τ X:Type}(l:List α)(hl:l.length<9223372036854775808)(mk:Int->σ->τ)(body:τ->Option (τ⊕X))(I:Nat->σ->Prop)(f:Nat->α->σ->σ⊕X)(e:σ->X)
  (hin:∀(i:Nat) (h:i<l.length) s,I i s->body (mk i s)=some (match f i l[i] s with|.inl s'=>.inl (mk (bU ((i:Int)+1)) s')|.inr y=>.inr y)/\∀s',f i l[i] s=.inl s'->I (i+1) s')
  (hend:∀s,I l.length s->body (mk l.length s)=some (.inr (e s))):∀(i:Nat) (s:σ),i<=l.length->I i s->loop body (mk i s)=some (kh f e (l.drop i) i s):=by
 intro i s hi hI
 obtain⟨k,hk⟩:∃k,k+i=l.length:=⟨l.length - i,by omega⟩
 induction k generalizing i s with
 |zero=>
  have:i=l.length:=by omega
  subst this
  rw[uM,hend s hI,List.drop_length]
  rfl
 | succ k ih =>
  have hlt:i<l.length:=by omega
  obtain⟨h1,h2⟩:=hin i hlt s hI
  rw[uM,h1,vba hlt]
  unfold kh
  cases hf:f i l[i] s with
  |inl s'=>
   simp only
   rw[cR (by omega) (by omega)]
   have:=ih (i+1) s' (by omega) (h2 s' hf) (by omega)
   rw[show((i:Int)+1)=((i+1:Nat):Int) by omega]
   exact this
  |inr y=>rfl
theorem z6{α X:Type}(p:α->Bool)(y e:X):∀(l:List α) (i:Nat),kh (fun _ x (_:Unit)=>if p x=true then Sum.inr y else .inl ()) (fun _=>e) l i ()=if l.any p=true then y else e
 |[],i=>by simp[kh]
 | x :: l,i => by
  have ih:=z6 p y e l (i+1)
  unfold kh
  by_cases h:p x=true
  ·simp[h]
  ·simp only[h,if_false,ih,List.any_cons,vck,var]
theorem ig{α X:Type}(l:List α)(hl:l.length<9223372036854775808)(body:Int->Option (Int⊕X))(p:α->Bool)(y e:X)
  (hin:∀(i:Nat) (h:i<l.length),body i=some (if p l[i]=true then .inr y else .inl (bU ((i:Int)+1)))) (hend:body l.length=some (.inr e)) (i:Nat) (hi:i<=l.length):
  loop body (i:Int)=some (if(l.drop i).any p=true then y else e):=by
 have:=nk l hl (fun i (_:Unit)=>i) body (fun _ _=>True) (fun _ x _=>if p x=true then Sum.inr y else .inl ()) (fun _=>e) (fun i h s _=>⟨?_,fun _ _=>trivial⟩) (fun s _=>hend) i () hi trivial
 ·rw[this,z6]
 ·rw[hin i h]
  by_cases hp:p l[i]=true<;>simp[hp]
theorem xC{α X:Type}(p:α->Bool)(y:Nat->X)(e:X):∀(l:List α) (i:Nat),kh (fun j x (_:Unit)=>if p x=true then Sum.inr (y j)else .inl ()) (fun _=>e) l i ()=match l.findIdx? p with|some j=>y (i+j)|none=>e
 |[],i=>by simp[kh]
 | x :: l,i => by
  have ih:=xC p y e l (i+1)
  unfold kh
  rw[List.findIdx?_cons]
  by_cases h:p x=true
  ·simp[h]
  ·simp only[h,if_false,ih,var]
   cases l.findIdx? p with
   |none=>rfl
   |some j=>simp only[vaj];congr 1;omega
theorem te{α X:Type}(l:List α)(hl:l.length<9223372036854775808)(body:Int->Option (Int⊕X))(p:α->Bool)(y:Nat->X)(e:X)
  (hin:∀(i:Nat) (h:i<l.length),body i=some (if p l[i]=true then .inr (y i)else .inl (bU ((i:Int)+1)))) (hend:body l.length=some (.inr e)):
  loop body (0:Int)=some (match l.findIdx? p with|some j=>y j|none=>e):=by
 have:=nk l hl (fun i (_:Unit)=>i) body (fun _ _=>True) (fun j x _=>if p x=true then Sum.inr (y j)else .inl ()) (fun _=>e) (fun i h s _=>⟨?_,fun _ _=>trivial⟩) (fun s _=>hend) 0 () (vaJ _) trivial
 ·simp only[Int.ofNat_zero,vbe]at this
  have this2:=xC p y e l 0
  simp only[vaB]at this2
  rw[<-this2]
  exact this
 ·rw[hin i h]
  by_cases hp:p l[i]=true<;>simp[hp]
section
variable{α β σ τ X Y:Type}
theorem iI(l:List α)(hl:l.length<9223372036854775808)(body:Int->Option (Int⊕X))(k:Int->α->Option (Int⊕X))(p:α->Bool)(y e:X)
  (hb:∀(i:Int),body i=if decide (i<(l.length:Int))=true then(ep l i).bind (k i)else some (.inr e))
  (hk:∀x∈l,∀i,k i x=some (if p x=true then .inr y else .inl (bU (i+1)))):loop body 0=some (if l.any p=true then y else e):=by
 have:=ig l hl body p y e (fun i hi=>?_) (by rw[hb,vag (by simp)]) 0 (vaJ _)
 ·rw[vbe]at this
  exact this
 ·rw[hb,vae (by simp;omega),d9 l i hi]
  simp only[vaa]
  exact hk _ (vaO hi) i
theorem AJ(l:List α)(hl:l.length<9223372036854775808)(body:Int->Option (Int⊕(Int⊕Unit)))(k:Int->α->Option (Int⊕(Int⊕Unit)))(p:α->Bool)
  (hb:∀(i:Int),body i=if decide (i<(l.length:Int))=true then(ep l i).bind (k i)else some (.inr (.inr ())))
  (hk:∀x∈l,∀i,k i x=some (if p x=true then .inr (.inl i)else .inl (bU (i+1)))):loop body 0=some (match l.findIdx? p with|some j=>.inl (j:Int)|none=>.inr ()):=by
 refine te l hl body p (fun j=>.inl (j:Int)) (.inr ()) (fun i hi=>?_) (by rw[hb,vag (by simp)])
 rw[hb,vae (by simp;omega),d9 l i hi]
 simp only[vaa]
 exact hk _ (vaO hi) i
theorem rp(l:List α)(hl:l.length<9223372036854775808)(mk:Int->σ->τ)(body:τ->Option (τ⊕X))(k:Int->σ->α->Option (τ⊕X))(I:Nat->σ->Prop)(g:α->σ->σ)(e:σ->X)(s0:σ)(h0:I 0 s0)
  (hb:∀(i:Int) (s:σ),body (mk i s)=if decide (i<(l.length:Int))=true then(ep l i).bind (k i s)else some (.inr (e s)))
  (hin:∀(i:Nat) (h:i<l.length) s,I i s->k i s l[i]=some (.inl (mk (bU ((i:Int)+1)) (g l[i] s)))/\I (i+1) (g l[i] s)):loop body (mk 0 s0)=some (e (l.foldl (fun s x=>g x s) s0)):=by
 have:=nk l hl mk body I (fun _ x s=>.inl (g x s)) e (fun i h s hs=>⟨?_,fun s' hs'=>by cases hs';exact(hin i h s hs).2⟩) (fun s hs=>by rw[hb,vag (by simp)]) 0 s0 (vaJ _) h0
 ·rw[vbe,show((0:Nat):Int)=0 from rfl]at this
  rw[this]
  have key:∀(l:List α) (i:Nat) (s:σ),kh (fun _ x (s:σ)=>(Sum.inl (g x s):σ⊕X)) e l i s=e (l.foldl (fun s x=>g x s) s):=by
   intro l
   induction l with
   |nil=>intro i s;rfl
   |cons x l ih=>intro i s;unfold kh;simp only;rw[ih];rfl
  rw[key]
 ·rw[hb,vae (by simp;omega),d9 l i h]
  simp only[vaa]
  exact(hin i h s hs).1
end
theorem rn{σ X:Type}(n:Nat)(body:σ->Option (σ⊕X))(S:Nat->σ)(e:X)(hin:∀i,i<n->body (S i)=some (.inl (S (i+1))))(hend:body (S n)=some (.inr e)):loop body (S 0)=some e:=by
 have key:∀k i,k+i=n->loop body (S i)=some e:=by
  intro k
  induction k with
  |zero=>
   intro i hi
   have:i=n:=by omega
   subst this
   exact aK hend
  |succ k ih=>
   intro i hi
   rw[dc (hin i (by omega))]
   exact ih (i+1) (by omega)
 exact key n 0 (by omega)
def B8(X:Nat->Int):Prop:=∀L,X L=0\/X L=1\/X L=2
def mx(a b:Int):Int:=if b>a then b else a
def vg(X Y:Nat->Int)(f t m:Nat)(b:Int):Int:=if X (f * 6+m)>0/\Y (m * 6+t)>0 then mx (mx b (X (f * 6+m))) (Y (m * 6+t))else b
def xk(X Y:Nat->Int)(f t:Nat):Nat->Int
 |0=>0
 |m+1=>vg X Y f t m (xk X Y f t m)
theorem Bz(a b:Int):a<=mx a b/\b<=mx a b/\(mx a b=a\/mx a b=b):=by unfold mx;split<;>omega
theorem H6{a x y:Int}(ha:a=0\/a=1\/a=2)(hx:x=0\/x=1\/x=2)(hy:y=0\/y=1\/y=2)(h1:x>0)(h2:y>0):(mx (mx a x) y=0\/mx (mx a x) y=1\/mx (mx a x) y=2)/\mx (mx a x) y>0/\(mx (mx a x) y=2↔a=2\/x=2\/y=2):=by
 have s1:=Bz a x
 have s2:=Bz (mx a x) y
 omega
theorem ib{X Y:Nat->Int}(hX:B8 X)(hY:B8 Y)(f t:Nat):∀n,(xk X Y f t n=0\/xk X Y f t n=1\/xk X Y f t n=2)/\(xk X Y f t n>0↔∃m,m<n/\X (f * 6+m)>0/\Y (m * 6+t)>0)/\
  (xk X Y f t n=2↔∃m,m<n/\X (f * 6+m)>0/\Y (m * 6+t)>0/\(X (f * 6+m)=2\/Y (m * 6+t)=2))
 | 0 => by
  refine⟨.inl rfl,⟨fun h=>?_,fun⟨m,h,_⟩=>absurd h (vaI _)⟩,⟨fun h=>?_,fun⟨m,h,_⟩=>absurd h (vaI _)⟩⟩
  ·simp[xk]at h
  ·simp[xk]at h
 | n + 1 => by
  obtain⟨h1,h2,h3⟩:=ib hX hY f t n
  have hx:=hX (f * 6+n)
  have hy:=hY (n * 6+t)
  unfold xk vg
  by_cases hc:X (f * 6+n)>0/\Y (n * 6+t)>0
  ·rw[vae hc]
   obtain⟨m1,m2,m3⟩:=H6 h1 hx hy hc.1 hc.2
   refine⟨m1,⟨fun _=>⟨n,vb6 n,hc.1,hc.2⟩,fun _=>m2⟩,m3.trans ⟨fun h=>?_,fun⟨m,hm,a,b,hh⟩=>?_⟩⟩
   ·rcases h with h|h
    ·obtain⟨m,hm,hh⟩:=h3.1 h
     exact⟨m,Nat.lt_succ_of_lt hm,hh⟩
    ·exact⟨n,vb6 n,hc.1,hc.2,h⟩
   ·by_cases hmn:m=n
    ·subst hmn;exact .inr hh
    ·exact .inl (h3.2 ⟨m,by omega,a,b,hh⟩)
  ·rw[vag hc]
   refine⟨h1,h2.trans ⟨fun⟨m,hm,hh⟩=>⟨m,by omega,hh⟩,fun⟨m,hm,a,b⟩=>?_⟩,h3.trans ⟨fun⟨m,hm,hh⟩=>⟨m,by omega,hh⟩,fun⟨m,hm,a,b,hh⟩=>?_⟩⟩
   ·by_cases hmn:m=n
    ·subst hmn;exact absurd ⟨a,b⟩ hc
    ·exact⟨m,by omega,a,b⟩
   ·by_cases hmn:m=n
    ·subst hmn;exact absurd ⟨a,b⟩ hc
    ·exact⟨m,by omega,a,b,hh⟩
def jl(X Y:Nat->Int)(L:Nat):Int:=if L<36 then xk X Y (L / 6) (L % 6) 6 else 0
theorem jm{X Y:Nat->Int}{f t:Nat}(hf:f<6)(ht:t<6):jl X Y (f * 6+t)=xk X Y f t 6:=by
 unfold jl
 rw[vae (by omega),show(f * 6+t) / 6=f by omega,show(f * 6+t) % 6=t by omega]
theorem su{X Y:Nat->Int}(hX:B8 X)(hY:B8 Y):B8 (jl X Y):=fun L=>by
 unfold jl
 split
 ·exact(ib hX hY _ _ 6).1
 ·exact .inl rfl
def zp(X Y:Nat->Int):Prop:=∀f t,f<6->t<6->X (f * 6+t)=Y (f * 6+t)
theorem Fh{a b:Int}(ha:a=0\/a=1\/a=2)(hb:b=0\/b=1\/b=2)(h1:a>0↔b>0)(h2:a=2↔b=2):a=b:=by omega
theorem v6{X X' Y Y':Nat->Int}(h1:zp X X')(h2:zp Y Y'):zp (jl X Y) (jl X' Y'):=fun f t hf ht=>by
 rw[jm hf ht,jm hf ht]
 have key:∀n,n<=6->xk X Y f t n=xk X' Y' f t n:=by
  intro n
  induction n with
  |zero=>intro _;rfl
  |succ n ih=>
   intro hn
   unfold xk vg
   rw[ih (by omega),h1 f n hf (by omega),h2 n t (by omega) ht]
 exact key 6 (vap _)
theorem AK{X Y Z:Nat->Int}(hX:B8 X)(hY:B8 Y)(hZ:B8 Z):zp (jl (jl X Y) Z) (jl X (jl Y Z)):=fun f t hf ht=>by
 rw[jm hf ht,jm hf ht]
 have hXY:=su hX hY
 have hYZ:=su hY hZ
 obtain⟨a1,a2,a3⟩:=ib hXY hZ f t 6
 obtain⟨b1,b2,b3⟩:=ib hX hYZ f t 6
 have pXY:∀m,m<6->(jl X Y (f * 6+m)>0↔∃k,k<6/\X (f * 6+k)>0/\Y (k * 6+m)>0):=fun m hm=>by rw[jm hf hm];exact(ib hX hY f m 6).2.1
 have tXY:∀m,m<6->(jl X Y (f * 6+m)=2↔∃k,k<6/\X (f * 6+k)>0/\Y (k * 6+m)>0/\(X (f * 6+k)=2\/Y (k * 6+m)=2)):=fun m hm=>by rw[jm hf hm];exact(ib hX hY f m 6).2.2
 have pYZ:∀k,k<6->(jl Y Z (k * 6+t)>0↔∃m,m<6/\Y (k * 6+m)>0/\Z (m * 6+t)>0):=fun k hk=>by rw[jm hk ht];exact(ib hY hZ k t 6).2.1
 have tYZ:∀k,k<6->(jl Y Z (k * 6+t)=2↔∃m,m<6/\Y (k * 6+m)>0/\Z (m * 6+t)>0/\(Y (k * 6+m)=2\/Z (m * 6+t)=2)):=fun k hk=>by rw[jm hk ht];exact(ib hY hZ k t 6).2.2
 refine Fh a1 b1 (a2.trans (Iff.trans ?_ b2.symm)) (a3.trans (Iff.trans ?_ b3.symm))
 ·constructor
  ·rintro⟨m,hm,h1,h2⟩
   obtain⟨k,hk,h3,h4⟩:=(pXY m hm).1 h1
   exact⟨k,hk,h3,(pYZ k hk).2 ⟨m,hm,h4,h2⟩⟩
  ·rintro⟨k,hk,h1,h2⟩
   obtain⟨m,hm,h3,h4⟩:=(pYZ k hk).1 h2
   exact⟨m,hm,(pXY m hm).2 ⟨k,hk,h1,h3⟩,h4⟩
 ·constructor
  ·rintro⟨m,hm,h1,h2,h5⟩
   rcases h5 with h5|h5
   ·obtain⟨k,hk,h3,h4,h6⟩:=(tXY m hm).1 h5
    refine⟨k,hk,h3,(pYZ k hk).2 ⟨m,hm,h4,h2⟩,?_⟩
    rcases h6 with h6|h6
    ·exact .inl h6
    ·exact .inr ((tYZ k hk).2 ⟨m,hm,h4,h2,.inl h6⟩)
   ·obtain⟨k,hk,h3,h4⟩:=(pXY m hm).1 h1
    exact⟨k,hk,h3,(pYZ k hk).2 ⟨m,hm,h4,h2⟩,.inr ((tYZ k hk).2 ⟨m,hm,h4,h2,.inr h5⟩)⟩
  ·rintro⟨k,hk,h1,h2,h5⟩
   rcases h5 with h5|h5
   ·obtain⟨m,hm,h3,h4⟩:=(pYZ k hk).1 h2
    exact⟨m,hm,(pXY m hm).2 ⟨k,hk,h1,h3⟩,h4,.inl ((tXY m hm).2 ⟨k,hk,h1,h3,.inl h5⟩)⟩
   ·obtain⟨m,hm,h3,h4,h6⟩:=(tYZ k hk).1 h5
    refine⟨m,hm,(pXY m hm).2 ⟨k,hk,h1,h3⟩,h4,?_⟩
    rcases h6 with h6|h6
    ·exact .inl ((tXY m hm).2 ⟨k,hk,h1,h3,.inr h6⟩)
    ·exact .inr h6
def rg(x:ag):Prop:=0<=x.From/\x.From<6/\0<=x.To/\x.To<6
instance(x:ag):Decidable (rg x):=by unfold rg;infer_instance
def ix(x:ag):Nat:=x.From.toNat * 6+x.To.toNat
def wt(x:ag):Int:=if x.Strict=true then 2 else 1
def yn(l:List ag):Prop:=(∀x∈l,rg x)/\l.Pairwise fun x y=>ix x<ix y
def yO:List ag->(Nat->Int)->(Nat->Int)
 |[],m=>m
 |x::r,m=>yO r (gV m (ix x) (wt x))
def eN(l:List ag):Nat->Int:=yO l (q7 0)
theorem GF{x:ag}(h:rg x):ix x<36:=by unfold rg at h;unfold ix;omega
theorem wI(x:ag):wt x=1\/wt x=2:=by unfold wt;split<;>simp
theorem tQ:∀(l:List ag) (m:Nat->Int) (L:Nat),(∀x∈l,ix x≠L)->yO l m L=m L
 |[],_,_,_=>rfl
 |x::r,m,L,h=>by
  unfold yO
  rw[tQ r _ L fun y hy=>h y (by simp[hy])]
  unfold gV
  rw[vag (fun e=>h x (by simp) e.symm)]
theorem xF:∀(l:List ag) (m:Nat->Int),(l.Pairwise fun x y=>ix x<ix y)->∀x∈l,yO l m (ix x)=wt x
 |[],_,_,x,h=>by cases h
 | y :: r,m,hp,x,h => by
  obtain⟨h1,h2⟩:=vaV.1 hp
  unfold yO
  rcases vay.1 h with rfl|h
  ·rw[tQ r _ _ fun z hz=>by have:=h1 z hz;omega]
   unfold gV;rw[vae rfl]
  ·exact xF r _ h2 x h
theorem Ac:∀(l:List ag) (m:Nat->Int),B8 m->B8 (yO l m)
 |[],_,h=>h
 | x :: r,m,h => by
  unfold yO
  refine Ac r _ fun L=>?_
  unfold gV
  split
  ·have:=wI x;omega
  ·exact h L
theorem ki(l:List ag):B8 (eN l):=Ac l _ fun L=>.inl rfl
theorem qg{l:List ag}(h:yn l){x:ag}(hx:x∈l):eN l (ix x)=wt x:=xF l _ h.2 x hx
theorem wF{l:List ag}{L:Nat}(h:eN l L>0):∃x∈l,ix x=L:=by
 by_cases hc:∃x∈l,ix x=L
 ·exact hc
 ·have:eN l L=0:=by
   unfold eN
   rw[tQ l _ L fun x hx e=>hc ⟨x,hx,e⟩]
   rfl
  omega
def ku(M:Nat->Int)(L:Nat):ag:=⟨(L / 6:Nat),(L % 6:Nat),M L==2⟩
def j3(M:Nat->Int):List ag:=(List.range 36).filterMap fun L=>if M L>0 then some (ku M L)else none
theorem sm(M:Nat->Int)(L:Nat):ix (ku M L)=L:=by
 unfold ix ku
 simp only[Int.toNat_natCast]
 omega
theorem nn{M:Nat->Int}{x:ag}:x∈j3 M↔∃L,L<36/\M L>0/\x=ku M L:=by
 unfold j3
 rw[vbE]
 constructor
 ·rintro⟨L,hL,hx⟩
  split at hx
  ·cases hx;exact⟨L,va9.1 hL,by assumption,rfl⟩
  ·cases hx
 ·rintro⟨L,hL,hp,rfl⟩
  exact⟨L,va9.2 hL,by rw[vae hp]⟩
theorem tG(M:Nat->Int):yn (j3 M):=by
 refine⟨fun x hx=>?_,?_⟩
 ·obtain⟨L,hL,_,rfl⟩:=nn.1 hx
  unfold rg ku
  simp only
  omega
 ·unfold j3
  rw[List.pairwise_filterMap]
  refine List.Pairwise.imp ?_ List.pairwise_lt_range
  intro a b hab x hx y hy
  split at hx
  ·split at hy
   ·cases hx;cases hy;rw[sm,sm];exact hab
   ·cases hy
  ·cases hx
theorem DR{M:Nat->Int}(h:B8 M){L:Nat}(hp:M L>0):wt (ku M L)=M L:=by
 unfold wt ku
 have:=h L
 by_cases h2:M L=2
 ·simp[h2]
 ·have h3:M L=1:=by omega
  simp[h3]
theorem xG{M:Nat->Int}(h:B8 M):zp (eN (j3 M)) M:=fun f t hf ht=>by
 by_cases hp:M (f * 6+t)>0
 ·have hm:ku M (f * 6+t)∈j3 M:=nn.2 ⟨f * 6+t,by omega,hp,rfl⟩
  have:=qg (tG M) hm
  rw[sm,DR h hp]at this
  exact this
 ·have h0:M (f * 6+t)=0:=by have:=h (f * 6+t);omega
  rw[h0]
  by_cases hq:eN (j3 M) (f * 6+t)>0
  ·obtain⟨x,hx,hxi⟩:=wF hq
   obtain⟨L,hL,hpL,rfl⟩:=nn.1 hx
   rw[sm]at hxi
   subst hxi
   exact absurd hpL hp
  ·have:=ki (j3 M) (f * 6+t);omega
theorem Br{α:Type}(f:α->Nat):∀{l r:List α},l.Pairwise (fun x y=>f x<f y)->r.Pairwise (fun x y=>f x<f y)->(∀x,x∈l↔x∈r)->l=r
 |[],[],_,_,_=>rfl
 |[],y::r,_,_,h=>by have:=(h y).2 (by simp);cases this
 |x::l,[],_,_,h=>by have:=(h x).1 (by simp);cases this
 | x :: l,y :: r,hl,hr,h => by
  obtain⟨l1,l2⟩:=vaV.1 hl
  obtain⟨r1,r2⟩:=vaV.1 hr
  have hxy:x=y:=by
   have h1:=(h x).1 (by simp)
   have h2:=(h y).2 (by simp)
   rcases vay.1 h1 with h1|h1
   ·exact h1
   ·rcases vay.1 h2 with h2|h2
    ·exact h2.symm
    ·have:=r1 x h1;have:=l1 y h2;omega
  subst hxy
  rw[Br f l2 r2 fun z=>⟨fun hz=>?_,fun hz=>?_⟩]
  ·rcases vay.1 ((h z).1 (by simp[hz]))with rfl|hh
   ·exact absurd (l1 z hz) (vbz _)
   ·exact hh
  ·rcases vay.1 ((h z).2 (by simp[hz]))with rfl|hh
   ·exact absurd (r1 z hz) (vbz _)
   ·exact hh
theorem y6{l:List ag}(h:yn l){x:ag}(hx:x∈l):ku (eN l) (ix x)=x:=by
 obtain⟨a,b,c,d⟩:=h.1 x hx
 have hw:=qg h hx
 unfold ku
 rw[hw]
 have e1:((ix x / 6:Nat):Int)=x.From:=by unfold ix;omega
 have e2:((ix x % 6:Nat):Int)=x.To:=by unfold ix;omega
 obtain⟨xf,xt,xs⟩:=x
 simp only at e1 e2 ⊢
 rw[e1,e2]
 unfold wt
 cases xs<;>rfl
theorem BO{l:List ag}(h:yn l):j3 (eN l)=l:=by
 refine Br ix (tG _).2 h.2 fun x=>⟨fun hx=>?_,fun hx=>?_⟩
 ·obtain⟨L,hL,hp,rfl⟩:=nn.1 hx
  obtain⟨y,hy,rfl⟩:=wF hp
  rw[y6 h hy];exact hy
 ·refine nn.2 ⟨ix x,GF (h.1 x hx),?_,(y6 h hx).symm⟩
  rw[qg h hx]
  have:=wI x;omega
theorem zw{α β:Type}{f g:α->Option β}:∀{l:List α},(∀x∈l,f x=g x)->l.filterMap f=l.filterMap g
 |[],_=>rfl
 |x::l,h=>by rw[List.filterMap_cons,List.filterMap_cons,h x (by simp),zw fun y hy=>h y (by simp[hy])]
theorem y7{M M':Nat->Int}(h:zp M M'):j3 M=j3 M':=by
 unfold j3
 refine zw fun L hL=>?_
 have hL':=va9.1 hL
 have:=h (L / 6) (L % 6) (by omega) (by omega)
 rw[show L / 6 * 6+L % 6=L by omega]at this
 unfold ku
 rw[this]
def bK(a b:aa):aa:=⟨a.Caller,b.Callee,j3 (jl (eN a.Arcs) (eN b.Arcs))⟩
theorem zk(a b c:aa):bK (bK a b) c=bK a (bK b c):=by
 unfold bK
 simp only
 congr 1
 have hA:=ki a.Arcs;have hB:=ki b.Arcs;have hC:=ki c.Arcs
 have e1:zp (jl (eN (j3 (jl (eN a.Arcs) (eN b.Arcs)))) (eN c.Arcs)) (jl (jl (eN a.Arcs) (eN b.Arcs)) (eN c.Arcs)):=v6 (xG (su hA hB)) fun _ _ _ _=>rfl
 have e2:zp (jl (eN a.Arcs) (eN (j3 (jl (eN b.Arcs) (eN c.Arcs))))) (jl (eN a.Arcs) (jl (eN b.Arcs) (eN c.Arcs))):=v6 (fun _ _ _ _=>rfl) (xG (su hB hC))
 have e3:=AK hA hB hC
 exact y7 fun f t hf ht=>(e1 f t hf ht).trans ((e3 f t hf ht).trans (e2 f t hf ht).symm)
end Go.Proofs.YtoficachfgggjaaDoor
namespace Go.Proofs
open Go.Shelf
noncomputable def Tryd.laysM171_ren : Go.Shelf.Ren := ⟨fun | 171 => 31 | 243 => 54 | 246 => 74 | 283 => 89 | 284 => 90 | 285 => 91 | 286 => 92 | 129 => 84 | 317 => 98 | 318 => 99 | 319 => 100 | 320 => 101 | 337 => 103 | 338 => 104 | n => n, fun | 3 => 3 | 9 => 9 | 2 => 2 | 4 => 4 | 171 => 104 | 0 => 0 | 53 => 99 | 37 => 70 | 5 => 5 | 173 => 106 | 212 => 115 | 51 => 97 | 20 => 20 | 213 => 116 | 46 => 78 | 232 => 120 | 233 => 121 | n => n, fun | 17 => 1 | 18 => 2 | 19 => 3 | n => n⟩
theorem Tryd.laysM171 : Go.Proofs.LaysM.n171 Tryd.prog Tryd.laysM171_ren := {
 mixed := by kernel_rfl
 f129 := Tryd.func84.trans (congrArg some (by kernel_rfl))
 f171 := Tryd.func31.trans (congrArg some (by kernel_rfl))
 f243 := Tryd.func54.trans (congrArg some (by kernel_rfl))
 f246 := Tryd.func74.trans (congrArg some (by kernel_rfl))
 f283 := Tryd.func89.trans (congrArg some (by kernel_rfl))
 f284 := Tryd.func90.trans (congrArg some (by kernel_rfl))
 f285 := Tryd.func91.trans (congrArg some (by kernel_rfl))
 f286 := Tryd.func92.trans (congrArg some (by kernel_rfl))
 f317 := Tryd.func98.trans (congrArg some (by kernel_rfl))
 f318 := Tryd.func99.trans (congrArg some (by kernel_rfl))
 f319 := Tryd.func100.trans (congrArg some (by kernel_rfl))
 f320 := Tryd.func101.trans (congrArg some (by kernel_rfl))
 f337 := Tryd.func103.trans (congrArg some (by kernel_rfl))
 f338 := Tryd.func104.trans (congrArg some (by kernel_rfl))
 t0 := Tryd.underlying0
 a0 := Tryd.isAgg0
 z0 := Tryd.sizeOf0
 v0 := Tryd.zeroValue0
 t2 := Tryd.underlying2
 a2 := Tryd.isAgg2
 z2 := Tryd.sizeOf2
 v2 := Tryd.zeroValue2
 t3 := Tryd.underlying3
 a3 := Tryd.isAgg3
 z3 := Tryd.sizeOf3
 v3 := Tryd.zeroValue3
 t4 := Tryd.underlying4
 a4 := Tryd.isAgg4
 z4 := Tryd.sizeOf4
 v4 := Tryd.zeroValue4
 t5 := Tryd.underlying5
 a5 := Tryd.isAgg5
 z5 := Tryd.sizeOf5
 v5 := Tryd.zeroValue5
 t9 := Tryd.underlying9
 a9 := Tryd.isAgg9
 z9 := Tryd.sizeOf9
 v9 := Tryd.zeroValue9
 t20 := Tryd.underlying20
 a20 := Tryd.isAgg20
 z20 := Tryd.sizeOf20
 v20 := Tryd.zeroValue20
 t37 := Tryd.underlying70
 a37 := Tryd.isAgg70
 z37 := Tryd.sizeOf70
 v37 := Tryd.zeroValue70
 t46 := Tryd.underlying78
 a46 := Tryd.isAgg78
 z46 := Tryd.sizeOf78
 v46 := Tryd.zeroValue78
 t51 := Tryd.underlying97
 a51 := Tryd.isAgg97
 z51 := Tryd.sizeOf97
 v51 := Tryd.zeroValue97
 t53 := Tryd.underlying99
 a53 := Tryd.isAgg99
 z53 := Tryd.sizeOf99
 v53 := Tryd.zeroValue99
 t171 := Tryd.underlying104
 a171 := Tryd.isAgg104
 z171 := Tryd.sizeOf104
 v171 := Tryd.zeroValue104
 t173 := Tryd.underlying106
 a173 := Tryd.isAgg106
 z173 := Tryd.sizeOf106
 v173 := Tryd.zeroValue106
 t212 := Tryd.underlying115
 a212 := Tryd.isAgg115
 z212 := Tryd.sizeOf115
 v212 := Tryd.zeroValue115
 t213 := Tryd.underlying116
 a213 := Tryd.isAgg116
 z213 := Tryd.sizeOf116
 t232 := Tryd.underlying120
 a232 := Tryd.isAgg120
 z232 := Tryd.sizeOf120
 v232 := Tryd.zeroValue120
 t233 := Tryd.underlying121
 a233 := Tryd.isAgg121
 z233 := Tryd.sizeOf121
 v233 := Tryd.zeroValue121
 g17 := by kernel_rfl
 g18 := by kernel_rfl
 g19 := by kernel_rfl
 i0 := by kernel_rfl
 i2 := by kernel_rfl
 i3 := by kernel_rfl
 i4 := by kernel_rfl
 i5 := by kernel_rfl
 i9 := by kernel_rfl
 i20 := by kernel_rfl
 i37 := by kernel_rfl
 i46 := by kernel_rfl
 i51 := by kernel_rfl
 i53 := by kernel_rfl
 i171 := by kernel_rfl
 i173 := by kernel_rfl
 i212 := by kernel_rfl
 i232 := by kernel_rfl
 i233 := by kernel_rfl
 m17 := by kernel_rfl
 m18 := by kernel_rfl
 m19 := by kernel_rfl }
noncomputable def Tryd.lc37_ren : Go.Shelf.Ren := ⟨fun | 41 => 37 | n => n, fun | 22 => 22 | 23 => 43 | 4 => 4 | n => n, fun | n => n⟩
theorem Tryd.lc37 : Go.Proofs.SlLaysE0.n41 Tryd.prog Tryd.lc37_ren := {
 mixed := by kernel_rfl
 f41 := ⟨Tryd.f37.name, by decide, Tryd.func37.trans (congrArg some (by kernel_rfl))⟩
 t4 := Tryd.underlying4
 a4 := Tryd.isAgg4
 z4 := Tryd.sizeOf4
 v4 := Tryd.zeroValue4
 t22 := Tryd.underlying22
 a22 := Tryd.isAgg22
 z22 := Tryd.sizeOf22
 v22 := Tryd.zeroValue22 }
noncomputable def Tryd.sf38_ren : Go.Shelf.Ren := ⟨fun | 6 => 38 | 15 => 57 | 14 => 56 | 28 => 83 | 29 => 84 | 20 => 75 | 21 => 76 | 22 => 77 | 23 => 78 | 24 => 79 | 25 => 80 | 26 => 81 | 27 => 82 | 46 => 93 | 47 => 94 | 48 => 95 | 49 => 96 | 50 => 97 | 57 => 102 | n => n, fun | 22 => 33 | 24 => 24 | 25 => 60 | 3 => 3 | 39 => 78 | 0 => 0 | 53 => 97 | 55 => 99 | 4 => 4 | 46 => 90 | 45 => 89 | 50 => 94 | 5 => 5 | 9 => 9 | 66 => 108 | 70 => 112 | 76 => 117 | 77 => 118 | n => n, fun | n => n⟩
theorem Tryd.sf38 : Go.Proofs.SlLaysF0.n6 Tryd.prog Tryd.sf38_ren := {
 mixed := by kernel_rfl
 f6 := ⟨Tryd.f38.name, by decide, Tryd.func38.trans (congrArg some (by kernel_rfl))⟩
 f14 := ⟨Tryd.f56.name, by decide, Tryd.func56.trans (congrArg some (by kernel_rfl))⟩
 f15 := Tryd.func57.trans (congrArg some (by kernel_rfl))
 f20 := ⟨Tryd.f75.name, by decide, Tryd.func75.trans (congrArg some (by kernel_rfl))⟩
 f21 := ⟨Tryd.f76.name, by decide, Tryd.func76.trans (congrArg some (by kernel_rfl))⟩
 f22 := ⟨Tryd.f77.name, by decide, Tryd.func77.trans (congrArg some (by kernel_rfl))⟩
 f23 := ⟨Tryd.f78.name, by decide, Tryd.func78.trans (congrArg some (by kernel_rfl))⟩
 f24 := ⟨Tryd.f79.name, by decide, Tryd.func79.trans (congrArg some (by kernel_rfl))⟩
 f25 := ⟨Tryd.f80.name, by decide, Tryd.func80.trans (congrArg some (by kernel_rfl))⟩
 f26 := ⟨Tryd.f81.name, by decide, Tryd.func81.trans (congrArg some (by kernel_rfl))⟩
 f27 := ⟨Tryd.f82.name, by decide, Tryd.func82.trans (congrArg some (by kernel_rfl))⟩
 f28 := Tryd.func83.trans (congrArg some (by kernel_rfl))
 f29 := Tryd.func84.trans (congrArg some (by kernel_rfl))
 f46 := ⟨Tryd.f93.name, by decide, Tryd.func93.trans (congrArg some (by kernel_rfl))⟩
 f47 := Tryd.func94.trans (congrArg some (by kernel_rfl))
 f48 := Tryd.func95.trans (congrArg some (by kernel_rfl))
 f49 := ⟨Tryd.f96.name, by decide, Tryd.func96.trans (congrArg some (by kernel_rfl))⟩
 f50 := ⟨Tryd.f97.name, by decide, Tryd.func97.trans (congrArg some (by kernel_rfl))⟩
 f57 := ⟨Tryd.f102.name, by decide, Tryd.func102.trans (congrArg some (by kernel_rfl))⟩
 t0 := Tryd.underlying0
 a0 := Tryd.isAgg0
 z0 := Tryd.sizeOf0
 v0 := Tryd.zeroValue0
 t3 := Tryd.underlying3
 a3 := Tryd.isAgg3
 z3 := Tryd.sizeOf3
 v3 := Tryd.zeroValue3
 t4 := Tryd.underlying4
 a4 := Tryd.isAgg4
 z4 := Tryd.sizeOf4
 v4 := Tryd.zeroValue4
 t5 := Tryd.underlying5
 a5 := Tryd.isAgg5
 z5 := Tryd.sizeOf5
 v5 := Tryd.zeroValue5
 t9 := Tryd.underlying9
 a9 := Tryd.isAgg9
 z9 := Tryd.sizeOf9
 v9 := Tryd.zeroValue9
 t22 := Tryd.underlying33
 a22 := Tryd.isAgg33
 z22 := Tryd.sizeOf33
 v22 := Tryd.zeroValue33
 t25 := Tryd.underlying60
 a25 := Tryd.isAgg60
 z25 := Tryd.sizeOf60
 v25 := Tryd.zeroValue60
 t39 := Tryd.underlying78
 a39 := Tryd.isAgg78
 z39 := Tryd.sizeOf78
 v39 := Tryd.zeroValue78
 t45 := Tryd.underlying89
 a45 := Tryd.isAgg89
 z45 := Tryd.sizeOf89
 v45 := Tryd.zeroValue89
 t46 := Tryd.underlying90
 a46 := Tryd.isAgg90
 z46 := Tryd.sizeOf90
 v46 := Tryd.zeroValue90
 t50 := Tryd.underlying94
 a50 := Tryd.isAgg94
 z50 := Tryd.sizeOf94
 v50 := Tryd.zeroValue94
 t53 := Tryd.underlying97
 a53 := Tryd.isAgg97
 z53 := Tryd.sizeOf97
 v53 := Tryd.zeroValue97
 t55 := Tryd.underlying99
 a55 := Tryd.isAgg99
 z55 := Tryd.sizeOf99
 v55 := Tryd.zeroValue99
 t66 := Tryd.underlying108
 a66 := Tryd.isAgg108
 z66 := Tryd.sizeOf108
 v66 := Tryd.zeroValue108
 t70 := Tryd.underlying112
 a70 := Tryd.isAgg112
 z70 := Tryd.sizeOf112
 v70 := Tryd.zeroValue112
 t76 := Tryd.underlying117
 a76 := Tryd.isAgg117
 z76 := Tryd.sizeOf117
 v76 := Tryd.zeroValue117
 t77 := Tryd.underlying118
 a77 := Tryd.isAgg118
 z77 := Tryd.sizeOf118
 v77 := Tryd.zeroValue118 }
end Go.Proofs
namespace Go.Proofs.YtoficachfgggjaaDoor
open Go Go.Shelf Go.RowKit Go.Lib Go.Sort
set_option linter.unusedSimpArgs false
set_option linter.unusedVariables false
def PVal.kd:PVal->Nat
 |.int _ _=>1
 |.bool _=>2
 |.str _=>3
 |.slice _=>4
 |_=>0
def G3:Value->Nat
 |.int _ _=>1
 |.bool _=>2
 |.string _=>3
 |.slice _ _ _=>4
 |_=>0
theorem VR.kd_eq{Γ:au}{bs:az}{w:World}{p:PVal}{v:Value}(h:VR Γ bs w p v)(hp:p.kd≠0):G3 v=p.kd:=by
 cases h<;>first|rfl|exact absurd rfl hp
def GP(K:List Nat)(p:PVal):Prop:=p.kd∉K/\(p.kd=1\/p.kd=2\/p.kd=3)
def zu(K:List Nat):PVal->Prop
 |.int _ _=>True
 |.bool _=>True
 |.str _=>True
 |.slice es=>∀e∈es,∀q∈e,GP K q
 |_=>False
theorem VR.scal{Γ Γ':au}{bs bs':az}{w w':World}{p:PVal}{v:Value}(h:VR Γ bs w p v)(hp:p.kd=1\/p.kd=2\/p.kd=3):VR Γ' bs' w' p v:=by
 cases h with
 |int k n=>exact .int k n
 |bool b=>exact .bool b
 |str l=>exact .str l
 |_=>exact absurd hp (by simp[PVal.kd])
theorem VR.off_row{K:List Nat}{Γ Γ':au}{bs bs':az}{w w':World}{b M:Nat}(hΓ:Γ b=some M)(hrow:∀o,o<M->∃u,w.cell? ⟨b,o,none⟩=some u/\G3 u∈K)
  (hle:∀x n,x≠b->Γ x=some n->Γ' x=some n/\∀o,w'.cell? ⟨x,o,none⟩=w.cell? ⟨x,o,none⟩) {p:PVal} {v:Value} (hp:zu K p) (h:VR Γ bs w p v):VR Γ' bs' w' p v:=by
 cases h with
 |int k n=>exact .int k n
 |bool b=>exact .bool b
 |str l=>exact .str l
 |sliceNil=>exact .sliceNil
 |sliceE a cap=>exact .sliceE a cap
 | slice es b' off cap n sz vals h0 hcap hg hn hsz hc hv =>
  cases es with
  |nil=>exact .sliceE _ _
  | cons e0 es =>
   have hlen0:=hsz 0 e0 rfl
   have h00:0<e0.length:=by omega
   have q0:e0[0]? =some e0[0]:=vab h00
   have hne:b'≠b:=by
    intro hbb
    subst hbb
    rw[hΓ]at hg;cases hg
    have hcell:=hc 0 e0 0 _ rfl q0
    simp only[vcu,Nat.add_zero]at hcell
    obtain⟨u,hu,hk⟩:=hrow off (by
     have:1 * sz<=(e0::es).length * sz:=vaK sz (by simp)
     omega)
    rw[hu]at hcell;cases hcell
    have hs:=hp e0 (by simp) e0[0] (vaO h00)
    have:=VR.kd_eq (hv 0 e0 0 _ rfl q0) (by rcases hs.2 with h|h|h<;>omega)
    rw[this]at hk
    exact hs.1 hk
   obtain⟨g1,g2⟩:=hle b' n hne hg
   refine .slice _ b' off cap n sz vals h0 hcap g1 hn hsz (fun i e k p he hp'=>(g2 _).trans (hc i e k p he hp')) (fun i e k p he hp'=>VR.scal (hv i e k p he hp') ?_)
   exact(hp e (vau he) p (vau hp')).2
 |undef v=>exact hp.elim
 |val v=>exact hp.elim
 |agg=>exact hp.elim
 |tuple=>exact hp.elim
 |eptrE=>exact hp.elim
 |eptr=>exact hp.elim
 |bptr=>exact hp.elim
 |bsl=>exact hp.elim
 |mapr=>exact hp.elim
 |func=>exact hp.elim
def Ba(P:Program)(fs:FuncId)(k:Nat):Prop:=
 (∀vs w,(callFunc fs vs).run P w=.ok (.enter fs vs) w)/\
 (∀(enc:Nat->List Value) (cf:Nat->Nat->Int) (g blk cap:Nat) (d:Array Nat) (w:World),(∀x,(enc x).length=k)->(∀x,∀v∈enc x,v.oneCell'=true)->SWO (ltOf cf)->(∀vs w,(callFunc g vs).run P w=.ok (.enter g vs) w)->
  CmpLays P g #[] enc k cf blk 0 d.size w->HoldsK enc k w blk 0 d->blk<w.heap.size->d.size<4611686018427387904->
  Calls P fs #[.slice (some ⟨blk,0,none⟩) d.size cap,.func (.func g) #[] #[]] w fun e w'=>e=.returned (.tuple #[])/\∃d' n os,PermIn 0 d.size d d'/\SortedIn (ltOf cf) 0 d.size d'/\w'=sortWorldK enc k w blk 0 n d' os)/\
 ∀(p:Option Addr) (cap:Nat) (fv:Value) (w:World),Calls P fs #[.slice p 0 cap,fv] w fun e w'=>e=.returned (.tuple #[])/\w'=w
theorem wD{enc:Nat->List Value}{k b m:Nat}{dk:Array Nat}{os:Array Obj}{w:World}{x:Nat}(hx:x<w.heap.size)(hb:x≠b):(sortWorldK enc k w b 0 m dk os).heap[x]? =w.heap[x]?:=by
 show((putRowK enc k (Sort.ahead w m) b 0 dk).heap++os)[x]? =_
 have hsz:(putRowK enc k (Sort.ahead w m) b 0 dk).heap.size=w.heap.size:=by simp[putRowK,putRow,mapBlock,Sort.ahead]
 rw[vaN (by rw[hsz];exact hx)]
 show(w.heap.modify b (onCells _))[x]? =_
 rw[vb0,vag (fun e=>hb e.symm)]
theorem wE{enc:Nat->List Value}{k b m:Nat}{dk:Array Nat}{os:Array Obj}{w:World}:w.heap.size<=(sortWorldK enc k w b 0 m dk os).heap.size:=by
 show _<=((putRowK enc k (Sort.ahead w m) b 0 dk).heap++os).size
 have hsz:(putRowK enc k (Sort.ahead w m) b 0 dk).heap.size=w.heap.size:=by simp[putRowK,putRow,mapBlock,Sort.ahead]
 rw[Array.size_append,hsz];omega
theorem Cs{enc:Nat->List Value}{k b m:Nat}{dk:Array Nat}{os:Array Obj}{w:World}{cur:Array Value}{e:TypeId}(hh:w.heap[b]? =some (.cells cur e (0,0))):(sortWorldK enc k w b 0 m dk os).heap[b]? =some (.cells (putCells id 0 (flatK enc k dk) cur) e (0,0)):=by
 have hb:b<w.heap.size:=(vak.1 hh).1
 show((putRowK enc k (Sort.ahead w m) b 0 dk).heap++os)[b]? =_
 have hsz:(putRowK enc k (Sort.ahead w m) b 0 dk).heap.size=w.heap.size:=by simp[putRowK,putRow,mapBlock,Sort.ahead]
 rw[vaN (by rw[hsz];exact hb)]
 show(w.heap.modify b (onCells _))[b]? =_
 rw[vb0,vae rfl,hh]
 rfl
section
variable{P:Program}{GE:List (Nat×List PVal)}{α:Type}{c:α->List PVal}{ord:α->α->Option Int}
theorem C0{E:lR}{Γ:au}{bs:az}{ow:Nat->Option iR}{w:World}{a:Array Value}{st:ak}(h:SR P E Γ bs ow w a st)(hE:A5 GE 0 E){K:List Nat}{fo b M k N:Nat}
  (hΓ:Γ b=some M) (hb:E.w.heap.size<=b) (hrow:∀o,o<M->∃u,w.cell? ⟨b,o,none⟩=some u/\G3 u∈K)
  (hcc:∀x y r,ord x y=some r->CC P GE fo [.agg (c x),.agg (c y)] (.int .i64 r) []) (hfl:∀x,∀q∈c x,zu K q)
  {enc:Nat->List Value} {el:Nat->α} (hlen:∀i,(enc i).length=(c (el i)).length) (hvr:∀(i j:Nat) q u,(c (el i))[j]? =some q->(enc i)[j]? =some u->VR Γ bs w q u)
  {cf:Nat->Nat->Int} (hcf:∀i j,ord (el i) (el j)=some (cf i j)):CmpLays P fo #[] enc k cf b 0 N w:=by
 intro m os dk hdk x y
 generalize hWe:sortWorldK enc k w b 0 m dk os=W
 have hkeep:∀x,x<w.heap.size->x≠b->W.heap[x]? =w.heap[x]?:=fun x hx hxb=>by rw[<-hWe];exact wD hx hxb
 have hsz:w.heap.size<=W.heap.size:=by rw[<-hWe];exact wE
 let Γm:au:=fun x=>if x=b then none else Γ x
 have hm:∀x n,x≠b->Γ x=some n->Γm x=some n/\∀o,W.cell? ⟨x,o,none⟩=w.cell? ⟨x,o,none⟩:=fun x n hx hn=>⟨by show(if x=b then none else Γ x)=_;rw[vag hx];exact hn,fun o=>aA (hkeep x (h.lt_of_ghost hn) hx) o⟩
 have hmr:∀x n,Γm x=some n->x≠b/\Γ x=some n:=fun x n hx=>by
  have hx:(if x=b then none else Γ x)=some n:=hx
  split at hx
  ·cases hx
  ·exact⟨by assumption,hx⟩
 have hagg:∀i,VR Γm [] W (.agg (c (el i))) (.agg (enc i).toArray):=fun i=>.agg _ _ (by simp[hlen]) fun j p v hp hv=>(hvr i j p v hp (by simpa using hv)).off_row hΓ hrow hm (hfl _ _ (vau hp))
 have hpre:SR P ⟨GE,Γm,W,bp [] fun _=>none⟩ Γm [] (fun _=>none) W #[.agg (enc x).toArray,.agg (enc y).toArray] ⟨[.agg (c (el x)),.agg (c (el y))],[],[]⟩:={
  wi:=fun x n hx=>by
   obtain⟨h1,h2⟩:=hmr x n hx
   obtain⟨cc,t,fr,k1,k2⟩:=h.wi x n h2
   exact⟨cc,t,fr,(hkeep x (h.lt_of_ghost h2) h1).trans k1,k2⟩
  sz:=rfl
  tm:=fun t p v hp hv=>by
   match t with
   |0=>simp at hp hv;subst hp;subst hv;exact hagg x
   |1=>simp at hp hv;subst hp;subst hv;exact hagg y
   |t+2=>simp at hp
  bl:=rfl
  bx:=fun i b B hb=>by simp at hb
  inj:=fun i j b hb=>by simp at hb
  bn:=fun i b hb=>by simp at hb
  on:=fun b L hL=>by cases hL
  ot:=fun t k e he=>by simp at he
  ob:=fun i j e cs own b hB=>by simp at hB
  gl:=fun g cs hg=>(hE.gl g cs hg).mono (fun x n hx hn=>by
   have hlt:=hE.low x n hx
   obtain⟨n',k1,k2,k3⟩:=h.step.le x n hx hn
   obtain⟨g1,g2⟩:=hm x n' (by omega) k1
   exact⟨n',g1,k2,fun o ho=>(g2 o).trans (k3 o ho)⟩) (.refl _)
  gc:=fun g cs hg=>h.gc g cs (by rw[hE.ge];exact hg)
  gx:=fun g cs hg=>by
   obtain⟨k1,_,_,cc,t,fr,k4,k5⟩:=h.gnow (by rw[hE.ge];exact hg)
   obtain⟨g1,_⟩:=h.gx g cs (by rw[hE.ge];exact hg)
   refine⟨vaC k1 hsz,fun hT=>hT.elim (fun hx=>by obtain⟨i,hi⟩:=hx;simp at hi) (fun hx=>hx rfl),cc,t,fr,(hkeep g k1 (by omega)).trans k4,k5⟩
  step:=.refl _ _ _ _}
 refine((hcc _ _ _ (hcf x y)).2.2 Γm [] (fun _=>none) W _ hpre).mono fun e w' he=>?_
 obtain⟨v,Γ',ow',rfl,hS⟩:=he
 have hv:VR Γ' [] w' (.int .i64 (cf x y)) v:=hS.tm 0 _ _ rfl rfl
 cases hv
 refine⟨rfl,w'.drawn - W.drawn,w'.heap.extract W.heap.size w'.heap.size,?_⟩
 have h1:=hS.step.os
 have h2:=hS.step.tape
 have h3:=hS.step.output
 have h4:=hS.step.size
 have h5:=hS.step.drawn
 have h6:=hS.step.keep
 simp only at h1 h2 h3 h4 h5 h6
 have hT:∀b,¬bp [] (fun _=>none) b:=fun b hb=>by
  rcases hb with⟨i,hi⟩|hb
  ·simp at hi
  ·exact hb rfl
 have hheap:w'.heap=W.heap++w'.heap.extract W.heap.size w'.heap.size:=by
  apply vcG
  intro i
  by_cases hi:i<W.heap.size
  ·rw[vaN hi,(h6 i hi (hT i)).1]
  ·rw[vbH (by omega)]
   by_cases hi2:i<w'.heap.size
   ·rw[vco]
    rw[vae (by omega)]
    congr 1;omega
   ·rw[vbj (by omega),vbj (by simp;omega)]
 show w'={heap:=W.heap++_,tape:=W.tape,drawn:=W.drawn+(w'.drawn - W.drawn),os:=W.os,output:=W.output}
 rw[<-hheap,show W.drawn+(w'.drawn - W.drawn)=w'.drawn by omega,<-h1,<-h2,<-h3]
end
end Go.Proofs.YtoficachfgggjaaDoor
