/- PROVED: a part of the proof. Conditions: none. -/
import Derived.Test.YtoficachfgggjaaDoorPkE7
import Derived.Test.YtoficachfgggjaaDoorPkE3
import Derived.Shelf.SlicesE.Clone
import Derived.Test.YtoficachfgggjaaDoorChecked
import Derived.Test.YtoficachfgggjaaDoorProg
import Derived.Ground.SlgnProg
import Derived.Ground.SlsfProg
import Derived.Shelf.Lays
import Derived.Shelf.LaysM
import Derived.Shelf.SlGeneric
import Derived.Shelf.SlLaysE0
import Derived.Shelf.SlLaysF0
import Derived.Shelf.SlSortCmp.NoneTotal
noncomputable section
namespace Go.Proofs.YtoficachfgggjaaDoor
open Go
theorem rT:true=true:=rfl
theorem rL(l:List ai):l=l:=rfl
theorem rB(B:ai):B=B:=rfl
theorem rW(l:List (Nat×TypeId)):l=l:=rfl
theorem rM(l:List (PVal×PVal)):l=l:=rfl
theorem xR(ρ:List Nat)(p:PVal)(h:p.cl 0):qR ρ p p:=.refl p h
theorem xB(ρ:List Nat)(i j off:Nat)(h:ρ[i]? =some j):qR ρ (.bptr j off) (.bptr i off):=.bptr i j off h
theorem xM(ρ:List Nat)(i j:Nat)(h:ρ[i]? =some j):qR ρ (.mapr j) (.mapr i):=.mapr i j h
theorem tj{a a':PVal}{l l':List PVal}(h:a=a')(h':l=l'):a::l=a'::l':=by rw[h,h']
open Go Go.Shelf Go.RowKit Go.Lib
variable{P:Program}{ρ:Ren}
theorem xc{w:World}(base:Nat)(t ty e:TypeId)(i:TypeInfo)(z:Value)(ht:P.underlying t=some (.slice e))(hi:P.info? e=some i)(hz:i.zero=some z)
  (v:Value) (n:Nat) (xs:List Value) (hown:w.ownsRow base e i.size v n xs)
  (a:Addr) (m c:Nat) (news:List Value) (hl:news.length=m * i.size) (hnews:∀j u,news[j]? =some u->w.cell? (a.add j)=some u) (h1:∀u∈news,u.oneCell'=true)
  (h63:n+m<=maxLen) (hbytes:(n+m) * i.bytes<=140737488355328) {v':Value} {w':World} (hr:(Builtin.append_ #[t,t] ty #[v,.slice (some a) m c]).run P w=.ok v' w'):w.drawn<=w'.drawn:=by
 have hsmall:n+m<=9223372036854775807:=by simp only[maxLen]at h63;omega
 rcases hown.2 with⟨rfl,rfl⟩|⟨g,cap,cur,rfl,hbg,hg,hnc,hcm,hcs,htake⟩
 ·by_cases hm:m=0
  ·subst hm
   have hn:news=[]:=vaq (by simpa using hl)
   subst hn
   have:(Builtin.append_ #[t,t] ty #[.slice none 0 0,.slice (some a) 0 c]).run P w=.ok (.slice none 0 0) w:=by
    simp[Builtin.append_,run_underlying ht,Go.sizeOf,typeInfo,hi,Builtin.lenOf,Builtin.firstCells,loadCells,loadCellsFrom]
   rw[this]at hr;cases hr;exact vap _
  ·rw[run_append_nil (P:=P) w t ty e i z ht hi hz a m c news hl hnews (by omega) (by omega) (by have hb:=hbytes;simp only[vaB]at hb;omega)]at hr
   cases hr;exact vcD _
 ·by_cases hroom:n+m<=cap
  ·have hfit:n * i.size+news.length<=cur.size:=by rw[hl,hcs,<-va4];exact vaK _ hroom
   rw[run_append_room (P:=P) w t ty e i ht hi g n cap cur hg a m c news hl hnews h1 hroom hfit]at hr
   cases hr;exact vap _
  ·have holds:∀j u,xs[j]? =some u->w.cell? ((⟨g,0,none⟩:Addr).add j)=some u:=hown.cells (g:=g) rfl
   rw[run_append_grow (P:=P) w t ty e i z ht hi hz ⟨g,0,none⟩ n cap xs hown.1 holds a m c news hl hnews (by omega) (by omega) (growslice_fits (by omega) hbytes)]at hr
   cases hr;exact vcD _
theorem vW(w:World){o:Oper}{a:Act}{K:Act->World->Prop}{Q:Exit->Act->World->Prop}(s x:Operand)(t:TypeId)
  (ho:o.op=.call {callee:=.builtin .append,args:=#[s,x],argTypes:=#[t,t]})
  (base:Nat) (e:TypeId) (i:TypeInfo) (z:Value) (size bytes:Nat) (ht:P.underlying t=some (.slice e)) (hi:P.info? e=some i) (hz:i.zero=some z)
  (hsize:i.size=size) (hby:i.bytes=bytes) (hzs:z.cells.size=size) (hsz:0<size)
  (v:Value) (n:Nat) (xs:List Value) (hs:a.eval s=v) (hown:w.ownsRow base e size v n xs)
  (ad:Addr) (m c:Nat) (news:List Value) (hx:a.eval x=.slice (some ad) m c) (hl:news.length=m * size) (hnews:∀j u,news[j]? =some u->w.cell? (ad.add j)=some u) (h1:∀u∈news,u.oneCell'=true)
  (h63:n+m<=maxLen) (hbytes:(n+m) * bytes<=140737488355328) (hbase:base<=w.heap.size)
  (h:∀v' w',w'.ownsRow base e size v' (n+m) (xs++news)->w.grownBy w' v.ownBlock->w.drawn<=w'.drawn->K (a.put o.dst v') w'):o.wp P a w K Q:=by
 obtain⟨v',w',hr,h2,h3,_⟩:=run_append_own (P:=P) w base t o.type e i z size bytes ht hi hz hsize hby hzs hsz v n xs hown ad m c news hl hnews h1 h63 hbytes hbase
 subst hsize
 subst hby
 have hd:=xc (P:=P) base t o.type e i z ht hi hz v n xs hown ad m c news hl hnews h1 h63 hbytes hr
 unfold Oper.wp execOp
 simp only[ho,resolve,invoke,builtin,Sem.run_bind,Sem.run_pure,Result.andThen_ok,List.map_toArray,vaY,vcM,hs,hx,hr]
 exact h v' w' h2 h3 hd
theorem lm(w:World){ops:Array Oper}{rest:List Oper}{o:Oper}{a:Act}{Q:Exit->Act->World->Prop}(hgd:o.guard=none)(s x:Operand)(t:TypeId)
  (ho:o.op=.call {callee:=.builtin .append,args:=#[s,x],argTypes:=#[t,t]})
  (base:Nat) (e:TypeId) (i:TypeInfo) (z:Value) (size bytes:Nat) (ht:P.underlying t=some (.slice e)) (hi:P.info? e=some i) (hz:i.zero=some z)
  (hsize:i.size=size) (hby:i.bytes=bytes) (hzs:z.cells.size=size) (hsz:0<size)
  (v:Value) (n:Nat) (xs:List Value) (hs:a.eval s=v) (hown:w.ownsRow base e size v n xs)
  (ad:Addr) (m c:Nat) (news:List Value) (hx:a.eval x=.slice (some ad) m c) (hl:news.length=m * size) (hnews:∀j u,news[j]? =some u->w.cell? (ad.add j)=some u) (h1:∀u∈news,u.oneCell'=true)
  (h63:n+m<=maxLen) (hbytes:(n+m) * bytes<=140737488355328) (hbase:base<=w.heap.size)
  (h:∀v' w',w'.ownsRow base e size v' (n+m) (xs++news)->w.grownBy w' v.ownBlock->w.drawn<=w'.drawn->wpList P ops Q rest (a.put o.dst v') w'):wpList P ops Q (o::rest) a w:=
 wpList_plain hgd fun _ hK=>vW w s x t ho base e i z size bytes ht hi hz hsize hby hzs hsz v n xs hs hown ad m c news hx hl hnews h1 h63 hbytes hbase fun v' w' h2 h3 h4=>hK _ _ (h v' w' h2 h3 h4)
set_option maxHeartbeats 2000000 in
set_option maxRecDepth 100000 in
theorem zK(L:SlLaysE0.n41 P ρ)(i0:TypeInfo)(z:Value)(size bytes:Nat)(hi:P.info? (ρ.t 23)=some i0)(hz0:i0.zero=some z)(hz1:i0.size=size)(hz2:i0.bytes=bytes)(hzs:z.cells.size=size)(hsz:0<size)
  (z23:∀w,(Go.sizeOf (ρ.t 23)).run P w=.ok size w) (b off n c:Nat) (news:List Value) (w:World) (hl:news.length=n * size) (hn:n<=maxLen) (hbig:n * bytes<=140737488355328)
  (hc:∀j u,news[j]? =some u->w.cell? ⟨b,off+j,none⟩=some u) (h1:∀u∈news,u.oneCell'=true):
  Calls P (ρ.f 41) #[.slice (some ⟨b,off,none⟩) n c] w fun e w'=>∃v',e=.returned v'/\w'.ownsRow w.heap.size (ρ.t 23) size v' n news/\(Below w.heap.size w w'/\w.drawn<=w'.drawn):=by
 have mixed:=L.mixed;have t4:=L.t4;have a4:=L.a4;have z4:=L.z4;have v4:=L.v4;have t22:=L.t22;have a22:=L.a22;have z22:=L.z22;have v22:=L.v22
 have q22:∀(w:World) (a:Option Addr) (n c n' c':Nat),(binOp .eql (ρ.t 22) (.slice a n c) (.slice none n' c')).run P w=.ok (.bool a.isNone) w:=fun w a n c n' c'=>Lib.run_eql_slice_nil w _ _ a n c n' c' L.t22
 have u22:∀w,Sem.run P (underlying (ρ.t 22)) w=.ok (TypeDesc.slice (ρ.t 23)) w:=run_underlying t22
 have A:Aside (∀j u,news[j]? =some u->w.cell? ⟨b,off+j,none⟩=some u):=hc
 clear hc
 obtain⟨_,_,FG⟩:=L.f41
 go_enter FG,SlBodyN.n41_ntmps ρ
 go_wp2_with (at_builtin;refine lm _ rfl _ _ (ρ.t 22) rfl w.heap.size (ρ.t 23) i0 z size bytes t22 hi hz0 hz1 hz2 hzs hsz _ _ _ rfl (World.ownsRow_made w #[] 0 (vap _) (vaJ _) (by simp)) ⟨b,off,none⟩ n c news rfl ?qc1 ?qc2 ?qc3 ?qc4 ?qc5 ?qc6 ?_)
 case qc1=>exact hl
 case qc2=>
  intro j u hj
  rw[Addr.add_lit]
  exact Lib.cell?_alloc_some _ (A.out j u hj)
 case qc3=>exact h1
 case qc4=>rw[vaB];exact hn
 case qc5=>rw[vaB];exact hbig
 case qc6=>simp
 intro v' w1 hown hgrow hdr
 go_wp2
 go_ret
 refine⟨v',rfl,by simpa using hown,?_,hdr⟩
 exact((Below.refl _ w).alloc (vap _) _).grown hgrow (by simp) (by intro k hk;simp[Value.ownBlock]at hk;omega)
set_option maxHeartbeats 2000000 in
set_option maxRecDepth 100000 in
theorem yC(L:SlLaysE0.n41 P ρ)(i0:TypeInfo)(z:Value)(hi:P.info? (ρ.t 23)=some i0)(hz0:i0.zero=some z)(hzs:z.cells.size=i0.size)(hsz:0<i0.size)
  (z23:∀w,(Go.sizeOf (ρ.t 23)).run P w=.ok i0.size w) (ad:Addr) (c:Nat) (w:World):
  Calls P (ρ.f 41) #[.slice (some ad) 0 c] w fun r w'=>∃v',r=.returned v'/\w'.ownsRow w.heap.size (ρ.t 23) i0.size v' 0 []/\(Below w.heap.size w w'/\w.drawn<=w'.drawn):=by
 have mixed:=L.mixed;have t4:=L.t4;have a4:=L.a4;have z4:=L.z4;have v4:=L.v4;have t22:=L.t22;have a22:=L.a22;have z22:=L.z22;have v22:=L.v22
 have q22:∀(w:World) (a:Option Addr) (n c n' c':Nat),(binOp .eql (ρ.t 22) (.slice a n c) (.slice none n' c')).run P w=.ok (.bool a.isNone) w:=fun w a n c n' c'=>Lib.run_eql_slice_nil w _ _ a n c n' c' L.t22
 have u22:∀w,Sem.run P (underlying (ρ.t 22)) w=.ok (TypeDesc.slice (ρ.t 23)) w:=run_underlying t22
 obtain⟨_,_,FG⟩:=L.f41
 go_enter FG,SlBodyN.n41_ntmps ρ
 go_wp2_with (at_builtin;refine lm _ rfl _ _ (ρ.t 22) rfl w.heap.size (ρ.t 23) i0 z i0.size i0.bytes t22 hi hz0 rfl rfl hzs hsz _ _ _ rfl (World.ownsRow_made w #[] 0 (vap _) (vaJ _) (by simp)) ad 0 c [] rfl (by simp) (by simp) (by simp) (by simp) (by simp) (by simp) ?_)
 intro v' w1 hown hgrow hdr
 go_wp2
 go_ret
 exact⟨v',rfl,by simpa using hown,((Below.refl _ w).alloc (vap _) _).grown hgrow (by simp) (by intro k hk;simp[Value.ownBlock]at hk;omega),hdr⟩
theorem Bg(L:SlLaysE0.n41 P ρ)(i0:TypeInfo)(z:Value)(hi:P.info? (ρ.t 23)=some i0)(hz0:i0.zero=some z)(hzs:z.cells.size=i0.size)(hsz:0<i0.size)(hby:i0.bytes<=65536)
  (hcall:∀vs w,(callFunc (ρ.f 41) vs).run P w=.ok (.enter (ρ.f 41) vs) w):kC P (ρ.f 41) (ρ.t 23):=by
 have hc:P.cellsOf (ρ.t 23)=i0.size:=by simp[Program.cellsOf,hi]
 have z23:∀w,(Go.sizeOf (ρ.t 23)).run P w=.ok i0.size w:=fun w=>by rw[<-hc];exact run_sizeOf w hi
 refine⟨hcall,fun w x n news hx hl h1 hn=>?_⟩
 rw[hc]at hl ⊢
 rcases hx with⟨rfl,rfl⟩|⟨a,c,rfl,hcell⟩
 ·have hnews:news=[]:=vaq (by simpa using hl)
  subst hnews
  refine(AnyE.slices_Clone_nil L 0 0 w).mono fun r w' hr=>?_
  obtain⟨rfl,rfl⟩:=hr
  exact⟨_,rfl,World.ownsRow_nil _ _ _ _,Below.refl _ _,vap _⟩
 ·by_cases h0:n=0
  ·subst h0
   have hnews:news=[]:=vaq (by simpa using hl)
   subst hnews
   exact yC L i0 z hi hz0 hzs hsz z23 a c w
  ·have hpos:0<news.length:=by rw[hl];exact vcO (Nat.pos_of_ne_zero h0) hsz
   have hsp:a.spot=none:=by
    have hk:=hcell 0 _ (vab hpos)
    unfold Addr.add at hk
    simp only[if_true]at hk
    unfold World.cell? at hk
    split at hk
    ·split at hk
     ·cases hk
     ·rename_i hs;simpa using hs
    ·cases hk
   obtain⟨b,off,sp⟩:=a
   simp only at hsp
   subst hsp
   refine zK L i0 z i0.size i0.bytes hi hz0 rfl rfl hzs hsz z23 b off n c news w hl (by unfold maxLen;unfold dF at hn;omega) ?_ (fun j u hj=>by rw[<-Addr.add_lit];exact hcell j u hj) h1
   have:n * i0.bytes<=1073741824 * 65536:=vcC (by unfold dF at hn;omega) hby
   omega
theorem Bf(L:SlLaysE0.n41 P ρ){f:FuncId}{e:TypeId}(hf:ρ.f 41=f)(he:ρ.t 23=e)(hq:(P.info? e).any (fun i=>(i.zero.any fun z=>z.cells.size==i.size)&&decide (0<i.size)&&decide (i.bytes<=65536))=true)
  (hcall:∀vs w,(callFunc f vs).run P w=.ok (.enter f vs) w):kC P f e:=by
 subst hf;subst he
 cases hi:P.info? (ρ.t 23)with
 |none=>rw[hi]at hq;cases hq
 | some i0 =>
  rw[hi]at hq
  simp only[Option.any_some,vac,vae]at hq
  obtain⟨⟨h1,h2⟩,h3⟩:=hq
  cases hz:i0.zero with
  |none=>rw[hz]at h1;cases h1
  |some z=>
   rw[hz]at h1
   simp only[Option.any_some,vaD]at h1
   exact Bg L i0 z hi hz h1 h2 h3 hcall
end Go.Proofs.YtoficachfgggjaaDoor
namespace Go.Proofs.YtoficachfgggjaaDoor
open Go
def qA{α:Type}(l:List α):Option (List α):=if l.length<=dF then some l else none
section
variable{P:Program}{GE:List (Nat×List PVal)}{T e:TypeId}{α:Type}{c:α->List PVal}
theorem yB{l r:List α}(h:qA l=some r):l.length<=dF/\r=l:=by
 unfold qA at h
 split at h
 ·rename_i hl;cases h;exact⟨hl,rfl⟩
 ·cases h
theorem ye.mapOk(s:ye P T e c)(l:List α):∀x∈l.map c,x.length=P.cellsOf e/\∀q∈x,q.one=true:=fun x hx=>by
 obtain⟨y,_,rfl⟩:=vas.1 hx
 exact⟨s.hc y,s.ho y⟩
theorem ye.cloneCC(s:ye P T e c){f:FuncId}(hC:kC P f e){l r:List α}(h:qA l=some r):CC P GE f [sl c l] (sl c r) [(0,e)]:=by
 obtain⟨hl,rfl⟩:=yB h
 exact CC.clone hC ⟨au s.cl r,trivial⟩ s.hp (s.mapOk r) (by simpa using hl)
end
def PS(_:List It)(F:Prop):Prop:=F
section
variable{sc:List It}{F X Y:Prop}
theorem en(h:F):PS [] F:=h
theorem sv{o:Option PVal}{p:PVal}(h:o=some p)(r:PS sc F):PS (.v p::sc) (o=some p/\F):=⟨h,r⟩
theorem ke{o:List ai->Option PVal}{p:PVal}(h:∀H,o H=some p)(r:PS sc F):PS (.v p::sc) ((∀H,o H=some p)/\F):=⟨h,r⟩
theorem sx{o:Option (List PVal)}{l:List PVal}(h:o=some l)(r:PS sc F):PS (.x l::sc) (o=some l/\F):=⟨h,r⟩
theorem se{o:Option (List PVal)}{l:List PVal}(h:o=some l)(r:PS sc F):PS (.e l::sc) (o=some l/\F):=⟨h,r⟩
theorem sg(n:Nat){x b:Bool}(h:x=b)(r:PS sc F):PS (.g n b::sc) (x=b/\F):=⟨h,r⟩
theorem sk(r:PS sc F):PS (.k::sc) F:=r
theorem ss(r:PS sc F):PS (.s::sc) F:=r
theorem d7{P:Program}{GE:List (Nat×List PVal)}{g:FuncId}{vs:List PVal}{p:PVal}{ro:List (Nat×TypeId)}(h:CC P GE g vs p ro)(r:PS sc F):PS (.c p ro::sc) (CC P GE g vs p ro/\F):=⟨h,r⟩
theorem sb{P:Program}{T:TypeId}{ps:List (Nat×PVal)}{p:PVal}{L:List (Nat×TypeId)}(h:fe P T ps=some p)(h':xL P T ps L)(r:PS sc F):PS (.b p L::sc) (fe P T ps=some p/\xL P T ps L/\F):=⟨h,h',r⟩
theorem sy{l vs:List PVal}(h:l=vs)(r:PS sc F):PS (.y vs::sc) (l=vs/\F):=⟨h,r⟩
theorem sz{o:Option PVal}{l:List PVal}(h:o=some (.agg l))(r:PS sc F):PS (.z l::sc) (o=some (.agg l)/\F):=⟨h,r⟩
theorem Am(an:List Nat)(r:PS sc F):PS (.dr an::sc) F:=r
theorem vY(n:Nat)(r:PS sc F):PS (.pa n::sc) F:=r
theorem iw{P:Program}{GE:List (Nat×List PVal)}{m:Nat}{c:Code}{e:Exit}{s0 s1:ak}(h:aQ P GE m c (EX e s1) s0)(r:PS sc F):PS (.pc s0 e s1::sc) ((s0.tmps=s0.tmps/\s0.boxes=s0.boxes/\true=true)/\aQ P GE m c (EX e s1) s0/\F):=⟨fr s0,h,r⟩
theorem Ga(i:It)(r:PS sc F):PS (i::sc) F:=r
theorem si(i:It)(h:X)(r:PS sc F):PS (i::sc) (X/\F):=⟨h,r⟩
theorem sf(h:X)(r:PS sc F):PS sc (X/\F):=⟨h,r⟩
theorem GP{o:Option (List ai)}{B:ai}(h:o=some [B])(r:PS sc F):PS (.w 0 B::sc) (o=some [B]/\F):=⟨h,r⟩
theorem Hr{o:Option (List (PVal×PVal))}{m:List (PVal×PVal)}(h:o=some m)(r:PS sc F):PS (.w 0 (.map m)::sc) (o=some m/\F):=⟨h,r⟩
end
section
variable{P:Program}{GE:List (Nat×List PVal)}{A:List Nat}{m:Nat}
theorem EL(hf:P.follows .mixedOrders=true){c:Code}{e0:Exit}{st0 st:ak}{sc:List It}{F:Prop}(h:PS sc F)(he:F=nc P GE A m c sc st (FN e0 st0)):aQ P GE m c (EX e0 st0) st:=C0 hf sc (Eq.mp he h)
theorem FY(hf:P.follows .mixedOrders=true){σ X:Type}{S:σ->ak}{ex:X->Exit}{so:X->ak}{c:Code}{s:σ}{st:ak}{sc:List It}{F:Prop}(h:PS sc F)(he:F=nc P GE A m c sc st (FN .normal (S s))):aQ P GE m c (LQ S ex so (.inl s)) st:=rF hf sc (Eq.mp he h)
theorem F3(hf:P.follows .mixedOrders=true){σ X:Type}{S:σ->ak}{ex:X->Exit}{so:X->ak}{c:Code}{x:X}{st:ak}{sc:List It}{F:Prop}(hn:ex x≠.normal)(h:PS sc F)(he:F=nc P GE A m c sc st (FN (ex x) (so x))):aQ P GE m c (LQ S ex so (.inr x)) st:=GI hf sc hn (Eq.mp he h)
theorem C.evp(hf:P.follows .mixedOrders=true){f:FuncId}{fn:Func}{c:Code}{args:List PVal}{r:PVal}{ro:List (Nat×TypeId)}
  (hcall:∀vs w,(callFunc f vs).run P w=.ok (.enter f vs) w) (hfn:P.funcs[f]? =some fn) (hb:fn.body=some c) (hcl:jv 0 args) {sc:List It} {F:Prop} (h:PS sc F)
  (he:F=nc P GE A 0 c sc ⟨args++List.replicate (fn.ntmps - args.length) .undef,[],[]⟩ (FR P fn.results.toList r ro)):CC P GE f args r ro:=C.ev hf hcall hfn hb hcl sc (Eq.mp he h)
theorem C.evGp(hf:P.follows .mixedOrders=true){f:FuncId}{fn:Func}{c:Code}{args:List PVal}{oa:List ((Nat×Nat)×TypeId)}{H:List ai}{r:PVal}{ro:List (Nat×TypeId)}{H':List ai}
  (hm:decide (m % 1000=H.length)&&decide (m≠0)&&decide (H'.length=H.length)=true) (hcall:∀vs w,(callFunc f vs).run P w=.ok (.enter f vs) w) (hfn:P.funcs[f]? =some fn) (hb:fn.body=some c) {sc:List It} {F:Prop} (h:PS sc F)
  (he:F=nc P GE A m c sc ⟨args++List.replicate (fn.ntmps - args.length) .undef,H,oa⟩ (Fl P fn.results.toList r ro H')):C P GE f args oa H r ro H':=C.evG hf hm hcall hfn hb sc (Eq.mp he h)
end
section
variable{P:Program}{GE:List (Nat×List PVal)}{A:List Nat}{m:Nat}
theorem gn(hf:P.follows .mixedOrders=true){σ X:Type}{S:σ->ak}{ex:X->Exit}{so:X->ak}{c:Code}{s:σ}{st:ak}{sc:List It}{F:Prop}(h:PS sc F)(he:F=nc P GE A m c sc st (Fk m .normal (S s))):aQ P GE m c (LQ S ex so (.inl s)) st:=F0 hf sc (Eq.mp he h)
theorem nN(hf:P.follows .mixedOrders=true){σ X:Type}{S:σ->ak}{ex:X->Exit}{so:X->ak}{c:Code}{x:X}{st:ak}{sc:List It}{F:Prop}(hn:ex x≠.normal)(h:PS sc F)(he:F=nc P GE A m c sc st (Fk m (ex x) (so x))):aQ P GE m c (LQ S ex so (.inr x)) st:=F4 hf sc hn (Eq.mp he h)
end
def tm(n:Nat):Nat->List (Nat×PVal)->List PVal
 |k,[]=>List.replicate (n - k) .undef
 |k,x::l=>List.replicate (x.1 - k) .undef++x.2::tm n (x.1+1) l
abbrev da(n:Nat)(l:List (Nat×PVal))(H:List ai)(o:List ((Nat×Nat)×TypeId)):ak:=⟨tm n 0 l,H,o⟩
def FI(n:Nat):List (Nat×PVal)->Prop
 |[]=>True
 |x::l=>x.2.cl n/\FI n l
theorem xg{n:Nat}{l:List PVal}(h:jv n l):∀k,jv n (List.replicate k .undef++l)
 |0=>h
 |k+1=>by rw[List.replicate_succ,vcp];exact⟨trivial,xg h k⟩
theorem eG{n N:Nat}:∀{l:List (Nat×PVal)} {k:Nat},FI n l->jv n (tm N k l)
 |[],k,_=>by unfold tm;have:=xg (n:=n) (l:=[]) trivial (N - k);rwa[vbx]at this
 |x::l,k,h=>by unfold tm;exact xg (l:=x.2::tm N (x.1+1) l) (by simp only[jv];exact⟨h.1,eG h.2⟩) _
def bits:Nat->Nat->List Bool->List Bool
 |0,_,l=>l
 |k+1,n,l=>if n<=1 then l else bits k (n / 2) ((n % 2==1)::l)
def cA(c:Code)(n:Nat):Code:=qB c (bits 100 n [])
theorem eF(e:Exit)(s:ak):PS [] (e=e/\s.tmps=s.tmps/\s.boxes=s.boxes/\true=true):=⟨rfl,fr s⟩
theorem tk(m:Nat)(e:Exit)(s:ak)(h4:decide (m % 1000<=s.boxes.length)=true)(h5:jv s.boxes.length s.tmps)(h6:xd s.boxes.length s.boxes):PS [] (e=e/\s.tmps=s.tmps/\s.boxes=s.boxes/\true=true/\decide (m % 1000<=s.boxes.length)=true/\jv s.boxes.length s.tmps/\xd s.boxes.length s.boxes):=⟨rfl,Ho m s h4 h5 h6⟩
def oH(n:Nat)(i:Int):Option Nat:=if 0<=i/\i<n then some i.toNat else none
def cN{α:Type}(n:Nat)(f:α->PVal)(x:Nat->α):List PVal:=(List.range n).map fun k=>f (x k)
def gE{α:Type}(x:Nat->α)(L:Nat)(v:α):Nat->α:=fun k=>if k=L then v else x k
def qx{α:Type}(z:α):Nat->α:=fun _=>z
def lZ{α:Type}(z:α)(l:List α):Nat->α:=fun k=>l.getD k z
theorem rq{n x:Nat}{i:Int}(h:oH n i=some x):0<=i/\i<n/\x=i.toNat/\x<n:=by
 unfold oH at h
 split at h
 ·rename_i hh;cases h;exact⟨hh.1,hh.2,rfl,by omega⟩
 ·cases h
theorem GG{n x:Nat}{i:Int}(h:oH n i=some x):0+x * 1<n:=by
 have:=(rq h).2.2.2;omega
theorem D5{n m x y:Nat}{i j:Int}(h:oH n i=some x)(h':oH m j=some y):0+x * m+y * 1<n * m:=by
 have h1:=(rq h).2.2.2
 have h2:=(rq h').2.2.2
 have h3:(x+1) * m<=n * m:=vaK m h1
 rw[va4,vbO]at h3
 omega
section
variable{P:Program}{α:Type}{n:Nat}{f:α->PVal}{x:Nat->α}
theorem qy:(cN n f x).length=n:=by simp[cN]
theorem Az{k:Nat}(h:k<n):(cN n f x)[k]? =some (f (x k)):=by
 unfold cN;rw[vax,vaZ h];rfl
theorem Cj(h:∀a,(f a).cl 0):jv 0 (cN n f x):=xe fun p hp=>by
 obtain⟨k,_,rfl⟩:=vas.1 hp;exact h _
theorem EA(h:∀a,(f a).one=true):∀q∈cN n f x,q.one=true:=fun p hp=>by
 obtain⟨k,_,rfl⟩:=vas.1 hp;exact h _
theorem yy{t e:TypeId}{m:Nat}(hu:P.underlying t=some (.array n e))(hi:(P.info? e).isSome=true)(hm:P.cellsOf e=m){b off y:Nat}{k:IntKind}{i:Int}(h:oH n i=some y):cU P t (.bptr b off) (.int k i)=some (.bptr b (off+y * m)):=by
 obtain⟨h0,h1,rfl,_⟩:=rq h
 unfold cU
 rw[hu]
 simp only
 rw[vaf ⟨h0,h1,hi⟩,hm]
theorem Ck{t:TypeId}(hs:(P.underlying t).any qq=true){L:Nat}(h:L<n):bm P t ((cN n f x).drop L)=some (f (x L)):=by
 have hl:L<(cN n f x).length:=by rw[qy];exact h
 rw[vbb hl]
 have:=Az (f:=f) (x:=x) h
 rw[vab hl]at this
 rw[vaQ this]
 exact xJ hs _ _
theorem EB{L:Nat}(h:L<n)(v:α):(cN n f x).take L++[f v]++(cN n f x).drop (L+1)=cN n f (gE x L v):=by
 have hl:((cN n f x).take L).length=L:=by rw[vbc,qy];omega
 apply vbe
 intro k
 by_cases hk:k<n
 ·rw[Az hk]
  unfold gE
  by_cases h1:k<L
  ·rw[vbs,vad (by omega),vaw h1,Az hk,vag (by omega)]
  ·by_cases h2:k=L
   ·subst h2
    rw[vbs,vai (by omega),hl,vbQ,vaf rfl]
    rfl
   ·rw[vai (by simp;omega),vaV,vag h2]
    have:L+1+(k - ((cN n f x).take L++[f v]).length)=k:=by simp[hl];omega
    rw[this,Az hk]
 ·rw[vaA (by simp[qy];omega),vaA (by rw[qy];omega)]
theorem D2{t:TypeId}(hc:P.cellsOf t=1)(hi:(P.info? t).isSome=true)(ho:∀a,(f a).one=true){L:Nat}{v:α}(h:L<n)(hp:∀a,bI (f a)=some [f a]):bC P t (.bptr 0 L) (f v) [.cells (cN n f x) []]=some [.cells (cN n f (gE x L v)) []]:=by
 unfold bC
 simp only[hp,List.getElem?_cons_zero]
 rw[vaf ⟨hc.symm,hi,by rw[qy];show L+1<=n;omega,by simp[ho]⟩]
 have:=EB (f:=f) (x:=x) h v
 simp only[List.length_singleton]
 rw[this]
 rfl
end
open Go Go.Proofs.Tryd
set_option linter.unusedVariables false
set_option maxRecDepth 100000
noncomputable abbrev Pg:=Tryd.prog
theorem mixed:Pg.follows .mixedOrders=true:=by kernel_rfl
structure ag where
 From:Int
 To:Int
 Strict:Bool
deriving DecidableEq
def am(x:ag):List PVal:=[.int .i64 x.From,.int .i64 x.To,.bool x.Strict]
theorem pK(x:ag):am x=[.int .i64 x.From,.int .i64 x.To,.bool x.Strict]:=rfl
theorem aA(x:ag):jv 0 (am x):=(aI trivial (aI trivial (aI trivial trivial)))
abbrev Ap(x:ag):PVal:=.agg (am x)
theorem uY(x:ag):(am x).length=3:=by rw[pK];rfl
theorem rI(x:ag):bI (.agg (am x))=some (am x):=rfl
theorem y8(x:ag):bI (Ap x)=some (am x):=rfl
theorem mO(x:ag):bI (.agg (am x))=some [.int .i64 x.From,.int .i64 x.To,.bool x.Strict]:=by rw[pK];rfl
theorem CU(x:ag):∀q∈am x,q.one=true:=by
 intro q hq
 rw[pK]at hq
 simp only[vay,vb7,or_false]at hq
 rcases hq with rfl|rfl|rfl<;>rfl
theorem Dz:Pg.cellsOf 43=3:=by kernel_rfl
theorem jy(x:ag):bm Pg 43 (am x)=some (.agg (am x)):=by
 have:=sW (P:=Pg) (t:=43) (l:=am x) (r:=[]) (by kernel_rfl) (Dz.trans (uY x).symm)
 rwa[vbx]at this
theorem uZ(x:ag)(r:List PVal):bm Pg 43 ([.int .i64 x.From,.int .i64 x.To,.bool x.Strict]++r)=some (.agg (am x)):=by
 rw[<-pK];exact sW (by kernel_rfl) (Dz.trans (uY x).symm)
def kn(x y:ag):Bool:=(x.From==y.From)&&((x.To==y.To)&&((x.Strict==y.Strict)&&(true)))
theorem CR(x y:ag):y6 Pg .neq 43 (.agg (am x)) (.agg (am y))=some (.bool (!(kn x y))):=by kernel_rfl
theorem zO(x y:ag):kn x y=decide (x=y):=by
 cases x;cases y;rw[vby];simp[kn]
theorem qe(x0:Int)(x1:Int)(x2:Bool):fe Pg 43 [(0,.int .i64 x0),(1,.int .i64 x1),(2,.bool x2)]=some (.agg (am (⟨x0,x1,x2⟩:ag))):=by
 kernel_rfl
theorem fb(x:ag):dM Pg 43 (.eptr (am x)) 0=some (.eptr ((am x).drop 0)):=by kernel_rfl
theorem iN(x:ag):dM Pg 43 (.eptr (am x)) 1=some (.eptr ((am x).drop 1)):=by kernel_rfl
theorem nE(x:ag):dM Pg 43 (.eptr (am x)) 2=some (.eptr ((am x).drop 2)):=by kernel_rfl
theorem gf(x:ag):bm Pg 3 ((am x).drop 0)=some (.int .i64 x.From):=by kernel_rfl
theorem jS(x:ag):bm Pg 3 ((am x).drop 1)=some (.int .i64 x.To):=by kernel_rfl
theorem pe(x:ag):bm Pg 4 ((am x).drop 2)=some (.bool x.Strict):=by kernel_rfl
structure aa where
 Caller:ah
 Callee:ah
 Arcs:(List ag)
deriving DecidableEq
def ae(x:aa):List PVal:=[.str x.Caller,.str x.Callee,sl am x.Arcs]
theorem cP(x:aa):ae x=[.str x.Caller,.str x.Callee,sl am x.Arcs]:=rfl
theorem af(x:aa):jv 0 (ae x):=(aI trivial (aI trivial (aI (au aA x.Arcs) trivial)))
abbrev pD(x:aa):PVal:=.agg (ae x)
theorem qG(x:aa):(ae x).length=3:=by rw[cP];rfl
theorem eK(x:aa):bI (.agg (ae x))=some (ae x):=rfl
theorem nP(x:aa):bI (pD x)=some (ae x):=rfl
theorem ig(x:aa):bI (.agg (ae x))=some [.str x.Caller,.str x.Callee,sl am x.Arcs]:=by rw[cP];rfl
theorem Ab(x:aa):∀q∈ae x,q.one=true:=by
 intro q hq
 rw[cP]at hq
 simp only[vay,vb7,or_false]at hq
 rcases hq with rfl|rfl|rfl<;>rfl
theorem Dy:Pg.cellsOf 24=3:=by kernel_rfl
theorem cQ(x:aa):bm Pg 24 (ae x)=some (.agg (ae x)):=by
 have:=sW (P:=Pg) (t:=24) (l:=ae x) (r:=[]) (by kernel_rfl) (Dy.trans (qG x).symm)
 rwa[vbx]at this
theorem cR(x:aa)(r:List PVal):bm Pg 24 ([.str x.Caller,.str x.Callee,sl am x.Arcs]++r)=some (.agg (ae x)):=by
 rw[<-cP];exact sW (by kernel_rfl) (Dy.trans (qG x).symm)
theorem jm(x:aa):PVal.agg [.str x.Caller,.str x.Callee,sl am x.Arcs]=.agg (ae x):=by rw[cP]
theorem oV:fe Pg 24 []=some (.agg (ae (⟨([]:ah),([]:ah),([]:List ag)⟩:aa))):=by
 kernel_rfl
theorem oU:xL Pg 24 [] [(2,43)]:=by
 exact⟨[.str ([]:ah),.str ([]:ah),.val y1],by kernel_rfl,(aI rfl trivial)⟩
theorem qf(x0:ah)(x1:ah):fe Pg 24 [(0,.str x0),(1,.str x1)]=some (.agg (ae (⟨x0,x1,([]:List ag)⟩:aa))):=by
 kernel_rfl
theorem qc(x0:ah)(x1:ah):xL Pg 24 [(0,.str x0),(1,.str x1)] [(2,43)]:=by
 exact⟨[.str x0,.str x1,.val y1],by kernel_rfl,(aI rfl trivial)⟩
theorem bB(x:aa):dM Pg 24 (.eptr (ae x)) 0=some (.eptr ((ae x).drop 0)):=by kernel_rfl
theorem bP(x:aa):dM Pg 24 (.eptr (ae x)) 1=some (.eptr ((ae x).drop 1)):=by kernel_rfl
theorem ct(x:aa):dM Pg 24 (.eptr (ae x)) 2=some (.eptr ((ae x).drop 2)):=by kernel_rfl
theorem bR(x:aa):bm Pg 9 ((ae x).drop 0)=some (.str x.Caller):=by kernel_rfl
theorem cq(x:aa):bm Pg 9 ((ae x).drop 1)=some (.str x.Callee):=by kernel_rfl
theorem cu(x:aa):bm Pg 22 ((ae x).drop 2)=some (sl am x.Arcs):=by kernel_rfl
theorem Ha:Pg.cellsOf 4=1:=by kernel_rfl
abbrev kg:=Nat->Bool
def j2(x:kg):List PVal:=cN 36 PVal.bool x
theorem tV(x:kg):jv 0 (j2 x):=Cj (fun _=>trivial)
theorem Gs{x:kg}{L:Nat}(h:L<36):bm Pg 4 ((j2 x).drop L)=some (PVal.bool (x L)):=Ck (show(Pg.underlying 4).any qq=true by kernel_rfl) h
theorem Gt{x:kg}{L:Nat}{v:Bool}(h:L<36):bC Pg 4 (.bptr 0 L) (PVal.bool v) [.cells (j2 x) []]=some [.cells (j2 (gE x L v)) []]:=D2 Ha (by kernel_rfl) (fun _=>rfl) h (fun _=>rfl)
theorem ED:Pg.cellsOf 52=3:=by kernel_rfl
theorem FO:Pg.cellsOf 3=1:=by kernel_rfl
abbrev j0:=Nat->Int
def iL(x:j0):List PVal:=cN 3 (PVal.int .i64) x
abbrev pC(x:j0):PVal:=.agg (iL x)
theorem xh(x:j0):jv 0 (iL x):=Cj (fun _=>trivial)
theorem yX(x:j0):(iL x).length=3:=qy
theorem jV(x:j0):bI (pC x)=some (iL x):=rfl
theorem CT(x:j0):∀q∈iL x,q.one=true:=EA (fun _=>rfl)
theorem DF(x:j0):bm Pg 52 (iL x)=some (.agg (iL x)):=by
 have:=sW (P:=Pg) (t:=52) (l:=iL x) (r:=[]) (by kernel_rfl) (ED.trans (yX x).symm)
 rwa[vbx]at this
theorem Er{x:j0}{L:Nat}(h:L<3):bm Pg 3 ((iL x).drop L)=some ((PVal.int .i64) (x L)):=Ck (show(Pg.underlying 3).any qq=true by kernel_rfl) h
theorem cY(x0:Int)(x1:Int)(x2:Int):fe Pg 52 [(0,(PVal.int .i64) x0),(1,(PVal.int .i64) x1),(2,(PVal.int .i64) x2)]=some (.agg (iL (lZ 0 [x0,x1,x2]))):=by kernel_rfl
theorem GB:Pg.cellsOf 74=36:=by kernel_rfl
abbrev iA:=Nat->Int
def bH(x:iA):List PVal:=cN 36 (PVal.int .i64) x
abbrev E5(x:iA):PVal:=.agg (bH x)
theorem rb(x:iA):jv 0 (bH x):=Cj (fun _=>trivial)
theorem CP(x:iA):(bH x).length=36:=qy
theorem vo(x:iA):bI (E5 x)=some (bH x):=rfl
theorem DG(x:iA):bm Pg 74 (bH x)=some (.agg (bH x)):=by
 have:=sW (P:=Pg) (t:=74) (l:=bH x) (r:=[]) (by kernel_rfl) (GB.trans (CP x).symm)
 rwa[vbx]at this
theorem Ds{x:iA}{L:Nat}(h:L<36):bm Pg 3 ((bH x).drop L)=some ((PVal.int .i64) (x L)):=Ck (show(Pg.underlying 3).any qq=true by kernel_rfl) h
theorem FB{x:iA}{L:Nat}{v:Int}(h:L<36):bC Pg 3 (.bptr 0 L) ((PVal.int .i64) v) [.cells (bH x) []]=some [.cells (bH (gE x L v)) []]:=D2 FO (by kernel_rfl) (fun _=>rfl) h (fun _=>rfl)
theorem Fx{b off:Nat}{k:IntKind}{i:Int}{x:Nat}(h:oH 6 i=some x):cU Pg 45 (.bptr b off) (.int k i)=some (.bptr b (off+x * 1)):=yy underlying45 (by kernel_rfl) Ha h
theorem Gz:Pg.cellsOf 45=6:=by kernel_rfl
theorem Fy{b off:Nat}{k:IntKind}{i:Int}{x:Nat}(h:oH 6 i=some x):cU Pg 46 (.bptr b off) (.int k i)=some (.bptr b (off+x * 6)):=yy underlying46 (by kernel_rfl) Gz h
theorem Ep{b off:Nat}{k:IntKind}{i:Int}{x:Nat}(h:oH 3 i=some x):cU Pg 52 (.bptr b off) (.int k i)=some (.bptr b (off+x * 1)):=yy underlying52 (by kernel_rfl) FO h
theorem A6{b off:Nat}{k:IntKind}{i:Int}{x:Nat}(h:oH 6 i=some x):cU Pg 72 (.bptr b off) (.int k i)=some (.bptr b (off+x * 1)):=yy underlying72 (by kernel_rfl) FO h
theorem GA:Pg.cellsOf 72=6:=by kernel_rfl
theorem A7{b off:Nat}{k:IntKind}{i:Int}{x:Nat}(h:oH 6 i=some x):cU Pg 74 (.bptr b off) (.int k i)=some (.bptr b (off+x * 6)):=yy underlying74 (by kernel_rfl) GA h
theorem gR:ye Pg 22 43 am:=⟨underlying22,fun x=>(uY x).trans Dz.symm,by kernel_rfl,by rw[Dz];decide,by kernel_rfl,vbL (by kernel_rfl),CU,aA⟩
theorem fW:ye Pg 33 24 ae:=⟨underlying33,fun x=>(qG x).trans Dy.symm,by kernel_rfl,by rw[Dy];decide,by kernel_rfl,vbL (by kernel_rfl),Ab,af⟩
theorem Hd:Pg.cellsOf 9=1:=by kernel_rfl
theorem Hb:Pg.cellsOf 5=1:=by kernel_rfl
theorem xV:ye Pg 71 52 iL:=⟨underlying71,fun x=>(yX x).trans ED.symm,by kernel_rfl,by rw[ED];decide,by kernel_rfl,vbL (by kernel_rfl),CT,xh⟩
theorem zn:ye Pg 100 3 (cI .i64):=⟨underlying100,fun _=>FO.symm,by kernel_rfl,by rw[FO];decide,by kernel_rfl,vbL (by kernel_rfl),(GH .i64),(Gy .i64)⟩
theorem Hq:(Pg.underlying 3).any qq=true:=by kernel_rfl
theorem GN:(Pg.underlying 33).any qq=true:=by kernel_rfl
theorem Ht:sZ Pg 4=some (PVal.bool false):=by kernel_rfl
theorem F5:fT Pg 46=some (j2 (qx false)):=by kernel_rfl
theorem GL:fT Pg 52=some (iL (qx 0)):=by kernel_rfl
theorem F6:fT Pg 74=some (bH (qx 0)):=by kernel_rfl
theorem vL:fT Pg 24=some [.str ([]:ah),.str ([]:ah),sl am ([]:List ag)]:=by kernel_rfl
theorem GK:fT Pg 33=some [sl ae ([]:List aa)]:=by kernel_rfl
theorem BP:fT Pg 43=some [.int .i64 0,.int .i64 0,.bool false]:=by kernel_rfl
theorem GM:fT Pg 56=some [.val (.map none)]:=by kernel_rfl
def aT:List ah:=[([97,110,100]:ah),([97,115,115,117,109,101]:ah),([98,111,111,108]:ah),([98,111,117,110,100]:ah),([99,97,115,101]:ah),([99,101,108,108]:ah),([99,108,97,115,115]:ah),([100,97,116,97]:ah),([100,101,102]:ah),([100,105,118]:ah),([101,108,115,101]:ah),([101,110,100]:ah),([102,97,108,115,101]:ah),([102,111,114,97,108,108]:ah),([102,117,110]:ah),([103,101,116]:ah),([105,102]:ah),([105,110]:ah),([105,110,115,116]:ah),([105,110,116]:ah),([105,110,118,97,114,105,97,110,116]:ah),([108,101,116]:ah),([109,97,116,99,104]:ah),([109,101,97,115,117,114,101]:ah),([109,101,116,114,105,99]:ah),([109,111,100]:ah),([109,117]:ah),([110,101,119]:ah),([110,111,116]:ah),([111,102]:ah),([111,114]:ah),([113,117,97,108]:ah),([114,101,102,108,101,99,116]:ah),([115,101,116]:ah),([116,104,101,110]:ah),([116,114,117,101]:ah),([117,115,101]:ah),([118]:ah),([118,97,108]:ah),([116,97,103]:ah),([119,104,101,114,101]:ah),([119,105,116,104]:ah)]
theorem FJ:Pg.cellsOf 101=42:=by kernel_rfl
theorem lP:bm Pg 101 (aT.map PVal.str)=some (.agg (aT.map PVal.str)):=by kernel_rfl
theorem rz{k:IntKind}{i:Int}{x:ah}(h:d9 aT i=some x):nQ Pg 101 (.agg (aT.map PVal.str)) (.int k i)=some (PVal.str x):=FA underlying101 Hd (by kernel_rfl) (by kernel_rfl) (by kernel_rfl) h
def fl:List Int:=[1,10,100,1000,10000,100000,1000000,10000000,100000000,1000000000,10000000000,100000000000,1000000000000,10000000000000,100000000000000,1000000000000000,10000000000000000,100000000000000000,1000000000000000000,10000000000000000000]
theorem FK:Pg.cellsOf 115=20:=by kernel_rfl
theorem GD:Pg.cellsOf 99=1:=by kernel_rfl
def mE:List Int:=[0,1,28,2,29,14,24,3,30,22,20,15,25,17,4,8,31,27,13,23,21,19,16,7,26,12,18,6,11,5,10,9]
theorem FL:Pg.cellsOf 120=32:=by kernel_rfl
def mF:List Int:=[0,1,56,2,57,49,28,3,61,58,42,50,38,29,17,4,62,47,59,36,45,43,51,22,53,39,33,30,24,18,12,5,63,55,48,27,60,41,37,16,46,35,44,21,52,32,23,11,54,26,40,15,34,20,31,10,25,14,19,9,13,8,7,6]
theorem FM:Pg.cellsOf 121=64:=by kernel_rfl
def GE:List (Nat×List PVal):=[(0,aT.map PVal.str),(1,fl.map (PVal.int .u64)),(2,mE.map (PVal.int .u8)),(3,mF.map (PVal.int .u8))]
theorem jZ(A:List Nat){m:Nat}{c:Code}{sc:List It}{F:Prop}{e0:Exit}{st0 st:ak}(h:PS sc F)(he:F=nc Pg GE A m c sc st (FN e0 st0)):aQ Pg GE m c (EX e0 st0) st:=EL mixed h he
theorem zA(A:List Nat){m:Nat}{c:Code}{sc:List It}{F:Prop}{σ X:Type}{S:σ->ak}{ex:X->Exit}{so:X->ak}{s:σ}{st:ak}(h:PS sc F)(he:F=nc Pg GE A m c sc st (FN .normal (S s))):aQ Pg GE m c (LQ S ex so (.inl s)) st:=FY mixed h he
theorem pO(A:List Nat){m:Nat}{c:Code}{sc:List It}{F:Prop}{σ X:Type}{S:σ->ak}{ex:X->Exit}{so:X->ak}{x:X}{st:ak}(hn:ex x≠.normal)(h:PS sc F)(he:F=nc Pg GE A m c sc st (FN (ex x) (so x))):aQ Pg GE m c (LQ S ex so (.inr x)) st:=F3 mixed hn h he
theorem cW(A:List Nat){f:FuncId}{fn:Func}{c:Code}{args:List PVal}{r:PVal}{ro:List (Nat×TypeId)}(hcall:∀vs w,(callFunc f vs).run Pg w=.ok (.enter f vs) w)(hfn:Pg.funcs[f]? =some fn)(hb:fn.body=some c)(hcl:jv 0 args){sc:List It}{F:Prop}(h:PS sc F)(he:F=nc Pg GE A 0 c sc ⟨args++List.replicate (fn.ntmps - args.length) .undef,[],[]⟩ (FR Pg fn.results.toList r ro)):CC Pg GE f args r ro:=C.evp mixed hcall hfn hb hcl h he
abbrev waA:=List aa
abbrev waB:=List ag
abbrev waC:=List ah
theorem DE:∀n,(∀l,Sh Pg n 43 l->∃x,l=am x):=by
 intro n
 induction n using Nat.strongRecOn with
 | ind n ih =>
  cases n with
  |zero=>exact fun l h=>h.elim
  | succ n =>
   exact fun l h=>by
    unfold Sh at h
    rw[underlying43]at h
    obtain⟨a0,b0,rfl,_,h0,a1,b1,rfl,_,h1,a2,b2,rfl,_,h2,rfl⟩:=h
    obtain⟨x0,rfl⟩:=(FQ underlying3) n _ h0
    obtain⟨x1,rfl⟩:=(FQ underlying3) n _ h1
    obtain⟨x2,rfl⟩:=(GF underlying4) n _ h2
    exact⟨(⟨x0,x1,x2⟩:ag),by rw[pK];rfl⟩
theorem Bw:∀n,(∀l,Sh Pg n 24 l->∃x,l=ae x):=by
 intro n
 induction n using Nat.strongRecOn with
 | ind n ih =>
  cases n with
  |zero=>exact fun l h=>h.elim
  | succ n =>
   exact fun l h=>by
    unfold Sh at h
    rw[underlying24]at h
    obtain⟨a0,b0,rfl,_,h0,a1,b1,rfl,_,h1,a2,b2,rfl,_,h2,rfl⟩:=h
    obtain⟨x0,rfl⟩:=(FV underlying9) n _ h0
    obtain⟨x1,rfl⟩:=(FV underlying9) n _ h1
    obtain⟨x2,rfl⟩:=(FT underlying22 DE) n _ h2
    exact⟨(⟨x0,x1,x2⟩:aa),by rw[cP];rfl⟩
set_option linter.unusedSimpArgs false
section
variable{α:Type}
def yh(ord:α->α->Option Int)(x y:α):Bool:=match ord x y with
 |some r=>decide (r<0)
 |none=>false
def zV(lt:α->α->Bool)(x:α):List α->List α
 |[]=>[x]
 |y::r=>if lt y x=true then y::zV lt x r else x::y::r
def pd(lt:α->α->Bool):List α->List α
 |[]=>[]
 |x::r=>zV lt x (pd lt r)
structure Cc(lt:α->α->Bool)(S:α->Prop):Prop where
 irr:∀x,S x->lt x x=false
 trans:∀x y z,S x->S y->S z->lt x y=true->lt y z=true->lt x z=true
 ntrans:∀x y z,S x->S y->S z->lt x y=false->lt y z=false->lt x z=false
 tot:∀x y,S x->S y->lt x y=false->lt y x=false->x=y
theorem sr(lt:α->α->Bool)(x:α):∀l,(zV lt x l).Perm (x::l)
 |[]=>.refl _
 | y :: r => by
  unfold zV
  split
  ·exact((sr lt x r).cons y).trans (List.Perm.swap x y r)
  ·exact .refl _
theorem ip(lt:α->α->Bool):∀l,(pd lt l).Perm l
 |[]=>.refl _
 |x::r=>(sr lt x (pd lt r)).trans ((ip lt r).cons x)
abbrev my(lt:α->α->Bool)(l:List α):Prop:=l.Pairwise fun x y=>lt y x=false
theorem tw{lt:α->α->Bool}{S:α->Prop}(h:Cc lt S)(x:α)(hx:S x):∀{l},(∀y∈l,S y)->my lt l->my lt (zV lt x l)
 |[],_,_=>by simp[zV,my]
 | y :: r,hS,hs => by
  unfold my at hs ⊢
  have h':=vaX.1 hs
  have hy:=hS y (by simp)
  have hr:∀z∈r,S z:=fun z hz=>hS z (by simp[hz])
  unfold zV
  split
  ·rename_i hyx
   rw[vaX]
   refine⟨fun z hz=>?_,tw h x hx hr h'.2⟩
   rcases vay.1 ((sr lt x r).mem_iff.1 hz)with rfl|hz
   ·cases hc:lt z y with
    |false=>rfl
    |true=>
     have:=h.trans _ _ _ hy hx hy hyx hc
     rw[h.irr _ hy]at this;cases this
   ·exact h'.1 z hz
  ·rename_i hyx
   have hyx:lt y x=false:=by simpa using hyx
   rw[vaX]
   refine⟨fun z hz=>?_,hs⟩
   rcases vay.1 hz with rfl|hz
   ·exact hyx
   ·exact h.ntrans _ _ _ (hr z hz) hy hx (h'.1 z hz) hyx
theorem ma{lt:α->α->Bool}{S:α->Prop}(h:Cc lt S):∀{l},(∀y∈l,S y)->my lt (pd lt l)
 |[],_=>by simp[pd,my]
 |x::r,hS=>by
  unfold pd
  exact tw h x (hS x (by simp)) (fun y hy=>hS y (by have:=(ip lt r).mem_iff.1 hy;simp[this])) (ma h fun y hy=>hS y (by simp[hy]))
theorem py{lt:α->α->Bool}{S:α->Prop}(h:Cc lt S):∀{l r:List α},(∀y∈l,S y)->l.Perm r->my lt l->my lt r->l=r
 |[],r,_,hp,_,_=>(List.Perm.nil_eq hp)
 | x :: l,r,hS,hp,hl,hr => by
  cases r with
  |nil=>exact absurd hp.length_eq (by simp)
  | cons y r =>
   have hl':=vaX.1 hl
   have hr':=vaX.1 hr
   have hxS:=hS x (by simp)
   have hyS:=hS y (hp.mem_iff.2 (by simp))
   have hxy:x=y:=by
    have h1:x∈y::r:=hp.mem_iff.1 (by simp)
    have h2:y∈x::l:=hp.mem_iff.2 (by simp)
    rcases vay.1 h1 with h1|h1
    ·exact h1
    ·rcases vay.1 h2 with h2|h2
     ·exact h2.symm
     ·exact h.tot _ _ hxS hyS (hr'.1 x h1) (hl'.1 y h2)
   subst hxy
   rw[py h (fun z hz=>hS z (by simp[hz])) hp.cons_inv hl'.2 hr'.2]
end
section
variable{α:Type}[DecidableEq α]
def Ff(ord:α->α->Option Int)(l:List α):Bool:=
 decide (l.length<=dF)&&(l.all (fun x=>l.all fun y=>(ord x y).isSome)&&(l.all (fun x=>!yh ord x x)&&
 (l.all (fun x=>l.all fun y=>l.all fun z=>(!(yh ord x y&&yh ord y z)||yh ord x z)&&((yh ord x y||yh ord y z)||!yh ord x z))&&
 l.all fun x=>l.all fun y=>yh ord x y||(yh ord y x||decide (x=y)))))
def qr(ord:α->α->Option Int)(l:List α):Option (List α):=if Ff ord l=true then some (pd (yh ord) l)else none
theorem vd{ord:α->α->Option Int}{l:List α}(h:Ff ord l=true):l.length<=dF/\(∀x∈l,∀y∈l,∃r,ord x y=some r)/\Cc (yh ord) (·∈l):=by
  unfold Ff at h
  simp only[vac,vae,van,vaM,vaH]at h
  obtain⟨h1,h2,h3,h4,h5⟩:=h
  refine⟨h1,fun x hx y hy=>vaz.1 (h2 x hx y hy),fun x hx=>h3 x hx,fun x y z hx hy hz a b=>?_,fun x y z hx hy hz a b=>?_,fun x y hx hy a b=>?_⟩
  · rcases (h4 x hx y hy z hz).1 with h | h
    ·rw[a,b]at h;cases h
    ·exact h
  · rcases (h4 x hx y hy z hz).2 with (h | h) | h
    ·rw[a]at h;cases h
    ·rw[b]at h;cases h
    ·exact h
  · rcases h5 x hx y hy with h | h | h
    ·rw[a]at h;cases h
    ·rw[b]at h;cases h
    ·exact h
theorem xZ{ord:α->α->Option Int}{l r l':List α}(h:qr ord l=some r)(hp:l'.Perm l)(hs:my (yh ord) l'):l'=r:=by
 unfold qr at h
 split at h
 ·rename_i hk
  cases h
  obtain⟨_,_,ho⟩:=vd hk
  exact py ho (fun y hy=>hp.mem_iff.1 hy) (hp.trans (ip _ l).symm) hs (ma ho fun y hy=>hy)
 ·cases h
theorem Dg{ord:α->α->Option Int}{l r:List α}(h:qr ord l=some r):Ff ord l=true/\r.length=l.length:=by
 unfold qr at h
 split at h
 ·rename_i hk
  cases h
  exact⟨hk,(ip _ l).length_eq⟩
 ·cases h
end
theorem dh{n:Int}(h1: -9223372036854775808<=n)(h2:n<9223372036854775808):bN n=n:=E6 h1 h2
theorem fc{α:Type}(l:List α)(i:Nat)(h:i<l.length):d9 l (i:Int)=some l[i]:=by
 unfold d9
 rw[vaf (by omega)]
 simp[h]
theorem gW(l:ah)(i:Nat)(h:i<l.length):gQ l (i:Int)=some ((l[i].toNat:Int)):=by
 unfold gQ;rw[fc l i h];rfl
theorem mB(c:UInt8)(l:ah):gQ (c::l) 0=some (c.toNat:Int):=by
 have:=gW (c::l) 0 (by simp)
 simpa using this
theorem CG{α:Type}(c:α)(l:List α):d9 (c::l) 0=some c:=by
 have:=fc (c::l) 0 (by simp)
 simpa using this
theorem An{α:Type}(l:List α)(i:Nat)(h:i<=l.length):zp l none (some (i:Int))=some (l.take i):=by
 simp[zp,bd,h]
theorem rY{α:Type}(l:List α)(i:Nat)(h:i<=l.length):zp l (some (i:Int)) none=some (l.drop i):=by
 simp[zp,bd,h]
theorem nw{α:Type}{l r:List α}(h:l.length+r.length<=1073741824):app l r=some (l++r):=vaf h
theorem oX{l r:ah}(h:l.length+r.length<=4611686018427387904):Co l r=some (l++r):=vaf h
theorem cz{σ X:Type}{body:σ->Option (σ⊕X)}{s s':σ}(h:body s=some (.inl s')):loop body s=loop body s':=by rw[ua,h]
theorem aG{σ X:Type}{body:σ->Option (σ⊕X)}{s:σ}{x:X}(h:body s=some (.inr x)):loop body s=some x:=by rw[ua,h]
def jY{α σ X:Type}(f:Nat->α->σ->σ⊕X)(e:σ->X):List α->Nat->σ->X
 |[],_,s=>e s
 |x::r,i,s=>match f i x s with
  |.inl s'=>jY f e r (i+1) s'
  |.inr y=>y
theorem mD{α σ τ X:Type}(l:List α)(hl:l.length<9223372036854775808)(mk:Int->σ->τ)(body:τ->Option (τ⊕X))(I:Nat->σ->Prop)(f:Nat->α->σ->σ⊕X)(e:σ->X)
  (hin:∀(i:Nat) (h:i<l.length) s,I i s->body (mk i s)=some (match f i l[i] s with|.inl s'=>.inl (mk (bN ((i:Int)+1)) s')|.inr y=>.inr y)/\∀s',f i l[i] s=.inl s'->I (i+1) s')
  (hend:∀s,I l.length s->body (mk l.length s)=some (.inr (e s))):∀(i:Nat) (s:σ),i<=l.length->I i s->loop body (mk i s)=some (jY f e (l.drop i) i s):=by
 intro i s hi hI
 obtain⟨k,hk⟩:∃k,k+i=l.length:=⟨l.length - i,by omega⟩
 induction k generalizing i s with
 |zero=>
  have:i=l.length:=by omega
  subst this
  rw[ua,hend s hI,List.drop_length]
  rfl
 | succ k ih =>
  have hlt:i<l.length:=by omega
  obtain⟨h1,h2⟩:=hin i hlt s hI
  rw[ua,h1,vbb hlt]
  unfold jY
  cases hf:f i l[i] s with
  |inl s'=>
   simp only
   rw[dh (by omega) (by omega)]
   have:=ih (i+1) s' (by omega) (h2 s' hf) (by omega)
   rw[show((i:Int)+1)=((i+1:Nat):Int) by omega]
   exact this
  |inr y=>rfl
theorem zm{α X:Type}(p:α->Bool)(y e:X):∀(l:List α) (i:Nat),jY (fun _ x (_:Unit)=>if p x=true then Sum.inr y else .inl ()) (fun _=>e) l i ()=if l.any p=true then y else e
 |[],i=>by simp[jY]
 | x :: l,i => by
  have ih:=zm p y e l (i+1)
  unfold jY
  by_cases h:p x=true
  ·simp[h]
  ·simp only[h,if_false,ih,List.any_cons,vck,var]
theorem jT{α X:Type}(l:List α)(hl:l.length<9223372036854775808)(body:Int->Option (Int⊕X))(p:α->Bool)(y e:X)
  (hin:∀(i:Nat) (h:i<l.length),body i=some (if p l[i]=true then .inr y else .inl (bN ((i:Int)+1)))) (hend:body l.length=some (.inr e)) (i:Nat) (hi:i<=l.length):
  loop body (i:Int)=some (if(l.drop i).any p=true then y else e):=by
 have:=mD l hl (fun i (_:Unit)=>i) body (fun _ _=>True) (fun _ x _=>if p x=true then Sum.inr y else .inl ()) (fun _=>e) (fun i h s _=>⟨?_,fun _ _=>trivial⟩) (fun s _=>hend) i () hi trivial
 ·rw[this,zm]
 ·rw[hin i h]
  by_cases hp:p l[i]=true<;>simp[hp]
theorem wW{α X:Type}(p:α->Bool)(y:Nat->X)(e:X):∀(l:List α) (i:Nat),jY (fun j x (_:Unit)=>if p x=true then Sum.inr (y j)else .inl ()) (fun _=>e) l i ()=match l.findIdx? p with|some j=>y (i+j)|none=>e
 |[],i=>by simp[jY]
 | x :: l,i => by
  have ih:=wW p y e l (i+1)
  unfold jY
  rw[List.findIdx?_cons]
  by_cases h:p x=true
  ·simp[h]
  ·simp only[h,if_false,ih,var]
   cases l.findIdx? p with
   |none=>rfl
   |some j=>simp only[vaj];congr 1;omega
theorem su{α X:Type}(l:List α)(hl:l.length<9223372036854775808)(body:Int->Option (Int⊕X))(p:α->Bool)(y:Nat->X)(e:X)
  (hin:∀(i:Nat) (h:i<l.length),body i=some (if p l[i]=true then .inr (y i)else .inl (bN ((i:Int)+1)))) (hend:body l.length=some (.inr e)):
  loop body (0:Int)=some (match l.findIdx? p with|some j=>y j|none=>e):=by
 have:=mD l hl (fun i (_:Unit)=>i) body (fun _ _=>True) (fun j x _=>if p x=true then Sum.inr (y j)else .inl ()) (fun _=>e) (fun i h s _=>⟨?_,fun _ _=>trivial⟩) (fun s _=>hend) 0 () (vaJ _) trivial
 ·simp only[Int.ofNat_zero,vbg]at this
  have this2:=wW p y e l 0
  simp only[vaB]at this2
  rw[<-this2]
  exact this
 ·rw[hin i h]
  by_cases hp:p l[i]=true<;>simp[hp]
section
variable{α β σ τ X Y:Type}
theorem mC(l:List α)(hl:l.length<9223372036854775808)(body:Int->Option (Int⊕X))(k:Int->α->Option (Int⊕X))(p:α->Bool)(y e:X)
  (hb:∀(i:Int),body i=if decide (i<(l.length:Int))=true then(d9 l i).bind (k i)else some (.inr e))
  (hk:∀x∈l,∀i,k i x=some (if p x=true then .inr y else .inl (bN (i+1)))):loop body 0=some (if l.any p=true then y else e):=by
 have:=jT l hl body p y e (fun i hi=>?_) (by rw[hb,vag (by simp)]) 0 (vaJ _)
 ·rw[vbg]at this
  exact this
 ·rw[hb,vaf (by simp;omega),fc l i hi]
  simp only[vaa]
  exact hk _ (vaS hi) i
theorem z6(l:List α)(hl:l.length<9223372036854775808)(body:Int->Option (Int⊕(Int⊕Unit)))(k:Int->α->Option (Int⊕(Int⊕Unit)))(p:α->Bool)
  (hb:∀(i:Int),body i=if decide (i<(l.length:Int))=true then(d9 l i).bind (k i)else some (.inr (.inr ())))
  (hk:∀x∈l,∀i,k i x=some (if p x=true then .inr (.inl i)else .inl (bN (i+1)))):loop body 0=some (match l.findIdx? p with|some j=>.inl (j:Int)|none=>.inr ()):=by
 refine su l hl body p (fun j=>.inl (j:Int)) (.inr ()) (fun i hi=>?_) (by rw[hb,vag (by simp)])
 rw[hb,vaf (by simp;omega),fc l i hi]
 simp only[vaa]
 exact hk _ (vaS hi) i
theorem nI(l:List α)(hl:l.length<9223372036854775808)(mk:Int->σ->τ)(body:τ->Option (τ⊕X))(k:Int->σ->α->Option (τ⊕X))(I:Nat->σ->Prop)(g:α->σ->σ)(e:σ->X)(s0:σ)(h0:I 0 s0)
  (hb:∀(i:Int) (s:σ),body (mk i s)=if decide (i<(l.length:Int))=true then(d9 l i).bind (k i s)else some (.inr (e s)))
  (hin:∀(i:Nat) (h:i<l.length) s,I i s->k i s l[i]=some (.inl (mk (bN ((i:Int)+1)) (g l[i] s)))/\I (i+1) (g l[i] s)):loop body (mk 0 s0)=some (e (l.foldl (fun s x=>g x s) s0)):=by
 have:=mD l hl mk body I (fun _ x s=>.inl (g x s)) e (fun i h s hs=>⟨?_,fun s' hs'=>by cases hs';exact(hin i h s hs).2⟩) (fun s hs=>by rw[hb,vag (by simp)]) 0 s0 (vaJ _) h0
 ·rw[vbg,show((0:Nat):Int)=0 from rfl]at this
  rw[this]
  have key:∀(l:List α) (i:Nat) (s:σ),jY (fun _ x (s:σ)=>(Sum.inl (g x s):σ⊕X)) e l i s=e (l.foldl (fun s x=>g x s) s):=by
   intro l
   induction l with
   |nil=>intro i s;rfl
   |cons x l ih=>intro i s;unfold jY;simp only;rw[ih];rfl
  rw[key]
 ·rw[hb,vaf (by simp;omega),fc l i h]
  simp only[vaa]
  exact(hin i h s hs).1
end
theorem qI{σ X:Type}(n:Nat)(body:σ->Option (σ⊕X))(S:Nat->σ)(e:X)(hin:∀i,i<n->body (S i)=some (.inl (S (i+1))))(hend:body (S n)=some (.inr e)):loop body (S 0)=some e:=by
 have key:∀k i,k+i=n->loop body (S i)=some e:=by
  intro k
  induction k with
  |zero=>
   intro i hi
   have:i=n:=by omega
   subst this
   exact aG hend
  |succ k ih=>
   intro i hi
   rw[cz (hin i (by omega))]
   exact ih (i+1) (by omega)
 exact key n 0 (by omega)
def Bx(X:Nat->Int):Prop:=∀L,X L=0\/X L=1\/X L=2
def mx(a b:Int):Int:=if b>a then b else a
def uw(X Y:Nat->Int)(f t m:Nat)(b:Int):Int:=if X (f * 6+m)>0/\Y (m * 6+t)>0 then mx (mx b (X (f * 6+m))) (Y (m * 6+t))else b
def wF(X Y:Nat->Int)(f t:Nat):Nat->Int
 |0=>0
 |m+1=>uw X Y f t m (wF X Y f t m)
theorem AT(a b:Int):a<=mx a b/\b<=mx a b/\(mx a b=a\/mx a b=b):=by unfold mx;split<;>omega
theorem Hp{a x y:Int}(ha:a=0\/a=1\/a=2)(hx:x=0\/x=1\/x=2)(hy:y=0\/y=1\/y=2)(h1:x>0)(h2:y>0):(mx (mx a x) y=0\/mx (mx a x) y=1\/mx (mx a x) y=2)/\mx (mx a x) y>0/\(mx (mx a x) y=2↔a=2\/x=2\/y=2):=by
 have s1:=AT a x
 have s2:=AT (mx a x) y
 omega
theorem f0{X Y:Nat->Int}(hX:Bx X)(hY:Bx Y)(f t:Nat):∀n,(wF X Y f t n=0\/wF X Y f t n=1\/wF X Y f t n=2)/\(wF X Y f t n>0↔∃m,m<n/\X (f * 6+m)>0/\Y (m * 6+t)>0)/\
  (wF X Y f t n=2↔∃m,m<n/\X (f * 6+m)>0/\Y (m * 6+t)>0/\(X (f * 6+m)=2\/Y (m * 6+t)=2))
 | 0 => by
  refine⟨.inl rfl,⟨fun h=>?_,fun⟨m,h,_⟩=>absurd h (vaI _)⟩,⟨fun h=>?_,fun⟨m,h,_⟩=>absurd h (vaI _)⟩⟩
  ·simp[wF]at h
  ·simp[wF]at h
 | n + 1 => by
  obtain⟨h1,h2,h3⟩:=f0 hX hY f t n
  have hx:=hX (f * 6+n)
  have hy:=hY (n * 6+t)
  unfold wF uw
  by_cases hc:X (f * 6+n)>0/\Y (n * 6+t)>0
  ·rw[vaf hc]
   obtain⟨m1,m2,m3⟩:=Hp h1 hx hy hc.1 hc.2
   refine⟨m1,⟨fun _=>⟨n,vb5 n,hc.1,hc.2⟩,fun _=>m2⟩,m3.trans ⟨fun h=>?_,fun⟨m,hm,a,b,hh⟩=>?_⟩⟩
   ·rcases h with h|h
    ·obtain⟨m,hm,hh⟩:=h3.1 h
     exact⟨m,Nat.lt_succ_of_lt hm,hh⟩
    ·exact⟨n,vb5 n,hc.1,hc.2,h⟩
   ·by_cases hmn:m=n
    ·subst hmn;exact .inr hh
    ·exact .inl (h3.2 ⟨m,by omega,a,b,hh⟩)
  ·rw[vag hc]
   refine⟨h1,h2.trans ⟨fun⟨m,hm,hh⟩=>⟨m,by omega,hh⟩,fun⟨m,hm,a,b⟩=>?_⟩,h3.trans ⟨fun⟨m,hm,hh⟩=>⟨m,by omega,hh⟩,fun⟨m,hm,a,b,hh⟩=>?_⟩⟩
   ·by_cases hmn:m=n
    ·subst hmn;exact absurd ⟨a,b⟩ hc
    ·exact⟨m,by omega,a,b⟩
   ·by_cases hmn:m=n
    ·subst hmn;exact absurd ⟨a,b⟩ hc
    ·exact⟨m,by omega,a,b,hh⟩
def gF(X Y:Nat->Int)(L:Nat):Int:=if L<36 then wF X Y (L / 6) (L % 6) 6 else 0
theorem g7{X Y:Nat->Int}{f t:Nat}(hf:f<6)(ht:t<6):gF X Y (f * 6+t)=wF X Y f t 6:=by
 unfold gF
 rw[vaf (by omega),show(f * 6+t) / 6=f by omega,show(f * 6+t) % 6=t by omega]
theorem ru{X Y:Nat->Int}(hX:Bx X)(hY:Bx Y):Bx (gF X Y):=fun L=>by
 unfold gF
 split
 ·exact(f0 hX hY _ _ 6).1
 ·exact .inl rfl
def yM(X Y:Nat->Int):Prop:=∀f t,f<6->t<6->X (f * 6+t)=Y (f * 6+t)
theorem EG{a b:Int}(ha:a=0\/a=1\/a=2)(hb:b=0\/b=1\/b=2)(h1:a>0↔b>0)(h2:a=2↔b=2):a=b:=by omega
theorem u6{X X' Y Y':Nat->Int}(h1:yM X X')(h2:yM Y Y'):yM (gF X Y) (gF X' Y'):=fun f t hf ht=>by
 rw[g7 hf ht,g7 hf ht]
 have key:∀n,n<=6->wF X Y f t n=wF X' Y' f t n:=by
  intro n
  induction n with
  |zero=>intro _;rfl
  |succ n ih=>
   intro hn
   unfold wF uw
   rw[ih (by omega),h1 f n hf (by omega),h2 n t (by omega) ht]
 exact key 6 (vap _)
theorem z7{X Y Z:Nat->Int}(hX:Bx X)(hY:Bx Y)(hZ:Bx Z):yM (gF (gF X Y) Z) (gF X (gF Y Z)):=fun f t hf ht=>by
 rw[g7 hf ht,g7 hf ht]
 have hXY:=ru hX hY
 have hYZ:=ru hY hZ
 obtain⟨a1,a2,a3⟩:=f0 hXY hZ f t 6
 obtain⟨b1,b2,b3⟩:=f0 hX hYZ f t 6
 have pXY:∀m,m<6->(gF X Y (f * 6+m)>0↔∃k,k<6/\X (f * 6+k)>0/\Y (k * 6+m)>0):=fun m hm=>by rw[g7 hf hm];exact(f0 hX hY f m 6).2.1
 have tXY:∀m,m<6->(gF X Y (f * 6+m)=2↔∃k,k<6/\X (f * 6+k)>0/\Y (k * 6+m)>0/\(X (f * 6+k)=2\/Y (k * 6+m)=2)):=fun m hm=>by rw[g7 hf hm];exact(f0 hX hY f m 6).2.2
 have pYZ:∀k,k<6->(gF Y Z (k * 6+t)>0↔∃m,m<6/\Y (k * 6+m)>0/\Z (m * 6+t)>0):=fun k hk=>by rw[g7 hk ht];exact(f0 hY hZ k t 6).2.1
 have tYZ:∀k,k<6->(gF Y Z (k * 6+t)=2↔∃m,m<6/\Y (k * 6+m)>0/\Z (m * 6+t)>0/\(Y (k * 6+m)=2\/Z (m * 6+t)=2)):=fun k hk=>by rw[g7 hk ht];exact(f0 hY hZ k t 6).2.2
 refine EG a1 b1 (a2.trans (Iff.trans ?_ b2.symm)) (a3.trans (Iff.trans ?_ b3.symm))
 ·constructor
  ·rintro⟨m,hm,h1,h2⟩
   obtain⟨k,hk,h3,h4⟩:=(pXY m hm).1 h1
   exact⟨k,hk,h3,(pYZ k hk).2 ⟨m,hm,h4,h2⟩⟩
  ·rintro⟨k,hk,h1,h2⟩
   obtain⟨m,hm,h3,h4⟩:=(pYZ k hk).1 h2
   exact⟨m,hm,(pXY m hm).2 ⟨k,hk,h1,h3⟩,h4⟩
 ·constructor
  ·rintro⟨m,hm,h1,h2,h5⟩
   rcases h5 with h5|h5
   ·obtain⟨k,hk,h3,h4,h6⟩:=(tXY m hm).1 h5
    refine⟨k,hk,h3,(pYZ k hk).2 ⟨m,hm,h4,h2⟩,?_⟩
    rcases h6 with h6|h6
    ·exact .inl h6
    ·exact .inr ((tYZ k hk).2 ⟨m,hm,h4,h2,.inl h6⟩)
   ·obtain⟨k,hk,h3,h4⟩:=(pXY m hm).1 h1
    exact⟨k,hk,h3,(pYZ k hk).2 ⟨m,hm,h4,h2⟩,.inr ((tYZ k hk).2 ⟨m,hm,h4,h2,.inr h5⟩)⟩
  ·rintro⟨k,hk,h1,h2,h5⟩
   rcases h5 with h5|h5
   ·obtain⟨m,hm,h3,h4⟩:=(pYZ k hk).1 h2
    exact⟨m,hm,(pXY m hm).2 ⟨k,hk,h1,h3⟩,h4,.inl ((tXY m hm).2 ⟨k,hk,h1,h3,.inl h5⟩)⟩
   ·obtain⟨m,hm,h3,h4,h6⟩:=(tYZ k hk).1 h5
    refine⟨m,hm,(pXY m hm).2 ⟨k,hk,h1,h3⟩,h4,?_⟩
    rcases h6 with h6|h6
    ·exact .inl ((tXY m hm).2 ⟨k,hk,h1,h3,.inr h6⟩)
    ·exact .inr h6
def rg(x:ag):Prop:=0<=x.From/\x.From<6/\0<=x.To/\x.To<6
instance(x:ag):Decidable (rg x):=by unfold rg;infer_instance
def ix(x:ag):Nat:=x.From.toNat * 6+x.To.toNat
def wt(x:ag):Int:=if x.Strict=true then 2 else 1
def wP(l:List ag):Prop:=(∀x∈l,rg x)/\l.Pairwise fun x y=>ix x<ix y
def ya:List ag->(Nat->Int)->(Nat->Int)
 |[],m=>m
 |x::r,m=>ya r (gE m (ix x) (wt x))
def cO(l:List ag):Nat->Int:=ya l (qx 0)
theorem FW{x:ag}(h:rg x):ix x<36:=by unfold rg at h;unfold ix;omega
theorem vX(x:ag):wt x=1\/wt x=2:=by unfold wt;split<;>simp
theorem ta:∀(l:List ag) (m:Nat->Int) (L:Nat),(∀x∈l,ix x≠L)->ya l m L=m L
 |[],_,_,_=>rfl
 |x::r,m,L,h=>by
  unfold ya
  rw[ta r _ L fun y hy=>h y (by simp[hy])]
  unfold gE
  rw[vag (fun e=>h x (by simp) e.symm)]
theorem wZ:∀(l:List ag) (m:Nat->Int),(l.Pairwise fun x y=>ix x<ix y)->∀x∈l,ya l m (ix x)=wt x
 |[],_,_,x,h=>by cases h
 | y :: r,m,hp,x,h => by
  obtain⟨h1,h2⟩:=vaX.1 hp
  unfold ya
  rcases vay.1 h with rfl|h
  ·rw[ta r _ _ fun z hz=>by have:=h1 z hz;omega]
   unfold gE;rw[vaf rfl]
  ·exact wZ r _ h2 x h
theorem zr:∀(l:List ag) (m:Nat->Int),Bx m->Bx (ya l m)
 |[],_,h=>h
 | x :: r,m,h => by
  unfold ya
  refine zr r _ fun L=>?_
  unfold gE
  split
  ·have:=vX x;omega
  ·exact h L
theorem g5(l:List ag):Bx (cO l):=zr l _ fun L=>.inl rfl
theorem pB{l:List ag}(h:wP l){x:ag}(hx:x∈l):cO l (ix x)=wt x:=wZ l _ h.2 x hx
theorem vU{l:List ag}{L:Nat}(h:cO l L>0):∃x∈l,ix x=L:=by
 by_cases hc:∃x∈l,ix x=L
 ·exact hc
 ·have:cO l L=0:=by
   unfold cO
   rw[ta l _ L fun x hx e=>hc ⟨x,hx,e⟩]
   rfl
  omega
def iZ(M:Nat->Int)(L:Nat):ag:=⟨(L / 6:Nat),(L % 6:Nat),M L==2⟩
def ja(M:Nat->Int):List ag:=(List.range 36).filterMap fun L=>if M L>0 then some (iZ M L)else none
theorem rp(M:Nat->Int)(L:Nat):ix (iZ M L)=L:=by
 unfold ix iZ
 simp only[Int.toNat_natCast]
 omega
theorem kB{M:Nat->Int}{x:ag}:x∈ja M↔∃L,L<36/\M L>0/\x=iZ M L:=by
 unfold ja
 rw[vbE]
 constructor
 ·rintro⟨L,hL,hx⟩
  split at hx
  ·cases hx;exact⟨L,vba.1 hL,by assumption,rfl⟩
  ·cases hx
 ·rintro⟨L,hL,hp,rfl⟩
  exact⟨L,vba.2 hL,by rw[vaf hp]⟩
theorem sS(M:Nat->Int):wP (ja M):=by
 refine⟨fun x hx=>?_,?_⟩
 ·obtain⟨L,hL,_,rfl⟩:=kB.1 hx
  unfold rg iZ
  simp only
  omega
 ·unfold ja
  rw[List.pairwise_filterMap]
  refine List.Pairwise.imp ?_ List.pairwise_lt_range
  intro a b hab x hx y hy
  split at hx
  ·split at hy
   ·cases hx;cases hy;rw[rp,rp];exact hab
   ·cases hy
  ·cases hx
theorem Di{M:Nat->Int}(h:Bx M){L:Nat}(hp:M L>0):wt (iZ M L)=M L:=by
 unfold wt iZ
 have:=h L
 by_cases h2:M L=2
 ·simp[h2]
 ·have h3:M L=1:=by omega
  simp[h3]
theorem w0{M:Nat->Int}(h:Bx M):yM (cO (ja M)) M:=fun f t hf ht=>by
 by_cases hp:M (f * 6+t)>0
 ·have hm:iZ M (f * 6+t)∈ja M:=kB.2 ⟨f * 6+t,by omega,hp,rfl⟩
  have:=pB (sS M) hm
  rw[rp,Di h hp]at this
  exact this
 ·have h0:M (f * 6+t)=0:=by have:=h (f * 6+t);omega
  rw[h0]
  by_cases hq:cO (ja M) (f * 6+t)>0
  ·obtain⟨x,hx,hxi⟩:=vU hq
   obtain⟨L,hL,hpL,rfl⟩:=kB.1 hx
   rw[rp]at hxi
   subst hxi
   exact absurd hpL hp
  ·have:=g5 (ja M) (f * 6+t);omega
theorem AM{α:Type}(f:α->Nat):∀{l r:List α},l.Pairwise (fun x y=>f x<f y)->r.Pairwise (fun x y=>f x<f y)->(∀x,x∈l↔x∈r)->l=r
 |[],[],_,_,_=>rfl
 |[],y::r,_,_,h=>by have:=(h y).2 (by simp);cases this
 |x::l,[],_,_,h=>by have:=(h x).1 (by simp);cases this
 | x :: l,y :: r,hl,hr,h => by
  obtain⟨l1,l2⟩:=vaX.1 hl
  obtain⟨r1,r2⟩:=vaX.1 hr
  have hxy:x=y:=by
   have h1:=(h x).1 (by simp)
   have h2:=(h y).2 (by simp)
   rcases vay.1 h1 with h1|h1
   ·exact h1
   ·rcases vay.1 h2 with h2|h2
    ·exact h2.symm
    ·have:=r1 x h1;have:=l1 y h2;omega
  subst hxy
  rw[AM f l2 r2 fun z=>⟨fun hz=>?_,fun hz=>?_⟩]
  ·rcases vay.1 ((h z).1 (by simp[hz]))with rfl|hh
   ·exact absurd (l1 z hz) (vbA _)
   ·exact hh
  ·rcases vay.1 ((h z).2 (by simp[hz]))with rfl|hh
   ·exact absurd (r1 z hz) (vbA _)
   ·exact hh
theorem yu{l:List ag}(h:wP l){x:ag}(hx:x∈l):iZ (cO l) (ix x)=x:=by
 obtain⟨a,b,c,d⟩:=h.1 x hx
 have hw:=pB h hx
 unfold iZ
 rw[hw]
 have e1:((ix x / 6:Nat):Int)=x.From:=by unfold ix;omega
 have e2:((ix x % 6:Nat):Int)=x.To:=by unfold ix;omega
 obtain⟨xf,xt,xs⟩:=x
 simp only at e1 e2 ⊢
 rw[e1,e2]
 unfold wt
 cases xs<;>rfl
theorem Ba{l:List ag}(h:wP l):ja (cO l)=l:=by
 refine AM ix (sS _).2 h.2 fun x=>⟨fun hx=>?_,fun hx=>?_⟩
 ·obtain⟨L,hL,hp,rfl⟩:=kB.1 hx
  obtain⟨y,hy,rfl⟩:=vU hp
  rw[yu h hy];exact hy
 ·refine kB.2 ⟨ix x,FW (h.1 x hx),?_,(yu h hx).symm⟩
  rw[pB h hx]
  have:=vX x;omega
theorem yS{α β:Type}{f g:α->Option β}:∀{l:List α},(∀x∈l,f x=g x)->l.filterMap f=l.filterMap g
 |[],_=>rfl
 |x::l,h=>by rw[List.filterMap_cons,List.filterMap_cons,h x (by simp),yS fun y hy=>h y (by simp[hy])]
theorem yv{M M':Nat->Int}(h:yM M M'):ja M=ja M':=by
 unfold ja
 refine yS fun L hL=>?_
 have hL':=vba.1 hL
 have:=h (L / 6) (L % 6) (by omega) (by omega)
 rw[show L / 6 * 6+L % 6=L by omega]at this
 unfold iZ
 rw[this]
def bV(a b:aa):aa:=⟨a.Caller,b.Callee,ja (gF (cO a.Arcs) (cO b.Arcs))⟩
theorem yH(a b c:aa):bV (bV a b) c=bV a (bV b c):=by
 unfold bV
 simp only
 congr 1
 have hA:=g5 a.Arcs;have hB:=g5 b.Arcs;have hC:=g5 c.Arcs
 have e1:yM (gF (cO (ja (gF (cO a.Arcs) (cO b.Arcs)))) (cO c.Arcs)) (gF (gF (cO a.Arcs) (cO b.Arcs)) (cO c.Arcs)):=u6 (w0 (ru hA hB)) fun _ _ _ _=>rfl
 have e2:yM (gF (cO a.Arcs) (cO (ja (gF (cO b.Arcs) (cO c.Arcs))))) (gF (cO a.Arcs) (gF (cO b.Arcs) (cO c.Arcs))):=u6 (fun _ _ _ _=>rfl) (w0 (ru hB hC))
 have e3:=z7 hA hB hC
 exact yv fun f t hf ht=>(e1 f t hf ht).trans ((e3 f t hf ht).trans (e2 f t hf ht).symm)
end Go.Proofs.YtoficachfgggjaaDoor
namespace Go.Proofs
open Go.Shelf
noncomputable def Tryd.laysM171_ren : Go.Shelf.Ren := ⟨fun | 171 => 31 | 243 => 54 | 246 => 74 | 283 => 89 | 284 => 90 | 285 => 91 | 286 => 92 | 129 => 84 | 317 => 98 | 318 => 99 | 319 => 100 | 320 => 101 | 337 => 103 | 338 => 104 | n => n, fun | 3 => 3 | 9 => 9 | 2 => 2 | 4 => 4 | 171 => 104 | 0 => 0 | 53 => 99 | 37 => 70 | 5 => 5 | 173 => 106 | 212 => 115 | 51 => 97 | 20 => 20 | 213 => 116 | 46 => 78 | 232 => 120 | 233 => 121 | n => n, fun | 17 => 1 | 18 => 2 | 19 => 3 | n => n⟩
theorem Tryd.laysM171 : Go.Proofs.LaysM.n171 Tryd.prog Tryd.laysM171_ren := {
 mixed := by kernel_rfl
 f129 := Tryd.func84.trans (congrArg some (by kernel_rfl))
 f171 := Tryd.func31.trans (congrArg some (by kernel_rfl))
 f243 := Tryd.func54.trans (congrArg some (by kernel_rfl))
 f246 := Tryd.func74.trans (congrArg some (by kernel_rfl))
 f283 := Tryd.func89.trans (congrArg some (by kernel_rfl))
 f284 := Tryd.func90.trans (congrArg some (by kernel_rfl))
 f285 := Tryd.func91.trans (congrArg some (by kernel_rfl))
 f286 := Tryd.func92.trans (congrArg some (by kernel_rfl))
 f317 := Tryd.func98.trans (congrArg some (by kernel_rfl))
 f318 := Tryd.func99.trans (congrArg some (by kernel_rfl))
 f319 := Tryd.func100.trans (congrArg some (by kernel_rfl))
 f320 := Tryd.func101.trans (congrArg some (by kernel_rfl))
 f337 := Tryd.func103.trans (congrArg some (by kernel_rfl))
 f338 := Tryd.func104.trans (congrArg some (by kernel_rfl))
 t0 := Tryd.underlying0
 a0 := Tryd.isAgg0
 z0 := Tryd.sizeOf0
 v0 := Tryd.zeroValue0
 t2 := Tryd.underlying2
 a2 := Tryd.isAgg2
 z2 := Tryd.sizeOf2
 v2 := Tryd.zeroValue2
 t3 := Tryd.underlying3
 a3 := Tryd.isAgg3
 z3 := Tryd.sizeOf3
 v3 := Tryd.zeroValue3
 t4 := Tryd.underlying4
 a4 := Tryd.isAgg4
 z4 := Tryd.sizeOf4
 v4 := Tryd.zeroValue4
 t5 := Tryd.underlying5
 a5 := Tryd.isAgg5
 z5 := Tryd.sizeOf5
 v5 := Tryd.zeroValue5
 t9 := Tryd.underlying9
 a9 := Tryd.isAgg9
 z9 := Tryd.sizeOf9
 v9 := Tryd.zeroValue9
 t20 := Tryd.underlying20
 a20 := Tryd.isAgg20
 z20 := Tryd.sizeOf20
 v20 := Tryd.zeroValue20
 t37 := Tryd.underlying70
 a37 := Tryd.isAgg70
 z37 := Tryd.sizeOf70
 v37 := Tryd.zeroValue70
 t46 := Tryd.underlying78
 a46 := Tryd.isAgg78
 z46 := Tryd.sizeOf78
 v46 := Tryd.zeroValue78
 t51 := Tryd.underlying97
 a51 := Tryd.isAgg97
 z51 := Tryd.sizeOf97
 v51 := Tryd.zeroValue97
 t53 := Tryd.underlying99
 a53 := Tryd.isAgg99
 z53 := Tryd.sizeOf99
 v53 := Tryd.zeroValue99
 t171 := Tryd.underlying104
 a171 := Tryd.isAgg104
 z171 := Tryd.sizeOf104
 v171 := Tryd.zeroValue104
 t173 := Tryd.underlying106
 a173 := Tryd.isAgg106
 z173 := Tryd.sizeOf106
 v173 := Tryd.zeroValue106
 t212 := Tryd.underlying115
 a212 := Tryd.isAgg115
 z212 := Tryd.sizeOf115
 v212 := Tryd.zeroValue115
 t213 := Tryd.underlying116
 a213 := Tryd.isAgg116
 z213 := Tryd.sizeOf116
 t232 := Tryd.underlying120
 a232 := Tryd.isAgg120
 z232 := Tryd.sizeOf120
 v232 := Tryd.zeroValue120
 t233 := Tryd.underlying121
 a233 := Tryd.isAgg121
 z233 := Tryd.sizeOf121
 v233 := Tryd.zeroValue121
 g17 := by kernel_rfl
 g18 := by kernel_rfl
 g19 := by kernel_rfl
 i0 := by kernel_rfl
 i2 := by kernel_rfl
 i3 := by kernel_rfl
 i4 := by kernel_rfl
 i5 := by kernel_rfl
 i9 := by kernel_rfl
 i20 := by kernel_rfl
 i37 := by kernel_rfl
 i46 := by kernel_rfl
 i51 := by kernel_rfl
 i53 := by kernel_rfl
 i171 := by kernel_rfl
 i173 := by kernel_rfl
 i212 := by kernel_rfl
 i232 := by kernel_rfl
 i233 := by kernel_rfl
 m17 := by kernel_rfl
 m18 := by kernel_rfl
 m19 := by kernel_rfl }
noncomputable def Tryd.lc37_ren : Go.Shelf.Ren := ⟨fun | 41 => 37 | n => n, fun | 22 => 22 | 23 => 43 | 4 => 4 | n => n, fun | n => n⟩
theorem Tryd.lc37 : Go.Proofs.SlLaysE0.n41 Tryd.prog Tryd.lc37_ren := {
 mixed := by kernel_rfl
 f41 := ⟨Tryd.f37.name, by decide, Tryd.func37.trans (congrArg some (by kernel_rfl))⟩
 t4 := Tryd.underlying4
 a4 := Tryd.isAgg4
 z4 := Tryd.sizeOf4
 v4 := Tryd.zeroValue4
 t22 := Tryd.underlying22
 a22 := Tryd.isAgg22
 z22 := Tryd.sizeOf22
 v22 := Tryd.zeroValue22 }
noncomputable def Tryd.sf38_ren : Go.Shelf.Ren := ⟨fun | 6 => 38 | 15 => 57 | 14 => 56 | 28 => 83 | 29 => 84 | 20 => 75 | 21 => 76 | 22 => 77 | 23 => 78 | 24 => 79 | 25 => 80 | 26 => 81 | 27 => 82 | 46 => 93 | 47 => 94 | 48 => 95 | 49 => 96 | 50 => 97 | 57 => 102 | n => n, fun | 22 => 33 | 24 => 24 | 25 => 60 | 3 => 3 | 39 => 78 | 0 => 0 | 53 => 97 | 55 => 99 | 4 => 4 | 46 => 90 | 45 => 89 | 50 => 94 | 5 => 5 | 9 => 9 | 66 => 108 | 70 => 112 | 76 => 117 | 77 => 118 | n => n, fun | n => n⟩
theorem Tryd.sf38 : Go.Proofs.SlLaysF0.n6 Tryd.prog Tryd.sf38_ren := {
 mixed := by kernel_rfl
 f6 := ⟨Tryd.f38.name, by decide, Tryd.func38.trans (congrArg some (by kernel_rfl))⟩
 f14 := ⟨Tryd.f56.name, by decide, Tryd.func56.trans (congrArg some (by kernel_rfl))⟩
 f15 := Tryd.func57.trans (congrArg some (by kernel_rfl))
 f20 := ⟨Tryd.f75.name, by decide, Tryd.func75.trans (congrArg some (by kernel_rfl))⟩
 f21 := ⟨Tryd.f76.name, by decide, Tryd.func76.trans (congrArg some (by kernel_rfl))⟩
 f22 := ⟨Tryd.f77.name, by decide, Tryd.func77.trans (congrArg some (by kernel_rfl))⟩
 f23 := ⟨Tryd.f78.name, by decide, Tryd.func78.trans (congrArg some (by kernel_rfl))⟩
 f24 := ⟨Tryd.f79.name, by decide, Tryd.func79.trans (congrArg some (by kernel_rfl))⟩
 f25 := ⟨Tryd.f80.name, by decide, Tryd.func80.trans (congrArg some (by kernel_rfl))⟩
 f26 := ⟨Tryd.f81.name, by decide, Tryd.func81.trans (congrArg some (by kernel_rfl))⟩
 f27 := ⟨Tryd.f82.name, by decide, Tryd.func82.trans (congrArg some (by kernel_rfl))⟩
 f28 := Tryd.func83.trans (congrArg some (by kernel_rfl))
 f29 := Tryd.func84.trans (congrArg some (by kernel_rfl))
 f46 := ⟨Tryd.f93.name, by decide, Tryd.func93.trans (congrArg some (by kernel_rfl))⟩
 f47 := Tryd.func94.trans (congrArg some (by kernel_rfl))
 f48 := Tryd.func95.trans (congrArg some (by kernel_rfl))
 f49 := ⟨Tryd.f96.name, by decide, Tryd.func96.trans (congrArg some (by kernel_rfl))⟩
 f50 := ⟨Tryd.f97.name, by decide, Tryd.func97.trans (congrArg some (by kernel_rfl))⟩
 f57 := ⟨Tryd.f102.name, by decide, Tryd.func102.trans (congrArg some (by kernel_rfl))⟩
 t0 := Tryd.underlying0
 a0 := Tryd.isAgg0
 z0 := Tryd.sizeOf0
 v0 := Tryd.zeroValue0
 t3 := Tryd.underlying3
 a3 := Tryd.isAgg3
 z3 := Tryd.sizeOf3
 v3 := Tryd.zeroValue3
 t4 := Tryd.underlying4
 a4 := Tryd.isAgg4
 z4 := Tryd.sizeOf4
 v4 := Tryd.zeroValue4
 t5 := Tryd.underlying5
 a5 := Tryd.isAgg5
 z5 := Tryd.sizeOf5
 v5 := Tryd.zeroValue5
 t9 := Tryd.underlying9
 a9 := Tryd.isAgg9
 z9 := Tryd.sizeOf9
 v9 := Tryd.zeroValue9
 t22 := Tryd.underlying33
 a22 := Tryd.isAgg33
 z22 := Tryd.sizeOf33
 v22 := Tryd.zeroValue33
 t25 := Tryd.underlying60
 a25 := Tryd.isAgg60
 z25 := Tryd.sizeOf60
 v25 := Tryd.zeroValue60
 t39 := Tryd.underlying78
 a39 := Tryd.isAgg78
 z39 := Tryd.sizeOf78
 v39 := Tryd.zeroValue78
 t45 := Tryd.underlying89
 a45 := Tryd.isAgg89
 z45 := Tryd.sizeOf89
 v45 := Tryd.zeroValue89
 t46 := Tryd.underlying90
 a46 := Tryd.isAgg90
 z46 := Tryd.sizeOf90
 v46 := Tryd.zeroValue90
 t50 := Tryd.underlying94
 a50 := Tryd.isAgg94
 z50 := Tryd.sizeOf94
 v50 := Tryd.zeroValue94
 t53 := Tryd.underlying97
 a53 := Tryd.isAgg97
 z53 := Tryd.sizeOf97
 v53 := Tryd.zeroValue97
 t55 := Tryd.underlying99
 a55 := Tryd.isAgg99
 z55 := Tryd.sizeOf99
 v55 := Tryd.zeroValue99
 t66 := Tryd.underlying108
 a66 := Tryd.isAgg108
 z66 := Tryd.sizeOf108
 v66 := Tryd.zeroValue108
 t70 := Tryd.underlying112
 a70 := Tryd.isAgg112
 z70 := Tryd.sizeOf112
 v70 := Tryd.zeroValue112
 t76 := Tryd.underlying117
 a76 := Tryd.isAgg117
 z76 := Tryd.sizeOf117
 v76 := Tryd.zeroValue117
 t77 := Tryd.underlying118
 a77 := Tryd.isAgg118
 z77 := Tryd.sizeOf118
 v77 := Tryd.zeroValue118 }
end Go.Proofs
namespace Go.Proofs.YtoficachfgggjaaDoor
open Go Go.Shelf Go.RowKit Go.Lib Go.Sort
set_option linter.unusedSimpArgs false
set_option linter.unusedVariables false
def PVal.kd:PVal->Nat
 |.int _ _=>1
 |.bool _=>2
 |.str _=>3
 |.slice _=>4
 |_=>0
def Gl:Value->Nat
 |.int _ _=>1
 |.bool _=>2
 |.string _=>3
 |.slice _ _ _=>4
 |_=>0
theorem VR.kd_eq{Γ:av}{bs:ay}{w:World}{p:PVal}{v:Value}(h:VR Γ bs w p v)(hp:p.kd≠0):Gl v=p.kd:=by
 cases h<;>first|rfl|exact absurd rfl hp
def F8(K:List Nat)(p:PVal):Prop:=p.kd∉K/\(p.kd=1\/p.kd=2\/p.kd=3)
def yQ(K:List Nat):PVal->Prop
 |.int _ _=>True
 |.bool _=>True
 |.str _=>True
 |.slice es=>∀e∈es,∀q∈e,F8 K q
 |_=>False
theorem VR.scal{Γ Γ':av}{bs bs':ay}{w w':World}{p:PVal}{v:Value}(h:VR Γ bs w p v)(hp:p.kd=1\/p.kd=2\/p.kd=3):VR Γ' bs' w' p v:=by
 cases h with
 |int k n=>exact .int k n
 |bool b=>exact .bool b
 |str l=>exact .str l
 |_=>exact absurd hp (by simp[PVal.kd])
theorem VR.off_row{K:List Nat}{Γ Γ':av}{bs bs':ay}{w w':World}{b M:Nat}(hΓ:Γ b=some M)(hrow:∀o,o<M->∃u,w.cell? ⟨b,o,none⟩=some u/\Gl u∈K)
  (hle:∀x n,x≠b->Γ x=some n->Γ' x=some n/\∀o,w'.cell? ⟨x,o,none⟩=w.cell? ⟨x,o,none⟩) {p:PVal} {v:Value} (hp:yQ K p) (h:VR Γ bs w p v):VR Γ' bs' w' p v:=by
 cases h with
 |int k n=>exact .int k n
 |bool b=>exact .bool b
 |str l=>exact .str l
 |sliceNil=>exact .sliceNil
 |sliceE a cap=>exact .sliceE a cap
 | slice es b' off cap n sz vals h0 hcap hg hn hsz hc hv =>
  cases es with
  |nil=>exact .sliceE _ _
  | cons e0 es =>
   have hlen0:=hsz 0 e0 rfl
   have h00:0<e0.length:=by omega
   have q0:e0[0]? =some e0[0]:=vab h00
   have hne:b'≠b:=by
    intro hbb
    subst hbb
    rw[hΓ]at hg;cases hg
    have hcell:=hc 0 e0 0 _ rfl q0
    simp only[vcw,Nat.add_zero]at hcell
    obtain⟨u,hu,hk⟩:=hrow off (by
     have:1 * sz<=(e0::es).length * sz:=vaK sz (by simp)
     omega)
    rw[hu]at hcell;cases hcell
    have hs:=hp e0 (by simp) e0[0] (vaS h00)
    have:=VR.kd_eq (hv 0 e0 0 _ rfl q0) (by rcases hs.2 with h|h|h<;>omega)
    rw[this]at hk
    exact hs.1 hk
   obtain⟨g1,g2⟩:=hle b' n hne hg
   refine .slice _ b' off cap n sz vals h0 hcap g1 hn hsz (fun i e k p he hp'=>(g2 _).trans (hc i e k p he hp')) (fun i e k p he hp'=>VR.scal (hv i e k p he hp') ?_)
   exact(hp e (vau he) p (vau hp')).2
 |undef v=>exact hp.elim
 |val v=>exact hp.elim
 |agg=>exact hp.elim
 |tuple=>exact hp.elim
 |eptrE=>exact hp.elim
 |eptr=>exact hp.elim
 |bptr=>exact hp.elim
 |bsl=>exact hp.elim
 |mapr=>exact hp.elim
 |func=>exact hp.elim
def Aw(P:Program)(fs:FuncId)(k:Nat):Prop:=
 (∀vs w,(callFunc fs vs).run P w=.ok (.enter fs vs) w)/\
 (∀(enc:Nat->List Value) (cf:Nat->Nat->Int) (g blk cap:Nat) (d:Array Nat) (w:World),(∀x,(enc x).length=k)->(∀x,∀v∈enc x,v.oneCell'=true)->SWO (ltOf cf)->(∀vs w,(callFunc g vs).run P w=.ok (.enter g vs) w)->
  CmpLays P g #[] enc k cf blk 0 d.size w->HoldsK enc k w blk 0 d->blk<w.heap.size->d.size<4611686018427387904->
  Calls P fs #[.slice (some ⟨blk,0,none⟩) d.size cap,.func (.func g) #[] #[]] w fun e w'=>e=.returned (.tuple #[])/\∃d' n os,PermIn 0 d.size d d'/\SortedIn (ltOf cf) 0 d.size d'/\w'=sortWorldK enc k w blk 0 n d' os)/\
 ∀(p:Option Addr) (cap:Nat) (fv:Value) (w:World),Calls P fs #[.slice p 0 cap,fv] w fun e w'=>e=.returned (.tuple #[])/\w'=w
theorem vS{enc:Nat->List Value}{k b m:Nat}{dk:Array Nat}{os:Array Obj}{w:World}{x:Nat}(hx:x<w.heap.size)(hb:x≠b):(sortWorldK enc k w b 0 m dk os).heap[x]? =w.heap[x]?:=by
 show((putRowK enc k (Sort.ahead w m) b 0 dk).heap++os)[x]? =_
 have hsz:(putRowK enc k (Sort.ahead w m) b 0 dk).heap.size=w.heap.size:=by simp[putRowK,putRow,mapBlock,Sort.ahead]
 rw[vaN (by rw[hsz];exact hx)]
 show(w.heap.modify b (onCells _))[x]? =_
 rw[vb0,vag (fun e=>hb e.symm)]
theorem vT{enc:Nat->List Value}{k b m:Nat}{dk:Array Nat}{os:Array Obj}{w:World}:w.heap.size<=(sortWorldK enc k w b 0 m dk os).heap.size:=by
 show _<=((putRowK enc k (Sort.ahead w m) b 0 dk).heap++os).size
 have hsz:(putRowK enc k (Sort.ahead w m) b 0 dk).heap.size=w.heap.size:=by simp[putRowK,putRow,mapBlock,Sort.ahead]
 rw[Array.size_append,hsz];omega
theorem BS{enc:Nat->List Value}{k b m:Nat}{dk:Array Nat}{os:Array Obj}{w:World}{cur:Array Value}{e:TypeId}(hh:w.heap[b]? =some (.cells cur e (0,0))):(sortWorldK enc k w b 0 m dk os).heap[b]? =some (.cells (putCells id 0 (flatK enc k dk) cur) e (0,0)):=by
 have hb:b<w.heap.size:=(vak.1 hh).1
 show((putRowK enc k (Sort.ahead w m) b 0 dk).heap++os)[b]? =_
 have hsz:(putRowK enc k (Sort.ahead w m) b 0 dk).heap.size=w.heap.size:=by simp[putRowK,putRow,mapBlock,Sort.ahead]
 rw[vaN (by rw[hsz];exact hb)]
 show(w.heap.modify b (onCells _))[b]? =_
 rw[vb0,vaf rfl,hh]
 rfl
section
variable{P:Program}{GE:List (Nat×List PVal)}{α:Type}{c:α->List PVal}{ord:α->α->Option Int}
theorem Cq{E:lp}{Γ:av}{bs:ay}{ow:Nat->Option iB}{w:World}{a:Array Value}{st:ak}(h:SR P E Γ bs ow w a st)(hE:Au GE 0 E){K:List Nat}{fo b M k N:Nat}
  (hΓ:Γ b=some M) (hb:E.w.heap.size<=b) (hrow:∀o,o<M->∃u,w.cell? ⟨b,o,none⟩=some u/\Gl u∈K)
  (hcc:∀x y r,ord x y=some r->CC P GE fo [.agg (c x),.agg (c y)] (.int .i64 r) []) (hfl:∀x,∀q∈c x,yQ K q)
  {enc:Nat->List Value} {el:Nat->α} (hlen:∀i,(enc i).length=(c (el i)).length) (hvr:∀(i j:Nat) q u,(c (el i))[j]? =some q->(enc i)[j]? =some u->VR Γ bs w q u)
  {cf:Nat->Nat->Int} (hcf:∀i j,ord (el i) (el j)=some (cf i j)):CmpLays P fo #[] enc k cf b 0 N w:=by
 intro m os dk hdk x y
 generalize hWe:sortWorldK enc k w b 0 m dk os=W
 have hkeep:∀x,x<w.heap.size->x≠b->W.heap[x]? =w.heap[x]?:=fun x hx hxb=>by rw[<-hWe];exact vS hx hxb
 have hsz:w.heap.size<=W.heap.size:=by rw[<-hWe];exact vT
 let Γm:av:=fun x=>if x=b then none else Γ x
 have hm:∀x n,x≠b->Γ x=some n->Γm x=some n/\∀o,W.cell? ⟨x,o,none⟩=w.cell? ⟨x,o,none⟩:=fun x n hx hn=>⟨by show(if x=b then none else Γ x)=_;rw[vag hx];exact hn,fun o=>az (hkeep x (h.lt_of_ghost hn) hx) o⟩
 have hmr:∀x n,Γm x=some n->x≠b/\Γ x=some n:=fun x n hx=>by
  have hx:(if x=b then none else Γ x)=some n:=hx
  split at hx
  ·cases hx
  ·exact⟨by assumption,hx⟩
 have hagg:∀i,VR Γm [] W (.agg (c (el i))) (.agg (enc i).toArray):=fun i=>.agg _ _ (by simp[hlen]) fun j p v hp hv=>(hvr i j p v hp (by simpa using hv)).off_row hΓ hrow hm (hfl _ _ (vau hp))
 have hpre:SR P ⟨GE,Γm,W,bo [] fun _=>none⟩ Γm [] (fun _=>none) W #[.agg (enc x).toArray,.agg (enc y).toArray] ⟨[.agg (c (el x)),.agg (c (el y))],[],[]⟩:={
  wi:=fun x n hx=>by
   obtain⟨h1,h2⟩:=hmr x n hx
   obtain⟨cc,t,fr,k1,k2⟩:=h.wi x n h2
   exact⟨cc,t,fr,(hkeep x (h.lt_of_ghost h2) h1).trans k1,k2⟩
  sz:=rfl
  tm:=fun t p v hp hv=>by
   match t with
   |0=>simp at hp hv;subst hp;subst hv;exact hagg x
   |1=>simp at hp hv;subst hp;subst hv;exact hagg y
   |t+2=>simp at hp
  bl:=rfl
  bx:=fun i b B hb=>by simp at hb
  inj:=fun i j b hb=>by simp at hb
  bn:=fun i b hb=>by simp at hb
  on:=fun b L hL=>by cases hL
  ot:=fun t k e he=>by simp at he
  ob:=fun i j e cs own b hB=>by simp at hB
  gl:=fun g cs hg=>(hE.gl g cs hg).mono (fun x n hx hn=>by
   have hlt:=hE.low x n hx
   obtain⟨n',k1,k2,k3⟩:=h.step.le x n hx hn
   obtain⟨g1,g2⟩:=hm x n' (by omega) k1
   exact⟨n',g1,k2,fun o ho=>(g2 o).trans (k3 o ho)⟩) (.refl _)
  gc:=fun g cs hg=>h.gc g cs (by rw[hE.ge];exact hg)
  gx:=fun g cs hg=>by
   obtain⟨k1,_,_,cc,t,fr,k4,k5⟩:=h.gnow (by rw[hE.ge];exact hg)
   obtain⟨g1,_⟩:=h.gx g cs (by rw[hE.ge];exact hg)
   refine⟨vaE k1 hsz,fun hT=>hT.elim (fun hx=>by obtain⟨i,hi⟩:=hx;simp at hi) (fun hx=>hx rfl),cc,t,fr,(hkeep g k1 (by omega)).trans k4,k5⟩
  step:=.refl _ _ _ _}
 refine((hcc _ _ _ (hcf x y)).2.2 Γm [] (fun _=>none) W _ hpre).mono fun e w' he=>?_
 obtain⟨v,Γ',ow',rfl,hS⟩:=he
 have hv:VR Γ' [] w' (.int .i64 (cf x y)) v:=hS.tm 0 _ _ rfl rfl
 cases hv
 refine⟨rfl,w'.drawn - W.drawn,w'.heap.extract W.heap.size w'.heap.size,?_⟩
 have h1:=hS.step.os
 have h2:=hS.step.tape
 have h3:=hS.step.output
 have h4:=hS.step.size
 have h5:=hS.step.drawn
 have h6:=hS.step.keep
 simp only at h1 h2 h3 h4 h5 h6
 have hT:∀b,¬bo [] (fun _=>none) b:=fun b hb=>by
  rcases hb with⟨i,hi⟩|hb
  ·simp at hi
  ·exact hb rfl
 have hheap:w'.heap=W.heap++w'.heap.extract W.heap.size w'.heap.size:=by
  apply vcH
  intro i
  by_cases hi:i<W.heap.size
  ·rw[vaN hi,(h6 i hi (hT i)).1]
  ·rw[vbH (by omega)]
   by_cases hi2:i<w'.heap.size
   ·rw[vcq]
    rw[vaf (by omega)]
    congr 1;omega
   ·rw[vbl (by omega),vbl (by simp;omega)]
 show w'={heap:=W.heap++_,tape:=W.tape,drawn:=W.drawn+(w'.drawn - W.drawn),os:=W.os,output:=W.output}
 rw[<-hheap,show W.drawn+(w'.drawn - W.drawn)=w'.drawn by omega,<-h1,<-h2,<-h3]
end
end Go.Proofs.YtoficachfgggjaaDoor
