/- PROVED: a part of the proof. Conditions: none. -/
import Derived.Test.YtbaamopmfmpfaaaGreatDoorPkD3
import Derived.Shelf.SlicesE.Clone
import Derived.Test.YtbaamopmfmpfaaaGreatDoorPkD7
import Derived.Test.YtbaamopmfmpfaaaGreatDoorChecked
noncomputable section
namespace Go.Proofs.YtbaamopmfmpfaaaGreatDoor
open Go Go.Shelf Go.RowKit Go.Lib
variable{P:Program}{ρ:Ren}
set_option maxHeartbeats 2000000 in
set_option maxRecDepth 100000 in
theorem PI(L:SlLaysE0.n41 P ρ)(i0:TypeInfo)(z:Value)(hi:P.info? (ρ.t 23)=some i0)(hz0:i0.zero=some z)(hzs:z.cells.size=i0.size)(hsz:0<i0.size)
  (z23:∀w,(Go.sizeOf (ρ.t 23)).run P w=.ok i0.size w) (ad:Addr) (c:Nat) (w:World):
  Calls P (ρ.f 41) #[.slice (some ad) 0 c] w fun r w'=>∃v',r=.returned v'/\w'.ownsRow w.heap.size (ρ.t 23) i0.size v' 0 []/\Below w.heap.size w w':=by
 have mixed:=L.mixed;have t4:=L.t4;have a4:=L.a4;have z4:=L.z4;have v4:=L.v4;have t22:=L.t22;have a22:=L.a22;have z22:=L.z22;have v22:=L.v22
 have q22:∀(w:World) (a:Option Addr) (n c n' c':Nat),(binOp .eql (ρ.t 22) (.slice a n c) (.slice none n' c')).run P w=.ok (.bool a.isNone) w:=fun w a n c n' c'=>Lib.run_eql_slice_nil w _ _ a n c n' c' L.t22
 have u22:∀w,Sem.run P (underlying (ρ.t 22)) w=.ok (TypeDesc.slice (ρ.t 23)) w:=run_underlying t22
 obtain⟨_,_,FG⟩:=L.f41
 go_enter FG,SlBodyN.n41_ntmps ρ
 go_wp2_with (at_builtin;refine wpList_append_own _ rfl _ _ (ρ.t 22) rfl w.heap.size (ρ.t 23) i0 z i0.size i0.bytes t22 hi hz0 rfl rfl hzs hsz _ _ _ rfl (World.ownsRow_made w #[] 0 (vah _) (vaP _) (by simp)) ad 0 c [] rfl (by simp) (by simp) (by simp) (by simp) (by simp) (by simp) ?_)
 intro v' w1 hown hgrow _
 go_wp2
 go_ret
 exact⟨v',rfl,by simpa using hown,((Below.refl _ w).alloc (vah _) _).grown hgrow (by simp) (by intro k hk;simp[Value.ownBlock]at hk;omega)⟩
theorem TP(L:SlLaysE0.n41 P ρ)(i0:TypeInfo)(z:Value)(hi:P.info? (ρ.t 23)=some i0)(hz0:i0.zero=some z)(hzs:z.cells.size=i0.size)(hsz:0<i0.size)(hby:i0.bytes<=65536)
  (hcall:∀vs w,(callFunc (ρ.f 41) vs).run P w=.ok (.enter (ρ.f 41) vs) w):lS P (ρ.f 41) (ρ.t 23):=by
 have hc:P.cellsOf (ρ.t 23)=i0.size:=by simp[Program.cellsOf,hi]
 have z23:∀w,(Go.sizeOf (ρ.t 23)).run P w=.ok i0.size w:=fun w=>by rw[<-hc];exact run_sizeOf w hi
 refine⟨hcall,fun w x n news hx hl h1 hn=>?_⟩
 rw[hc]at hl ⊢
 rcases hx with⟨rfl,rfl⟩|⟨a,c,rfl,hcell⟩
 ·have hnews:news=[]:=vas (by simpa using hl)
  subst hnews
  refine(AnyE.slices_Clone_nil L 0 0 w).mono fun r w' hr=>?_
  obtain⟨rfl,rfl⟩:=hr
  exact⟨_,rfl,World.ownsRow_nil _ _ _ _,Below.refl _ _⟩
 ·by_cases h0:n=0
  ·subst h0
   have hnews:news=[]:=vas (by simpa using hl)
   subst hnews
   exact PI L i0 z hi hz0 hzs hsz z23 a c w
  ·have hpos:0<news.length:=by rw[hl];exact vcR (Nat.pos_of_ne_zero h0) hsz
   have hsp:a.spot=none:=by
    have hk:=hcell 0 _ (vab hpos)
    unfold Addr.add at hk
    simp only[if_true]at hk
    unfold World.cell? at hk
    split at hk
    ·split at hk
     ·cases hk
     ·rename_i hs;simpa using hs
    ·cases hk
   obtain⟨b,off,sp⟩:=a
   simp only at hsp
   subst hsp
   refine(AnyE.slices_Clone L i0 z i0.size i0.bytes hi hz0 rfl rfl hzs hsz z23 b off n c news w hl (by unfold maxLen;unfold ef at hn;omega) ?_ (fun j u hj=>by rw[<-Addr.add_lit];exact hcell j u hj) h1).mono fun r w' hr=>?_
   ·have:n * i0.bytes<=1073741824 * 65536:=vca (by unfold ef at hn;omega) hby
    omega
   ·obtain⟨v',k1,k2,_,k3⟩:=hr
    exact⟨v',k1,k2,k3⟩
theorem BA(L:SlLaysE0.n41 P ρ){f:FuncId}{e:TypeId}(hf:ρ.f 41=f)(he:ρ.t 23=e)(hq:(P.info? e).any (fun i=>(i.zero.any fun z=>z.cells.size==i.size)&&decide (0<i.size)&&decide (i.bytes<=65536))=true)
  (hcall:∀vs w,(callFunc f vs).run P w=.ok (.enter f vs) w):lS P f e:=by
 subst hf;subst he
 cases hi:P.info? (ρ.t 23)with
 |none=>rw[hi]at hq;cases hq
 | some i0 =>
  rw[hi]at hq
  simp only[Option.any_some,vag,vam]at hq
  obtain⟨⟨h1,h2⟩,h3⟩:=hq
  cases hz:i0.zero with
  |none=>rw[hz]at h1;cases h1
  |some z=>
   rw[hz]at h1
   simp only[Option.any_some,va0]at h1
   exact TP L i0 z hi hz h1 h2 h3 hcall
end Go.Proofs.YtbaamopmfmpfaaaGreatDoor
namespace Go.Proofs.YtbaamopmfmpfaaaGreatDoor
open Go
def wv{α:Type}(c:α->List PVal)(l:List α):List PVal:=(l.map c).flatten
def kK{α:Type}(l:List α):Option (List α):=if l.length<=ef then some l else none
def Z3{α:Type}(l:List α)(i:Int)(x:α):Option (List α):=if 0<=i/\i.toNat<l.length then some (l.set i.toNat x)else none
abbrev GM(P:Program)(e:TypeId)(i:Int):Nat:=0+i.toNat * P.cellsOf e
section
variable{P:Program}{GE:List (Nat×List PVal)}{T e:TypeId}{α:Type}{c:α->List PVal}
theorem G3{l r:List α}(h:kK l=some r):l.length<=ef/\r=l:=by
 unfold kK at h
 split at h
 ·rename_i hl;cases h;exact⟨hl,rfl⟩
 ·cases h
theorem qJ.mapOk(s:qJ P T e c)(l:List α):∀x∈l.map c,x.length=P.cellsOf e/\∀q∈x,q.one=true:=fun x hx=>by
 obtain⟨y,_,rfl⟩:=vap.1 hx
 exact⟨s.hc y,s.ho y⟩
theorem qJ.cloneCC(s:qJ P T e c){f:FuncId}(hC:lS P f e){l r:List α}(h:kK l=some r):CC P GE f [sl c l] (sl c r) [(0,e)]:=by
 obtain⟨hl,rfl⟩:=G3 h
 exact CC.clone hC ⟨aq s.cl r,trivial⟩ s.hp (s.mapOk r) (by simpa using hl)
theorem qJ.cloneR(s:qJ P T e c){f:FuncId}(hC:lS P f e){l r:List α}(h:kK l=some r):lS P f e/\(0<P.cellsOf e/\(∀x∈l.map c,x.length=P.cellsOf e/\∀q∈x,q.one=true)/\(l.map c).length<=ef)/\(r.length=(l.map c).length/\wv c r=(l.map c).flatten):=by
 obtain⟨hl,rfl⟩:=G3 h
 exact⟨hC,⟨s.hp,s.mapOk r,by simpa using hl⟩,by simp,rfl⟩
theorem qJ.lnR(s:qJ P T e c)(b off n:Nat):∀H,AU P T (.bsl b off n) H=some (.int .i64 (n:Int)):=fun H=>by
 unfold AU;rw[s.hu]
theorem qJ.flat_len(s:qJ P T e c)(l:List α):(wv c l).length=l.length * P.cellsOf e:=by
 unfold wv
 rw[Go.Proofs.YtbaamopmfmpfaaaGreatDoor.flat_len (sz:=P.cellsOf e) (fun x hx=>(s.mapOk l x hx).1)]
 simp
theorem Gf(hc:∀x,(c x).length=P.cellsOf e):∀{l:List α} {i:Nat} {x:α},l[i]? =some x->wv c l=(wv c l).take (i * P.cellsOf e)++c x++(wv c l).drop (i * P.cellsOf e+P.cellsOf e)/\∀y,wv c (l.set i y)=(wv c l).take (i * P.cellsOf e)++c y++(wv c l).drop (i * P.cellsOf e+P.cellsOf e)
 |[],i,x,h=>by simp at h
 |z::l,0,x,h=>by
  simp at h;subst h
  have e1:wv c (z::l)=c z++wv c l:=by simp[wv]
  have e2:∀y,wv c ((z::l).set 0 y)=c y++wv c l:=fun y=>by simp[wv]
  rw[e1]
  simp only[e2,vct,vaK,List.take_zero,vaE]
  rw[<-hc z,List.drop_left]
  exact⟨rfl,fun _=>rfl⟩
 | z :: l,i + 1,x,h => by
  obtain⟨h1,h2⟩:=Gf hc (l:=l) (i:=i) (x:=x) (by simpa using h)
  have e1:wv c (z::l)=c z++wv c l:=by simp[wv]
  have e2:∀y,wv c ((z::l).set (i+1) y)=c z++wv c (l.set i y):=fun y=>by simp[wv]
  have hz:=hc z
  have t1:(c z++wv c l).take ((i+1) * P.cellsOf e)=c z++(wv c l).take (i * P.cellsOf e):=by
   rw[List.take_append,va7,vbF,hz,vbw (by omega),Nat.add_sub_cancel]
  have t2:(c z++wv c l).drop ((i+1) * P.cellsOf e+P.cellsOf e)=(wv c l).drop (i * P.cellsOf e+P.cellsOf e):=by
   rw[vcP,va7,vbF,hz,vbO (by omega),vaE]
   congr 1;omega
  rw[e1,t1,t2]
  refine⟨?_,fun y=>?_⟩
  ·conv=>lhs;rw[h1]
   simp only[va8]
  ·rw[e2,h2];simp only[va8]
theorem qJ.ldR(s:qJ P T e c){l:List α}{i:Int}{x:α}{p:PVal}(hl:∀r,aS P e (c x++r)=some p)(h:cH l i=some x):aS P e ((wv c l).drop (GM P e i))=some p:=by
 obtain⟨h0,h1⟩:=Kc h
 obtain⟨h2,_⟩:=Gf (P:=P) (e:=e) s.hc h1
 have hlen:=s.flat_len l
 have hlt:=am h1
 have hle:i.toNat * P.cellsOf e<=l.length * P.cellsOf e:=vaW _ (vcv hlt)
 rw[GM,vaK]
 have:(wv c l).drop (i.toNat * P.cellsOf e)=c x++(wv c l).drop (i.toNat * P.cellsOf e+P.cellsOf e):=by
  conv=>lhs;rw[h2]
  rw[va8,vcP,vbO (by simp;omega),vaE]
  have:((wv c l).take (i.toNat * P.cellsOf e)).length=i.toNat * P.cellsOf e:=by simp;omega
  rw[this,vbB,va6]
 rw[this];exact hl _
theorem W2{l r:List α}{i:Int}{x:α}(h:Z3 l i x=some r):0<=i/\i.toNat<l.length/\r=l.set i.toNat x:=by
 unfold Z3 at h
 split at h
 ·rename_i hh;cases h;exact⟨hh.1,hh.2,rfl⟩
 ·cases h
theorem qJ.stR(s:qJ P T e c){l r:List α}{i:Int}{x:α}{v:PVal}(hv:bQ v=some (c x))(h:Z3 l i x=some r):dH P e (.bptr 0 (GM P e i)) v [.cells (wv c l) []]=some [.cells (wv c r) []]:=by
 obtain⟨h0,h1,rfl⟩:=W2 h
 obtain⟨_,h2⟩:=Gf (P:=P) (e:=e) s.hc (vab h1)
 have hlen:=s.flat_len l
 have hle:i.toNat * P.cellsOf e+P.cellsOf e<=l.length * P.cellsOf e:=by
  have:=vaW (P.cellsOf e) h1
  rw[Nat.succ_mul]at this;exact this
 unfold dH
 simp only[hv,List.getElem?_cons_zero,GM,vaK]
 rw[vaj ⟨s.hc x,s.hi,by rw[s.hc x];omega,vaw.2 (s.ho x)⟩,h2,s.hc x]
 simp
end
def PS(_:List It)(F:Prop):Prop:=F
section
variable{sc:List It}{F X Y:Prop}
theorem en(h:F):PS [] F:=h
theorem sv{o:Option PVal}{p:PVal}(h:o=some p)(r:PS sc F):PS (.v p::sc) (o=some p/\F):=⟨h,r⟩
theorem cw{o:List aF->Option PVal}{p:PVal}(h:∀H,o H=some p)(r:PS sc F):PS (.v p::sc) ((∀H,o H=some p)/\F):=⟨h,r⟩
theorem sx{o:Option (List PVal)}{l:List PVal}(h:o=some l)(r:PS sc F):PS (.x l::sc) (o=some l/\F):=⟨h,r⟩
theorem se{o:Option (List PVal)}{l:List PVal}(h:o=some l)(r:PS sc F):PS (.e l::sc) (o=some l/\F):=⟨h,r⟩
theorem sg(n:Nat){x b:Bool}(h:x=b)(r:PS sc F):PS (.g n b::sc) (x=b/\F):=⟨h,r⟩
theorem ss(r:PS sc F):PS (.s::sc) F:=r
theorem WY{o:Option (List PVal)}{l:List PVal}(h:o=some l)(r:PS sc F):PS (.s::sc) (o=some l/\F):=⟨h,r⟩
theorem bP{P:Program}{GE:List (Nat×List PVal)}{g:FuncId}{vs:List PVal}{p:PVal}{ro:List (Nat×TypeId)}(h:CC P GE g vs p ro)(r:PS sc F):PS (.c p ro::sc) (CC P GE g vs p ro/\F):=⟨h,r⟩
theorem sb{P:Program}{T:TypeId}{ps:List (Nat×PVal)}{p:PVal}{L:List (Nat×TypeId)}(h:cX P T ps=some p)(h':qY P T ps L)(r:PS sc F):PS (.b p L::sc) (cX P T ps=some p/\qY P T ps L/\F):=⟨h,h',r⟩
theorem sy{l vs:List PVal}(h:l=vs)(r:PS sc F):PS (.y vs::sc) (l=vs/\F):=⟨h,r⟩
theorem Ym{o:Option (List PVal)}{vs:List PVal}(h:o=some vs)(r:PS sc F):PS (.y vs::sc) (o=some vs/\F):=⟨h,r⟩
theorem sz{o:Option PVal}{l:List PVal}(h:o=some (.agg l))(r:PS sc F):PS (.z l::sc) (o=some (.agg l)/\F):=⟨h,r⟩
theorem ra(an:List Nat)(r:PS sc F):PS (.dr an::sc) F:=r
theorem oe(n:Nat)(r:PS sc F):PS (.pa n::sc) F:=r
theorem di{P:Program}{GE:List (Nat×List PVal)}{m:Nat}{c:Code}{e:Exit}{s0 s1:az}(h:aQ P GE m c (EX e s1) s0)(r:PS sc F):PS (.pc s0 e s1::sc) ((s0.tmps=s0.tmps/\s0.boxes=s0.boxes/\true=true)/\aQ P GE m c (EX e s1) s0/\F):=⟨fr s0,h,r⟩
theorem qb5(i:It)(r:PS sc F):PS (i::sc) F:=r
theorem si(i:It)(h:X)(r:PS sc F):PS (i::sc) (X/\F):=⟨h,r⟩
theorem sf(h:X)(r:PS sc F):PS sc (X/\F):=⟨h,r⟩
theorem qdm{o:Option (List aF)}{B:aF}(h:o=some [B])(r:PS sc F):PS (.w 0 B::sc) (o=some [B]/\F):=⟨h,r⟩
theorem qd1{o:Option (List (PVal×PVal))}{m:List (PVal×PVal)}(h:o=some m)(r:PS sc F):PS (.w 0 (.map m)::sc) (o=some m/\F):=⟨h,r⟩
theorem qdl(i:Nat)(e:TypeId){n k:Nat}{cs fs:List PVal}(h:X/\Y/\(n=k/\cs=fs))(r:PS sc F):PS (.ar i e n cs::sc) (X/\Y/\(n=k/\cs=fs)/\F):=⟨h.1,h.2.1,h.2.2,r⟩
theorem qby(i:Nat)(es:List (List PVal))(lv rk:List Nat)(h:X)(h':Y){Z:Prop}(h'':Z)(r:PS sc F):PS (.fz i es lv rk::sc) (X/\Y/\Z/\F):=⟨h,h',h'',r⟩
end
section
variable{P:Program}{GE:List (Nat×List PVal)}{A:List Nat}{m:Nat}
theorem mc(hf:P.follows .mixedOrders=true){c:Code}{e0:Exit}{st0 st:az}{sc:List It}{F:Prop}(h:PS sc F)(he:F=xf P GE A m c sc st (FN e0 st0)):aQ P GE m c (EX e0 st0) st:=piece hf sc (Eq.mp he h)
theorem qbl(hf:P.follows .mixedOrders=true){σ X:Type}{S:σ->az}{ex:X->Exit}{so:X->az}{c:Code}{s:σ}{st:az}{sc:List It}{F:Prop}(h:PS sc F)(he:F=xf P GE A m c sc st (FN .normal (S s))):aQ P GE m c (LQ S ex so (.inl s)) st:=mR hf sc (Eq.mp he h)
theorem qbo(hf:P.follows .mixedOrders=true){σ X:Type}{S:σ->az}{ex:X->Exit}{so:X->az}{c:Code}{x:X}{st:az}{sc:List It}{F:Prop}(hn:ex x≠.normal)(h:PS sc F)(he:F=xf P GE A m c sc st (FN (ex x) (so x))):aQ P GE m c (LQ S ex so (.inr x)) st:=qcJ hf sc hn (Eq.mp he h)
theorem C.evp(hf:P.follows .mixedOrders=true){f:FuncId}{fn:Func}{c:Code}{args:List PVal}{r:PVal}{ro:List (Nat×TypeId)}
  (hcall:∀vs w,(callFunc f vs).run P w=.ok (.enter f vs) w) (hfn:P.funcs[f]? =some fn) (hb:fn.body=some c) (hcl:ii 0 args) {sc:List It} {F:Prop} (h:PS sc F)
  (he:F=xf P GE A 0 c sc ⟨args++List.replicate (fn.ntmps - args.length) .undef,[],[]⟩ (FR P fn.results.toList r ro)):CC P GE f args r ro:=C.ev hf hcall hfn hb hcl sc (Eq.mp he h)
theorem C.evGp(hf:P.follows .mixedOrders=true){f:FuncId}{fn:Func}{c:Code}{args:List PVal}{oa:List ((Nat×Nat)×TypeId)}{H:List aF}{r:PVal}{ro:List (Nat×TypeId)}{H':List aF}
  (hm:decide (m % 1000=H.length)&&decide (m≠0)&&decide (H'.length=H.length)=true) (hcall:∀vs w,(callFunc f vs).run P w=.ok (.enter f vs) w) (hfn:P.funcs[f]? =some fn) (hb:fn.body=some c) {sc:List It} {F:Prop} (h:PS sc F)
  (he:F=xf P GE A m c sc ⟨args++List.replicate (fn.ntmps - args.length) .undef,H,oa⟩ (qaC P fn.results.toList r ro H')):C P GE f args oa H r ro H':=C.evG hf hm hcall hfn hb sc (Eq.mp he h)
end
section
variable{P:Program}{GE:List (Nat×List PVal)}{A:List Nat}{m:Nat}
theorem dV(hf:P.follows .mixedOrders=true){σ X:Type}{S:σ->az}{ex:X->Exit}{so:X->az}{c:Code}{s:σ}{st:az}{sc:List It}{F:Prop}(h:PS sc F)(he:F=xf P GE A m c sc st (qaB m .normal (S s))):aQ P GE m c (LQ S ex so (.inl s)) st:=qbm hf sc (Eq.mp he h)
theorem Gs(hf:P.follows .mixedOrders=true){σ X:Type}{S:σ->az}{ex:X->Exit}{so:X->az}{c:Code}{x:X}{st:az}{sc:List It}{F:Prop}(hn:ex x≠.normal)(h:PS sc F)(he:F=xf P GE A m c sc st (qaB m (ex x) (so x))):aQ P GE m c (LQ S ex so (.inr x)) st:=qbp hf sc hn (Eq.mp he h)
end
def tm(n:Nat):Nat->List (Nat×PVal)->List PVal
 |k,[]=>List.replicate (n - k) .undef
 |k,x::l=>List.replicate (x.1 - k) .undef++x.2::tm n (x.1+1) l
abbrev aW(n:Nat)(l:List (Nat×PVal))(H:List aF)(o:List ((Nat×Nat)×TypeId)):az:=⟨tm n 0 l,H,o⟩
def ZB(n:Nat):List (Nat×PVal)->Prop
 |[]=>True
 |x::l=>x.2.cl n/\ZB n l
theorem N4{n:Nat}{l:List PVal}(h:ii n l):∀k,ii n (List.replicate k .undef++l)
 |0=>h
 |k+1=>by rw[List.replicate_succ,vaG];exact⟨trivial,N4 h k⟩
theorem eh{n N:Nat}:∀{l:List (Nat×PVal)} {k:Nat},ZB n l->ii n (tm N k l)
 |[],k,_=>by unfold tm;have:=N4 (n:=n) (l:=[]) trivial (N - k);rwa[va4]at this
 |x::l,k,h=>by unfold tm;exact N4 (l:=x.2::tm N (x.1+1) l) (by simp only[ii];exact⟨h.1,eh h.2⟩) _
def bits:Nat->Nat->List Bool->List Bool
 |0,_,l=>l
 |k+1,n,l=>if n<=1 then l else bits k (n / 2) ((n % 2==1)::l)
def cA(c:Code)(n:Nat):Code:=fI c (bits 100 n [])
section
variable{X Y:Type}
def oP(F:(X->Option Y)->X->Option Y)(x:X):Option Y:=qbi F Xx x
theorem Zw:18446744073709551616<Xx:=by unfold Xx;omega
theorem cR{F:(X->Option Y)->X->Option Y}{M:X->Y->Prop}(hF:∀rec:X->Option Y,(∀x r,rec x=some r->M x r)->∀x r,F rec x=some r->M x r){x:X}{r:Y}(h:oP F x=some r):M x r:=by
 have key:∀n x r,qbi F n x=some r->M x r:=by
  intro n
  induction n with
  |zero=>intro x r h;cases h
  |succ n ih=>intro x r h;exact hF _ ih x r h
 exact key _ x r h
theorem jl{F:(X->Option Y)->X->Option Y}(μ:X->Nat)(Q:X->Prop)(s:X->Y)(h:∀(R:X->Option Y) x,Q x->(∀y,μ y<μ x->Q y->R y=some (s y))->F R x=some (s x))(x:X)(hx:Q x)(hm:μ x<Xx):oP F x=some (s x):=by
 have key:∀n x,μ x<n->Q x->qbi F n x=some (s x):=by
  intro n
  induction n with
  |zero=>intro x hx;omega
  |succ n ih=>intro x hx hq;exact h _ x hq fun y hy hqy=>ih y (by omega) hqy
 exact key _ x hm hx
end
def U1{α:Type}(n:Nat)(l:List α)(i:Int):Option α:=if 0<=i/\i.toNat<n then l[i.toNat]? else none
def YQ{α:Type}(n:Nat)(l:List α):Option (List α):=if n=l.length then some l else none
theorem XJ{α:Type}{n:Nat}{l:List α}{i:Int}{x:α}(h:U1 n l i=some x):cH l i=some x:=by
 unfold U1 at h
 split at h
 ·rename_i hh;unfold cH;rw[vaj hh.1];exact h
 ·cases h
theorem J6{α:Type}{n:Nat}{l r:List α}(h:YQ n l=some r):n=l.length/\r=l:=by
 unfold YQ at h
 split at h
 ·cases h;exact⟨by assumption,rfl⟩
 ·cases h
section
variable{P:Program}{GE:List (Nat×List PVal)}{T e:TypeId}{α:Type}{c:α->List PVal}
theorem qJ.iaN(s:qJ P T e c)(b:Nat){n:Nat}{l:List α}{i:Int}{k:IntKind}{x:α}(h:U1 n l i=some x):lc P T (.bsl b 0 n) (.int k i)=some (.bptr b (GM P e i)):=by
 unfold U1 at h
 split at h
 ·rename_i hh
  unfold lc
  rw[s.hu]
  simp only
  rw[vaj ⟨hh.1,by omega,s.hi⟩]
 ·cases h
theorem qJ.ldN(s:qJ P T e c){n:Nat}{l:List α}{i:Int}{x:α}{p:PVal}(hl:∀r,aS P e (c x++r)=some p)(h:U1 n l i=some x):aS P e ((wv c l).drop (GM P e i))=some p:=s.ldR hl (XJ h)
theorem qJ.fz1(s:qJ P T e c){m b:Nat}(hb:decide (m % 1000<=b)=true)(l:List α):(m % 1000<=b)/\∃sz,0<sz/\∀x∈l.map c,x.length=sz:=⟨vaC hb,_,s.hp,fun x hx=>(s.mapOk l x hx).1⟩
theorem qJ.fz2(s:qJ P T e c)(b:Nat)(l:List α):Ik b (l.map c):=yi b _ (N3 fun p hp=>by obtain⟨x,_,rfl⟩:=vap.1 hp;exact s.cl x)
theorem qcE(c:α->List PVal){n:Nat}{l r:List α}(h:YQ n l=some r):wv c l=(r.map c).flatten:=by rw[(J6 h).2];rfl
theorem qcF(c:α->List PVal){n:Nat}{l r:List α}(h:YQ n l=some r):n=(r.map c).length:=by rw[(J6 h).2,vaL];exact(J6 h).1
theorem qdc{m b:Nat}(hb:decide (m % 1000<=b)=true)(l:List PVal)(hl:decide (l.length≠0)=true):(m % 1000<=b)/\∃sz,0<sz/\∀x∈[l],x.length=sz:=⟨vaC hb,l.length,by have:=vaC hl;omega,fun x hx=>by rw[va2.1 hx]⟩
theorem qdd(b:Nat){l:List PVal}(h:ii 0 l):Ik b [l]:=yi b _ ⟨h,trivial⟩
theorem qde{l r:List PVal}(h:r=l):l=[r].flatten:=by rw[h];simp
theorem U2(b:Nat){p:PVal}(h:p.cl 0):p.no b:=Qc b p h
end
theorem qb2{α:Type}{c:α->List PVal}(n:Nat)(h:∀x,ii 0 (c x)):∀(l:List α),ii n (wv c l)
 |[]=>trivial
 |x::l=>by
  have e:wv c (x::l)=c x++wv c l:=by simp[wv]
  rw[e]
  exact pJ.2 ⟨oI (h x),qb2 n h l⟩
theorem eF(e:Exit)(s:az):PS [] (e=e/\s.tmps=s.tmps/\s.boxes=s.boxes/\true=true):=⟨rfl,fr s⟩
theorem y4(m:Nat)(e:Exit)(s:az)(h4:decide (m % 1000<=s.boxes.length)=true)(h5:ii s.boxes.length s.tmps)(h6:N2 s.boxes.length s.boxes):PS [] (e=e/\s.tmps=s.tmps/\s.boxes=s.boxes/\true=true/\decide (m % 1000<=s.boxes.length)=true/\ii s.boxes.length s.tmps/\N2 s.boxes.length s.boxes):=⟨rfl,qdT m s h4 h5 h6⟩
open Go Go.Proofs.Tryz
set_option linter.unusedVariables false
set_option maxRecDepth 100000
noncomputable abbrev Pg:=Tryz.prog
theorem mixed:Pg.follows .mixedOrders=true:=by kernel_rfl
structure dc where
 Name:ag
 Sort_:ag
deriving DecidableEq
def bA(x:dc):List PVal:=[.str x.Name,.str x.Sort_]
theorem IF(x:dc):bA x=[.str x.Name,.str x.Sort_]:=rfl
theorem lG(x:dc):ii 0 (bA x):=(aI trivial (aI trivial trivial))
abbrev W4(x:dc):PVal:=.agg (bA x)
theorem P3(x:dc):(bA x).length=2:=by rw[IF];rfl
theorem Wt(x:dc):bQ (W4 x)=some (bA x):=rfl
theorem Wv(x:dc):bQ (.agg (bA x))=some [.str x.Name,.str x.Sort_]:=by rw[IF];rfl
theorem Wo(x:dc):∀q∈bA x,q.one=true:=by
 intro q hq
 rw[IF]at hq
 simp only[vaA,vaJ,or_false]at hq
 rcases hq with rfl|rfl<;>rfl
theorem Vy:Pg.cellsOf 102=2:=by kernel_rfl
theorem XO(x:dc):aS Pg 102 (bA x)=some (.agg (bA x)):=by
 have:=me (P:=Pg) (t:=102) (l:=bA x) (r:=[]) (by kernel_rfl) (Vy.trans (P3 x).symm)
 rwa[va4]at this
theorem PD(x0:ag)(x1:ag):cX Pg 102 [(0,.str x0),(1,.str x1)]=some (.agg (bA (⟨x0,x1⟩:dc))):=by
 kernel_rfl
theorem v8(x:dc):aB Pg 102 (.eptr (bA x)) 0=some (.eptr ((bA x).drop 0)):=by kernel_rfl
theorem AJ(x:dc):aS Pg 9 ((bA x).drop 0)=some (.str x.Name):=by kernel_rfl
inductive aa where
 |mk (Op:Int) (Name:ag) (N:Int) (Kids:(List aa))
def aa.Op:aa->Int
 |⟨x,_,_,_⟩=>x
def aa.Name:aa->ag
 |⟨_,x,_,_⟩=>x
def aa.N:aa->Int
 |⟨_,_,x,_⟩=>x
def aa.Kids:aa->(List aa)
 |⟨_,_,_,x⟩=>x
mutual
def ac:aa->List PVal
 |⟨x0,x1,x2,x3⟩=>[.int .i64 x0,.str x1,.int .i64 x2,.slice (u6 x3)]
def u6:List aa->List (List PVal)
 |[]=>[]
 |x::r=>ac x::u6 r
end
theorem Kh:∀(l:List aa),u6 l=l.map ac
 |[]=>by simp[u6]
 |x::r=>by simp[u6,Kh r]
mutual
theorem ah:∀(x:aa),ii 0 (ac x)
 |⟨x0,x1,x2,x3⟩=>by rw[ac];exact(aI trivial (aI trivial (aI trivial (aI (My x3) trivial))))
theorem My:∀(l:List aa),sI 0 (u6 l)
 |[]=>by simp[u6,sI]
 |x::r=>by rw[u6];exact⟨ah x,My r⟩
end
theorem aE:∀(x:aa),ac x=[.int .i64 x.Op,.str x.Name,.int .i64 x.N,sl ac x.Kids]
 |⟨x0,x1,x2,x3⟩=>by
  simp only[ac,Kh]
  rfl
abbrev ff(x:aa):PVal:=.agg (ac x)
theorem Gk(x:aa):(ac x).length=4:=by rw[aE];rfl
theorem cf(x:aa):bQ (.agg (ac x))=some (ac x):=rfl
theorem dl(x:aa):bQ (ff x)=some (ac x):=rfl
theorem dn(x:aa):bQ (.agg (ac x))=some [.int .i64 x.Op,.str x.Name,.int .i64 x.N,sl ac x.Kids]:=by rw[aE];rfl
theorem Uq(x:aa):∀q∈ac x,q.one=true:=by
 intro q hq
 rw[aE]at hq
 simp only[vaA,vaJ,or_false]at hq
 rcases hq with rfl|rfl|rfl|rfl<;>rfl
theorem XA:Pg.cellsOf 36=4:=by kernel_rfl
theorem aY(x:aa):aS Pg 36 (ac x)=some (.agg (ac x)):=by
 have:=me (P:=Pg) (t:=36) (l:=ac x) (r:=[]) (by kernel_rfl) (XA.trans (Gk x).symm)
 rwa[va4]at this
theorem ch(x:aa)(r:List PVal):aS Pg 36 ([.int .i64 x.Op,.str x.Name,.int .i64 x.N,sl ac x.Kids]++r)=some (.agg (ac x)):=by
 rw[<-aE];exact me (by kernel_rfl) (XA.trans (Gk x).symm)
theorem e9(x:aa):PVal.agg [.int .i64 x.Op,.str x.Name,.int .i64 x.N,sl ac x.Kids]=.agg (ac x):=by rw[aE]
theorem tN:cX Pg 36 []=some (.agg (ac (⟨0,([]:ag),0,([]:List aa)⟩:aa))):=by
 simp only[aE]
 kernel_rfl
theorem tL:qY Pg 36 [] [(3,36)]:=by
 exact⟨[.int .i64 0,.str ([]:ag),.int .i64 0,.val gu],by kernel_rfl,(aI rfl trivial)⟩
theorem oG(x0:Int)(x1:ag):cX Pg 36 [(0,.int .i64 x0),(1,.str x1)]=some (.agg (ac (⟨x0,x1,0,([]:List aa)⟩:aa))):=by
 simp only[aE]
 kernel_rfl
theorem oF(x0:Int)(x1:ag):qY Pg 36 [(0,.int .i64 x0),(1,.str x1)] [(3,36)]:=by
 exact⟨[.int .i64 x0,.str x1,.int .i64 0,.val gu],by kernel_rfl,(aI rfl trivial)⟩
theorem At(x0:Int)(x1:ag)(x2:Int):cX Pg 36 [(0,.int .i64 x0),(1,.str x1),(2,.int .i64 x2)]=some (.agg (ac (⟨x0,x1,x2,([]:List aa)⟩:aa))):=by
 simp only[aE]
 kernel_rfl
theorem Ar(x0:Int)(x1:ag)(x2:Int):qY Pg 36 [(0,.int .i64 x0),(1,.str x1),(2,.int .i64 x2)] [(3,36)]:=by
 exact⟨[.int .i64 x0,.str x1,.int .i64 x2,.val gu],by kernel_rfl,(aI rfl trivial)⟩
theorem xT(x0:Int)(x2:Int):cX Pg 36 [(0,.int .i64 x0),(2,.int .i64 x2)]=some (.agg (ac (⟨x0,([]:ag),x2,([]:List aa)⟩:aa))):=by
 simp only[aE]
 kernel_rfl
theorem xQ(x0:Int)(x2:Int):qY Pg 36 [(0,.int .i64 x0),(2,.int .i64 x2)] [(3,36)]:=by
 exact⟨[.int .i64 x0,.str ([]:ag),.int .i64 x2,.val gu],by kernel_rfl,(aI rfl trivial)⟩
theorem Eo(x0:Int)(x3:(List aa)):cX Pg 36 [(0,.int .i64 x0),(3,sl ac x3)]=some (.agg (ac (⟨x0,([]:ag),0,x3⟩:aa))):=by
 simp only[aE]
 kernel_rfl
theorem JI(x0:Int):cX Pg 36 [(0,.int .i64 x0)]=some (.agg (ac (⟨x0,([]:ag),0,([]:List aa)⟩:aa))):=by
 simp only[aE]
 kernel_rfl
theorem JG(x0:Int):qY Pg 36 [(0,.int .i64 x0)] [(3,36)]:=by
 exact⟨[.int .i64 x0,.str ([]:ag),.int .i64 0,.val gu],by kernel_rfl,(aI rfl trivial)⟩
theorem bq(x:aa):aB Pg 36 (.eptr (ac x)) 0=some (.eptr ((ac x).drop 0)):=by rw[aE];kernel_rfl
theorem cx(x:aa):aB Pg 36 (.eptr (ac x)) 1=some (.eptr ((ac x).drop 1)):=by rw[aE];kernel_rfl
theorem cO(x:aa):aB Pg 36 (.eptr (ac x)) 2=some (.eptr ((ac x).drop 2)):=by rw[aE];kernel_rfl
theorem bu(x:aa):aB Pg 36 (.eptr (ac x)) 3=some (.eptr ((ac x).drop 3)):=by rw[aE];kernel_rfl
theorem bv(x:aa):aS Pg 33 ((ac x).drop 0)=some (.int .i64 x.Op):=by rw[aE];kernel_rfl
theorem cJ(x:aa):aS Pg 9 ((ac x).drop 1)=some (.str x.Name):=by rw[aE];kernel_rfl
theorem dh(x:aa):aS Pg 3 ((ac x).drop 2)=some (.int .i64 x.N):=by rw[aE];kernel_rfl
theorem bw(x:aa):aS Pg 34 ((ac x).drop 3)=some (sl ac x.Kids):=by rw[aE];kernel_rfl
inductive ae where
 |mk (Op:Int) (Name:ag) (Args:(List ae)) (Names:(List ag)) (Pred:aa) (Preds:(List aa))
def ae.Op:ae->Int
 |⟨x,_,_,_,_,_⟩=>x
def ae.Name:ae->ag
 |⟨_,x,_,_,_,_⟩=>x
def ae.Args:ae->(List ae)
 |⟨_,_,x,_,_,_⟩=>x
def ae.Names:ae->(List ag)
 |⟨_,_,_,x,_,_⟩=>x
def ae.Pred:ae->aa
 |⟨_,_,_,_,x,_⟩=>x
def ae.Preds:ae->(List aa)
 |⟨_,_,_,_,_,x⟩=>x
mutual
def af:ae->List PVal
 |⟨x0,x1,x2,x3,x4,x5⟩=>[.int .i64 x0,.str x1,.slice (u7 x2),sl cS x3]++(ac x4++([sl ac x5]))
def u7:List ae->List (List PVal)
 |[]=>[]
 |x::r=>af x::u7 r
end
theorem Ki:∀(l:List ae),u7 l=l.map af
 |[]=>by simp[u7]
 |x::r=>by simp[u7,Ki r]
mutual
theorem av:∀(x:ae),ii 0 (af x)
 |⟨x0,x1,x2,x3,x4,x5⟩=>by rw[af];exact pJ.2 (aI ((aI trivial (aI trivial (aI (Mz x2) (aI (aq iu x3) trivial))))) (pJ.2 (aI (ah x4) ((aI (aq ah x5) trivial)))))
theorem Mz:∀(l:List ae),sI 0 (u7 l)
 |[]=>by simp[u7,sI]
 |x::r=>by rw[u7];exact⟨av x,Mz r⟩
end
theorem bz:∀(x:ae),af x=[.int .i64 x.Op,.str x.Name,sl af x.Args,sl cS x.Names,.int .i64 x.Pred.Op,.str x.Pred.Name,.int .i64 x.Pred.N,sl ac x.Pred.Kids,sl ac x.Preds]
 |⟨x0,x1,x2,x3,x4,x5⟩=>by
  simp only[af,Ki,aE,vaG,vaE]
  rfl
abbrev lO(x:ae):PVal:=.agg (af x)
theorem BH(x:ae):(af x).length=9:=by rw[bz];rfl
theorem co(x:ae):bQ (.agg (af x))=some (af x):=rfl
theorem gi(x:ae):bQ (lO x)=some (af x):=rfl
theorem iX(x:ae):bQ (.agg (af x))=some [.int .i64 x.Op,.str x.Name,sl af x.Args,sl cS x.Names,.int .i64 x.Pred.Op,.str x.Pred.Name,.int .i64 x.Pred.N,sl ac x.Pred.Kids,sl ac x.Preds]:=by rw[bz];rfl
theorem Us(x:ae):∀q∈af x,q.one=true:=by
 intro q hq
 rw[bz]at hq
 simp only[vaA,vaJ,or_false]at hq
 rcases hq with rfl|rfl|rfl|rfl|rfl|rfl|rfl|rfl|rfl<;>rfl
theorem Vz:Pg.cellsOf 38=9:=by kernel_rfl
theorem aZ(x:ae):aS Pg 38 (af x)=some (.agg (af x)):=by
 have:=me (P:=Pg) (t:=38) (l:=af x) (r:=[]) (by kernel_rfl) (Vz.trans (BH x).symm)
 rwa[va4]at this
theorem dj(x:ae)(r:List PVal):aS Pg 38 ([.int .i64 x.Op,.str x.Name,sl af x.Args,sl cS x.Names,.int .i64 x.Pred.Op,.str x.Pred.Name,.int .i64 x.Pred.N,sl ac x.Pred.Kids,sl ac x.Preds]++r)=some (.agg (af x)):=by
 rw[<-bz];exact me (by kernel_rfl) (Vz.trans (BH x).symm)
theorem qd(x:ae):PVal.agg [.int .i64 x.Op,.str x.Name,sl af x.Args,sl cS x.Names,.int .i64 x.Pred.Op,.str x.Pred.Name,.int .i64 x.Pred.N,sl ac x.Pred.Kids,sl ac x.Preds]=.agg (af x):=by rw[bz]
theorem N0(x0:Int)(x1:ag):cX Pg 38 [(0,.int .i64 x0),(1,.str x1)]=some (.agg (af (⟨x0,x1,([]:List ae),([]:List ag),(⟨0,([]:ag),0,([]:List aa)⟩:aa),([]:List aa)⟩:ae))):=by
 simp only[bz]
 kernel_rfl
theorem NX(x0:Int)(x1:ag):qY Pg 38 [(0,.int .i64 x0),(1,.str x1)] [(2,38),(3,9),(7,36),(8,36)]:=by
 exact⟨[.int .i64 x0,.str x1,.val gu,.val gu,.int .i64 0,.str ([]:ag),.int .i64 0,.val gu,.val gu],by kernel_rfl,(aI rfl (aI rfl (aI rfl (aI rfl trivial))))⟩
theorem De(x0:Int)(x1:ag)(x3:(List ag))(x4:aa)(x5:(List aa)):cX Pg 38 [(0,.int .i64 x0),(1,.str x1),(3,sl cS x3),(4,.agg (ac x4)),(5,sl ac x5)]=some (.agg (af (⟨x0,x1,([]:List ae),x3,x4,x5⟩:ae))):=by
 simp only[bz,aE]
 kernel_rfl
theorem Db(x0:Int)(x1:ag)(x3:(List ag))(x4:aa)(x5:(List aa)):qY Pg 38 [(0,.int .i64 x0),(1,.str x1),(3,sl cS x3),(4,.agg (ac x4)),(5,sl ac x5)] [(2,38)]:=by
 simp only[aE]
 exact⟨[.int .i64 x0,.str x1,.val gu,sl cS x3,.int .i64 x4.Op,.str x4.Name,.int .i64 x4.N,sl ac x4.Kids,sl ac x5],by kernel_rfl,(aI rfl trivial)⟩
theorem Au(x0:Int)(x3:(List ag))(x2:(List ae)):cX Pg 38 [(0,.int .i64 x0),(3,sl cS x3),(2,sl af x2)]=some (.agg (af (⟨x0,([]:ag),x2,x3,(⟨0,([]:ag),0,([]:List aa)⟩:aa),([]:List aa)⟩:ae))):=by
 simp only[bz]
 kernel_rfl
theorem As(x0:Int)(x3:(List ag))(x2:(List ae)):qY Pg 38 [(0,.int .i64 x0),(3,sl cS x3),(2,sl af x2)] [(7,36),(8,36)]:=by
 exact⟨[.int .i64 x0,.str ([]:ag),sl af x2,sl cS x3,.int .i64 0,.str ([]:ag),.int .i64 0,.val gu,.val gu],by kernel_rfl,(aI rfl (aI rfl trivial))⟩
theorem N1(x0:Int)(x4:aa):cX Pg 38 [(0,.int .i64 x0),(4,.agg (ac x4))]=some (.agg (af (⟨x0,([]:ag),([]:List ae),([]:List ag),x4,([]:List aa)⟩:ae))):=by
 simp only[bz,aE]
 kernel_rfl
theorem NY(x0:Int)(x4:aa):qY Pg 38 [(0,.int .i64 x0),(4,.agg (ac x4))] [(2,38),(3,9),(8,36)]:=by
 simp only[aE]
 exact⟨[.int .i64 x0,.str ([]:ag),.val gu,.val gu,.int .i64 x4.Op,.str x4.Name,.int .i64 x4.N,sl ac x4.Kids,.val gu],by kernel_rfl,(aI rfl (aI rfl (aI rfl trivial)))⟩
theorem Rl(x0:Int):cX Pg 38 [(0,.int .i64 x0)]=some (.agg (af (⟨x0,([]:ag),([]:List ae),([]:List ag),(⟨0,([]:ag),0,([]:List aa)⟩:aa),([]:List aa)⟩:ae))):=by
 simp only[bz]
 kernel_rfl
theorem Rh(x0:Int):qY Pg 38 [(0,.int .i64 x0)] [(2,38),(3,9),(7,36),(8,36)]:=by
 exact⟨[.int .i64 x0,.str ([]:ag),.val gu,.val gu,.int .i64 0,.str ([]:ag),.int .i64 0,.val gu,.val gu],by kernel_rfl,(aI rfl (aI rfl (aI rfl (aI rfl trivial))))⟩
theorem yW(x0:Int)(x1:ag)(b3 n3:Nat)(x4:aa)(x5:(List aa)):cX Pg 38 [(0,.int .i64 x0),(1,.str x1),(3,.bsl b3 0 n3),(4,.agg (ac x4)),(5,sl ac x5)]=some (.agg [.int .i64 x0,.str x1,sl af ([]:List ae),.bsl b3 0 n3,.int .i64 x4.Op,.str x4.Name,.int .i64 x4.N,sl ac x4.Kids,sl ac x5]):=by
 simp only[aE]
 kernel_rfl
theorem yU(x0:Int)(x1:ag)(b3 n3:Nat)(x4:aa)(x5:(List aa)):qY Pg 38 [(0,.int .i64 x0),(1,.str x1),(3,.bsl b3 0 n3),(4,.agg (ac x4)),(5,sl ac x5)] [(2,38)]:=by
 simp only[aE]
 exact⟨[.int .i64 x0,.str x1,.val gu,.bsl b3 0 n3,.int .i64 x4.Op,.str x4.Name,.int .i64 x4.N,sl ac x4.Kids,sl ac x5],by kernel_rfl,(aI rfl trivial)⟩
theorem aH(x:ae):aB Pg 38 (.eptr (af x)) 0=some (.eptr ((af x).drop 0)):=by rw[bz];kernel_rfl
theorem df(x:ae):aB Pg 38 (.eptr (af x)) 1=some (.eptr ((af x).drop 1)):=by rw[bz];kernel_rfl
theorem aT(x:ae):aB Pg 38 (.eptr (af x)) 2=some (.eptr ((af x).drop 2)):=by rw[bz];kernel_rfl
theorem be(x:ae):aB Pg 38 (.eptr (af x)) 3=some (.eptr ((af x).drop 3)):=by rw[bz];kernel_rfl
theorem d9(x:ae):aB Pg 38 (.eptr (af x)) 4=some (.eptr ((af x).drop 4)):=by rw[bz];kernel_rfl
theorem dN(x:ae):aB Pg 38 (.eptr (af x)) 5=some (.eptr ((af x).drop 8)):=by rw[bz];kernel_rfl
theorem aJ(x:ae):aS Pg 30 ((af x).drop 0)=some (.int .i64 x.Op):=by rw[bz];kernel_rfl
theorem dz(x:ae):aS Pg 9 ((af x).drop 1)=some (.str x.Name):=by rw[bz];kernel_rfl
theorem aU(x:ae):aS Pg 31 ((af x).drop 2)=some (sl af x.Args):=by rw[bz];kernel_rfl
theorem bh(x:ae):aS Pg 32 ((af x).drop 3)=some (sl cS x.Names):=by rw[bz];kernel_rfl
theorem ec(x:ae):aS Pg 36 ((af x).drop 4)=some (.agg (ac x.Pred)):=by
 rw[bz,aE];kernel_rfl
theorem dQ(x:ae):aS Pg 34 ((af x).drop 8)=some (sl ac x.Preds):=by rw[bz];kernel_rfl
theorem Uc(x:ae)(r:List PVal):aS Pg 38 (af x++r)=some (.agg (af x)):=me (by kernel_rfl) (Vz.trans (BH x).symm)
structure iv where
 Name:ag
 Names:(List ag)
 Fields:(List ae)
def eg(x:iv):List PVal:=[.str x.Name,sl cS x.Names,sl af x.Fields]
theorem Od(x:iv):eg x=[.str x.Name,sl cS x.Names,sl af x.Fields]:=rfl
theorem Er(x:iv):ii 0 (eg x):=(aI trivial (aI (aq iu x.Names) (aI (aq av x.Fields) trivial)))
theorem V7(x:iv):(eg x).length=3:=by rw[Od];rfl
theorem Wm(x:iv):∀q∈eg x,q.one=true:=by
 intro q hq
 rw[Od]at hq
 simp only[vaA,vaJ,or_false]at hq
 rcases hq with rfl|rfl|rfl<;>rfl
theorem qa8:Pg.cellsOf 73=3:=by kernel_rfl
theorem Oe(x:iv):aB Pg 73 (.eptr (eg x)) 1=some (.eptr ((eg x).drop 1)):=by kernel_rfl
theorem Of(x:iv):aB Pg 73 (.eptr (eg x)) 2=some (.eptr ((eg x).drop 2)):=by kernel_rfl
theorem OB(x:iv):aS Pg 32 ((eg x).drop 1)=some (sl cS x.Names):=by kernel_rfl
theorem OC(x:iv):aS Pg 31 ((eg x).drop 2)=some (sl af x.Fields):=by kernel_rfl
structure eV where
 Name:ag
 Vars:(List ag)
 Preds:(List dc)
 Cons:(List iv)
def cj(x:eV):List PVal:=[.str x.Name,sl cS x.Vars,sl bA x.Preds,sl eg x.Cons]
theorem tO(x:eV):cj x=[.str x.Name,sl cS x.Vars,sl bA x.Preds,sl eg x.Cons]:=rfl
theorem wE(x:eV):ii 0 (cj x):=(aI trivial (aI (aq iu x.Vars) (aI (aq lG x.Preds) (aI (aq Er x.Cons) trivial))))
theorem Gj(x:eV):(cj x).length=4:=by rw[tO];rfl
theorem Gu(x:eV):bQ (.agg (cj x))=some [.str x.Name,sl cS x.Vars,sl bA x.Preds,sl eg x.Cons]:=by rw[tO];rfl
theorem Un(x:eV):∀q∈cj x,q.one=true:=by
 intro q hq
 rw[tO]at hq
 simp only[vaA,vaJ,or_false]at hq
 rcases hq with rfl|rfl|rfl|rfl<;>rfl
theorem XC:Pg.cellsOf 71=4:=by kernel_rfl
theorem V9(x:eV):aS Pg 71 (cj x)=some (.agg (cj x)):=by
 have:=me (P:=Pg) (t:=71) (l:=cj x) (r:=[]) (by kernel_rfl) (XC.trans (Gj x).symm)
 rwa[va4]at this
theorem Ud(x:eV)(r:List PVal):aS Pg 71 ([.str x.Name,sl cS x.Vars,sl bA x.Preds,sl eg x.Cons]++r)=some (.agg (cj x)):=by
 rw[<-tO];exact me (by kernel_rfl) (XC.trans (Gj x).symm)
theorem M8(x:eV):PVal.agg [.str x.Name,sl cS x.Vars,sl bA x.Preds,sl eg x.Cons]=.agg (cj x):=by rw[tO]
theorem Rj:cX Pg 71 []=some (.agg (cj (⟨([]:ag),([]:List ag),([]:List dc),([]:List iv)⟩:eV))):=by
 kernel_rfl
theorem Rf:qY Pg 71 [] [(1,9),(2,102),(3,73)]:=by
 exact⟨[.str ([]:ag),.val gu,.val gu,.val gu],by kernel_rfl,(aI rfl (aI rfl (aI rfl trivial)))⟩
theorem LK(x:eV):aB Pg 71 (.eptr (cj x)) 0=some (.eptr ((cj x).drop 0)):=by kernel_rfl
theorem LL(x:eV):aB Pg 71 (.eptr (cj x)) 1=some (.eptr ((cj x).drop 1)):=by kernel_rfl
theorem LM(x:eV):aB Pg 71 (.eptr (cj x)) 2=some (.eptr ((cj x).drop 2)):=by kernel_rfl
theorem v7(x:eV):aB Pg 71 (.eptr (cj x)) 3=some (.eptr ((cj x).drop 3)):=by kernel_rfl
theorem OE(x:eV):aS Pg 9 ((cj x).drop 0)=some (.str x.Name):=by kernel_rfl
theorem L2(x:eV):aS Pg 32 ((cj x).drop 1)=some (sl cS x.Vars):=by kernel_rfl
theorem L3(x:eV):aS Pg 60 ((cj x).drop 2)=some (sl bA x.Preds):=by kernel_rfl
theorem wh(x:eV):aS Pg 69 ((cj x).drop 3)=some (sl eg x.Cons):=by kernel_rfl
structure qD where
 Name:ag
 Type_:ae
def dI(x:qD):List PVal:=[.str x.Name]++(af x.Type_)
theorem pL(x:qD):dI x=[.str x.Name,.int .i64 x.Type_.Op,.str x.Type_.Name,sl af x.Type_.Args,sl cS x.Type_.Names,.int .i64 x.Type_.Pred.Op,.str x.Type_.Pred.Name,.int .i64 x.Type_.Pred.N,sl ac x.Type_.Pred.Kids,sl ac x.Type_.Preds]:=by
 unfold dI
 simp only[bz,vaG,vaE]
theorem JL(x:qD):ii 0 (dI x):=by rw[pL];exact(aI trivial (aI trivial (aI trivial (aI (aq av x.Type_.Args) (aI (aq iu x.Type_.Names) (aI trivial (aI trivial (aI trivial (aI (aq ah x.Type_.Pred.Kids) (aI (aq ah x.Type_.Preds) trivial))))))))))
theorem P1(x:qD):(dI x).length=10:=by rw[pL];rfl
theorem Qe(x:qD):∀q∈dI x,q.one=true:=by
 intro q hq
 rw[pL]at hq
 simp only[vaA,vaJ,or_false]at hq
 rcases hq with rfl|rfl|rfl|rfl|rfl|rfl|rfl|rfl|rfl|rfl<;>rfl
theorem qba:Pg.cellsOf 79=10:=by kernel_rfl
theorem Ig(x:qD):aB Pg 79 (.eptr (dI x)) 1=some (.eptr ((dI x).drop 1)):=by rw[pL];kernel_rfl
theorem Ij(x:qD):aS Pg 38 ((dI x).drop 1)=some (.agg (af x.Type_)):=by
 rw[pL,bz];kernel_rfl
structure po where
 Name:ag
 Var:ag
 Methods:(List qD)
def eS(x:po):List PVal:=[.str x.Name,.str x.Var,sl dI x.Methods]
theorem Gc(x:po):eS x=[.str x.Name,.str x.Var,sl dI x.Methods]:=rfl
theorem Ga(x:po):ii 0 (eS x):=(aI trivial (aI trivial (aI (aq JL x.Methods) trivial)))
theorem RS(x:po):(eS x).length=3:=by rw[Gc];rfl
theorem R0(x:po):∀q∈eS x,q.one=true:=by
 intro q hq
 rw[Gc]at hq
 simp only[vaA,vaJ,or_false]at hq
 rcases hq with rfl|rfl|rfl<;>rfl
theorem qa9:Pg.cellsOf 77=3:=by kernel_rfl
theorem AE(x:po):aB Pg 77 (.eptr (eS x)) 2=some (.eptr ((eS x).drop 2)):=by kernel_rfl
theorem AH(x:po):aS Pg 75 ((eS x).drop 2)=some (sl dI x.Methods):=by kernel_rfl
structure Bg where
 Class:ag
 Var:ag
deriving DecidableEq
def gC(x:Bg):List PVal:=[.str x.Class,.str x.Var]
theorem JY(x:Bg):gC x=[.str x.Class,.str x.Var]:=rfl
theorem JM(x:Bg):ii 0 (gC x):=(aI trivial (aI trivial trivial))
theorem Ua(x:Bg):(gC x).length=2:=by rw[JY];rfl
theorem Up(x:Bg):∀q∈gC x,q.one=true:=by
 intro q hq
 rw[JY]at hq
 simp only[vaA,vaJ,or_false]at hq
 rcases hq with rfl|rfl<;>rfl
theorem YH:Pg.cellsOf 247=2:=by kernel_rfl
structure nJ where
 Name:ag
 Type_:ae
def dv(x:nJ):List PVal:=[.str x.Name]++(af x.Type_)
theorem nR(x:nJ):dv x=[.str x.Name,.int .i64 x.Type_.Op,.str x.Type_.Name,sl af x.Type_.Args,sl cS x.Type_.Names,.int .i64 x.Type_.Pred.Op,.str x.Type_.Pred.Name,.int .i64 x.Type_.Pred.N,sl ac x.Type_.Pred.Kids,sl ac x.Type_.Preds]:=by
 unfold dv
 simp only[bz,vaG,vaE]
theorem Gb(x:nJ):ii 0 (dv x):=by rw[nR];exact(aI trivial (aI trivial (aI trivial (aI (aq av x.Type_.Args) (aI (aq iu x.Type_.Names) (aI trivial (aI trivial (aI trivial (aI (aq ah x.Type_.Pred.Kids) (aI (aq ah x.Type_.Preds) trivial))))))))))
theorem RT(x:nJ):(dv x).length=10:=by rw[nR];rfl
theorem R1(x:nJ):∀q∈dv x,q.one=true:=by
 intro q hq
 rw[nR]at hq
 simp only[vaA,vaJ,or_false]at hq
 rcases hq with rfl|rfl|rfl|rfl|rfl|rfl|rfl|rfl|rfl|rfl<;>rfl
theorem YE:Pg.cellsOf 125=10:=by kernel_rfl
theorem yJ(x:nJ):aB Pg 125 (.eptr (dv x)) 0=some (.eptr ((dv x).drop 0)):=by rw[nR];kernel_rfl
theorem yK(x:nJ):aB Pg 125 (.eptr (dv x)) 1=some (.eptr ((dv x).drop 1)):=by rw[nR];kernel_rfl
theorem CN(x:nJ):aS Pg 9 ((dv x).drop 0)=some (.str x.Name):=by rw[nR];kernel_rfl
theorem AI(x:nJ):aS Pg 38 ((dv x).drop 1)=some (.agg (af x.Type_)):=by
 rw[nR,bz];kernel_rfl
mutual
inductive bH where
 |mk (Op:Int) (Name:ag) (N:Int) (Kids:(List bH)) (Params:(List nJ)) (Alts:(List rj)) (Types:(List ae))
inductive rj where
 |mk (Con:ag) (Names:(List ag)) (Body:bH)
end
def bH.Op:bH->Int
 |⟨x,_,_,_,_,_,_⟩=>x
def bH.Name:bH->ag
 |⟨_,x,_,_,_,_,_⟩=>x
def bH.N:bH->Int
 |⟨_,_,x,_,_,_,_⟩=>x
def bH.Kids:bH->(List bH)
 |⟨_,_,_,x,_,_,_⟩=>x
def bH.Params:bH->(List nJ)
 |⟨_,_,_,_,x,_,_⟩=>x
def bH.Alts:bH->(List rj)
 |⟨_,_,_,_,_,x,_⟩=>x
def bH.Types:bH->(List ae)
 |⟨_,_,_,_,_,_,x⟩=>x
def rj.Con:rj->ag
 |⟨x,_,_⟩=>x
def rj.Names:rj->(List ag)
 |⟨_,x,_⟩=>x
def rj.Body:rj->bH
 |⟨_,_,x⟩=>x
mutual
def aN:bH->List PVal
 |⟨x0,x1,x2,x3,x4,x5,x6⟩=>[.int .i64 x0,.str x1,.int .i64 x2,.slice (u5 x3),sl dv x4,.slice (AG x5),sl af x6]
def eL:rj->List PVal
 |⟨x0,x1,x2⟩=>[.str x0,sl cS x1]++(aN x2)
def u5:List bH->List (List PVal)
 |[]=>[]
 |x::r=>aN x::u5 r
def AG:List rj->List (List PVal)
 |[]=>[]
 |x::r=>eL x::AG r
end
theorem Kg:∀(l:List bH),u5 l=l.map aN
 |[]=>by simp[u5]
 |x::r=>by simp[u5,Kg r]
theorem MN:∀(l:List rj),AG l=l.map eL
 |[]=>by simp[AG]
 |x::r=>by simp[AG,MN r]
mutual
theorem wF:∀(x:bH),ii 0 (aN x)
 |⟨x0,x1,x2,x3,x4,x5,x6⟩=>by rw[aN];exact(aI trivial (aI trivial (aI trivial (aI (Mx x3) (aI (aq Gb x4) (aI (PH x5) (aI (aq av x6) trivial)))))))
theorem N5:∀(x:rj),ii 0 (eL x)
 |⟨x0,x1,x2⟩=>by rw[eL];exact pJ.2 (aI ((aI trivial (aI (aq iu x1) trivial))) (wF x2))
theorem Mx:∀(l:List bH),sI 0 (u5 l)
 |[]=>by simp[u5,sI]
 |x::r=>by rw[u5];exact⟨wF x,Mx r⟩
theorem PH:∀(l:List rj),sI 0 (AG l)
 |[]=>by simp[AG,sI]
 |x::r=>by rw[AG];exact⟨N5 x,PH r⟩
end
theorem dE:∀(x:bH),aN x=[.int .i64 x.Op,.str x.Name,.int .i64 x.N,sl aN x.Kids,sl dv x.Params,sl eL x.Alts,sl af x.Types]
 |⟨x0,x1,x2,x3,x4,x5,x6⟩=>by
  simp only[aN,Kg,MN]
  rfl
theorem MO(x:bH):(aN x).length=7:=by rw[dE];rfl
theorem Qk(x:bH):bQ (.agg (aN x))=some (aN x):=rfl
theorem Uo(x:bH):∀q∈aN x,q.one=true:=by
 intro q hq
 rw[dE]at hq
 simp only[vaA,vaJ,or_false]at hq
 rcases hq with rfl|rfl|rfl|rfl|rfl|rfl|rfl<;>rfl
theorem ZD:Pg.cellsOf 97=7:=by kernel_rfl
theorem YF:Pg.cellsOf 127=9:=by kernel_rfl
theorem P7(x:bH):aS Pg 97 (aN x)=some (.agg (aN x)):=by
 have:=me (P:=Pg) (t:=97) (l:=aN x) (r:=[]) (by kernel_rfl) (ZD.trans (MO x).symm)
 rwa[va4]at this
theorem Rk(x6:(List ae)):cX Pg 97 [(6,sl af x6)]=some (.agg (aN (⟨0,([]:ag),0,([]:List bH),([]:List nJ),([]:List rj),x6⟩:bH))):=by
 simp only[dE]
 kernel_rfl
theorem Rg(x6:(List ae)):qY Pg 97 [(6,sl af x6)] [(3,97),(4,125),(5,127)]:=by
 exact⟨[.int .i64 0,.str ([]:ag),.int .i64 0,.val gu,.val gu,.val gu,sl af x6],by kernel_rfl,(aI rfl (aI rfl (aI rfl trivial)))⟩
theorem CI(x:bH):aB Pg 97 (.eptr (aN x)) 1=some (.eptr ((aN x).drop 1)):=by rw[dE];kernel_rfl
theorem qv(x:bH):aB Pg 97 (.eptr (aN x)) 3=some (.eptr ((aN x).drop 3)):=by rw[dE];kernel_rfl
theorem j3(x:bH):aB Pg 97 (.eptr (aN x)) 4=some (.eptr ((aN x).drop 4)):=by rw[dE];kernel_rfl
theorem ik(x:bH):aB Pg 97 (.eptr (aN x)) 5=some (.eptr ((aN x).drop 5)):=by rw[dE];kernel_rfl
theorem CJ(x:bH):aB Pg 97 (.eptr (aN x)) 6=some (.eptr ((aN x).drop 6)):=by rw[dE];kernel_rfl
theorem EI(x:bH):aS Pg 9 ((aN x).drop 1)=some (.str x.Name):=by rw[dE];kernel_rfl
theorem qx(x:bH):aS Pg 93 ((aN x).drop 3)=some (sl aN x.Kids):=by rw[dE];kernel_rfl
theorem j4(x:bH):aS Pg 94 ((aN x).drop 4)=some (sl dv x.Params):=by rw[dE];kernel_rfl
theorem il(x:bH):aS Pg 95 ((aN x).drop 5)=some (sl eL x.Alts):=by rw[dE];kernel_rfl
theorem CM(x:bH):aS Pg 31 ((aN x).drop 6)=some (sl af x.Types):=by rw[dE];kernel_rfl
theorem qt:∀(x:rj),eL x=[.str x.Con,sl cS x.Names,.int .i64 x.Body.Op,.str x.Body.Name,.int .i64 x.Body.N,sl aN x.Body.Kids,sl dv x.Body.Params,sl eL x.Body.Alts,sl af x.Body.Types]
 |⟨x0,x1,x2⟩=>by
  simp only[eL,dE,vaG,vaE]
  rfl
theorem V6(x:rj):(eL x).length=9:=by rw[qt];rfl
theorem Wl(x:rj):∀q∈eL x,q.one=true:=by
 intro q hq
 rw[qt]at hq
 simp only[vaA,vaJ,or_false]at hq
 rcases hq with rfl|rfl|rfl|rfl|rfl|rfl|rfl|rfl|rfl<;>rfl
theorem LE(x:rj):aB Pg 127 (.eptr (eL x)) 0=some (.eptr ((eL x).drop 0)):=by rw[qt];kernel_rfl
theorem CE(x:rj):aB Pg 127 (.eptr (eL x)) 1=some (.eptr ((eL x).drop 1)):=by rw[qt];kernel_rfl
theorem CF(x:rj):aB Pg 127 (.eptr (eL x)) 2=some (.eptr ((eL x).drop 2)):=by rw[qt];kernel_rfl
theorem P4(x:rj):aS Pg 9 ((eL x).drop 0)=some (.str x.Con):=by rw[qt];kernel_rfl
theorem EF(x:rj):aS Pg 32 ((eL x).drop 1)=some (sl cS x.Names):=by rw[qt];kernel_rfl
theorem EG(x:rj):aS Pg 97 ((eL x).drop 2)=some (.agg (aN x.Body)):=by
 rw[qt,dE];kernel_rfl
structure Mh where
 Name:ag
 Sort_:ag
deriving DecidableEq
def nw(x:Mh):List PVal:=[.str x.Name,.str x.Sort_]
theorem Oc(x:Mh):nw x=[.str x.Name,.str x.Sort_]:=rfl
theorem SD(x:Mh):ii 0 (nw x):=(aI trivial (aI trivial trivial))
theorem V5(x:Mh):(nw x).length=2:=by rw[Oc];rfl
theorem Wk(x:Mh):∀q∈nw x,q.one=true:=by
 intro q hq
 rw[Oc]at hq
 simp only[vaA,vaJ,or_false]at hq
 rcases hq with rfl|rfl<;>rfl
theorem YI:Pg.cellsOf 248=2:=by kernel_rfl
structure lp where
 Name:ag
 Vars:(List dc)
 Hyp:aa
 Goal:aa
def cy(x:lp):List PVal:=[.str x.Name,sl bA x.Vars]++(ac x.Hyp++(ac x.Goal))
theorem j2(x:lp):cy x=[.str x.Name,sl bA x.Vars,.int .i64 x.Hyp.Op,.str x.Hyp.Name,.int .i64 x.Hyp.N,sl ac x.Hyp.Kids,.int .i64 x.Goal.Op,.str x.Goal.Name,.int .i64 x.Goal.N,sl ac x.Goal.Kids]:=by
 unfold cy
 simp only[aE,vaG,vaE]
theorem Mv(x:lp):ii 0 (cy x):=by rw[j2];exact(aI trivial (aI (aq lG x.Vars) (aI trivial (aI trivial (aI trivial (aI (aq ah x.Hyp.Kids) (aI trivial (aI trivial (aI trivial (aI (aq ah x.Goal.Kids) trivial))))))))))
theorem RR(x:lp):(cy x).length=10:=by rw[j2];rfl
theorem RZ(x:lp):∀q∈cy x,q.one=true:=by
 intro q hq
 rw[j2]at hq
 simp only[vaA,vaJ,or_false]at hq
 rcases hq with rfl|rfl|rfl|rfl|rfl|rfl|rfl|rfl|rfl|rfl<;>rfl
theorem YD:Pg.cellsOf 124=10:=by kernel_rfl
theorem Ic(x:lp):aB Pg 124 (.eptr (cy x)) 1=some (.eptr ((cy x).drop 1)):=by rw[j2];kernel_rfl
theorem Id(x:lp):aB Pg 124 (.eptr (cy x)) 2=some (.eptr ((cy x).drop 2)):=by rw[j2];kernel_rfl
theorem Ie(x:lp):aB Pg 124 (.eptr (cy x)) 3=some (.eptr ((cy x).drop 6)):=by rw[j2];kernel_rfl
theorem Kk(x:lp):aS Pg 60 ((cy x).drop 1)=some (sl bA x.Vars):=by rw[j2];kernel_rfl
theorem Kl(x:lp):aS Pg 36 ((cy x).drop 2)=some (.agg (ac x.Hyp)):=by
 rw[j2,aE];kernel_rfl
theorem Km(x:lp):aS Pg 36 ((cy x).drop 6)=some (.agg (ac x.Goal)):=by
 rw[j2,aE];kernel_rfl
structure US where
 Vars:(List ag)
 Needs:(List Bg)
 Abs:(List Mh)
 Bounds:(List lp)
 Type_:ae
 Metric:(List aa)
def xU(x:US):List PVal:=[sl cS x.Vars,sl gC x.Needs,sl nw x.Abs,sl cy x.Bounds]++(af x.Type_++([sl ac x.Metric]))
theorem Ev(x:US):xU x=[sl cS x.Vars,sl gC x.Needs,sl nw x.Abs,sl cy x.Bounds,.int .i64 x.Type_.Op,.str x.Type_.Name,sl af x.Type_.Args,sl cS x.Type_.Names,.int .i64 x.Type_.Pred.Op,.str x.Type_.Pred.Name,.int .i64 x.Type_.Pred.N,sl ac x.Type_.Pred.Kids,sl ac x.Type_.Preds,sl ac x.Metric]:=by
 unfold xU
 simp only[bz,vaG,vaE]
theorem Wu(x:US):bQ (.agg (xU x))=some [sl cS x.Vars,sl gC x.Needs,sl nw x.Abs,sl cy x.Bounds,.int .i64 x.Type_.Op,.str x.Type_.Name,sl af x.Type_.Args,sl cS x.Type_.Names,.int .i64 x.Type_.Pred.Op,.str x.Type_.Pred.Name,.int .i64 x.Type_.Pred.N,sl ac x.Type_.Pred.Kids,sl ac x.Type_.Preds,sl ac x.Metric]:=by rw[Ev];rfl
structure pu where
 Name:ag
 Params:(List ag)
 Body:bH
 Mode:Int
 Typed:Bool
 Sig:US
def cP(x:pu):List PVal:=[.str x.Name,sl cS x.Params]++(aN x.Body++([.int .i64 x.Mode,.bool x.Typed]++(xU x.Sig)))
theorem mY(x:pu):cP x=[.str x.Name,sl cS x.Params,.int .i64 x.Body.Op,.str x.Body.Name,.int .i64 x.Body.N,sl aN x.Body.Kids,sl dv x.Body.Params,sl eL x.Body.Alts,sl af x.Body.Types,.int .i64 x.Mode,.bool x.Typed,sl cS x.Sig.Vars,sl gC x.Sig.Needs,sl nw x.Sig.Abs,sl cy x.Sig.Bounds,.int .i64 x.Sig.Type_.Op,.str x.Sig.Type_.Name,sl af x.Sig.Type_.Args,sl cS x.Sig.Type_.Names,.int .i64 x.Sig.Type_.Pred.Op,.str x.Sig.Type_.Pred.Name,.int .i64 x.Sig.Type_.Pred.N,sl ac x.Sig.Type_.Pred.Kids,sl ac x.Sig.Type_.Preds,sl ac x.Sig.Metric]:=by
 unfold cP
 simp only[dE,Ev,vaG,vaE]
theorem Bz(x:pu):ii 0 (cP x):=by rw[mY];exact(aI trivial (aI (aq iu x.Params) (aI trivial (aI trivial (aI trivial (aI (aq wF x.Body.Kids) (aI (aq Gb x.Body.Params) (aI (aq N5 x.Body.Alts) (aI (aq av x.Body.Types) (aI trivial (aI trivial (aI (aq iu x.Sig.Vars) (aI (aq JM x.Sig.Needs) (aI (aq SD x.Sig.Abs) (aI (aq Mv x.Sig.Bounds) (aI trivial (aI trivial (aI (aq av x.Sig.Type_.Args) (aI (aq iu x.Sig.Type_.Names) (aI trivial (aI trivial (aI trivial (aI (aq ah x.Sig.Type_.Pred.Kids) (aI (aq ah x.Sig.Type_.Preds) (aI (aq ah x.Sig.Metric) trivial)))))))))))))))))))))))))
theorem V8(x:pu):(cP x).length=25:=by rw[mY];rfl
theorem Wn(x:pu):∀q∈cP x,q.one=true:=by
 intro q hq
 rw[mY]at hq
 simp only[vaA,vaJ,or_false]at hq
 rcases hq with rfl|rfl|rfl|rfl|rfl|rfl|rfl|rfl|rfl|rfl|rfl|rfl|rfl|rfl|rfl|rfl|rfl|rfl|rfl|rfl|rfl|rfl|rfl|rfl|rfl<;>rfl
theorem YC:Pg.cellsOf 122=25:=by kernel_rfl
theorem LN(x:pu):aB Pg 122 (.eptr (cP x)) 0=some (.eptr ((cP x).drop 0)):=by rw[mY];kernel_rfl
theorem LO(x:pu):aB Pg 122 (.eptr (cP x)) 1=some (.eptr ((cP x).drop 1)):=by rw[mY];kernel_rfl
theorem LP(x:pu):aB Pg 122 (.eptr (cP x)) 2=some (.eptr ((cP x).drop 2)):=by rw[mY];kernel_rfl
theorem LR(x:pu):aB Pg 122 (.eptr (cP x)) 5=some (.eptr ((cP x).drop 11)):=by rw[mY];kernel_rfl
theorem P5(x:pu):aS Pg 9 ((cP x).drop 0)=some (.str x.Name):=by rw[mY];kernel_rfl
theorem OF(x:pu):aS Pg 32 ((cP x).drop 1)=some (sl cS x.Params):=by rw[mY];kernel_rfl
theorem Ko(x:pu):aS Pg 120 ((cP x).drop 11)=some (.agg (xU x.Sig)):=by
 rw[mY,Ev];kernel_rfl
theorem OG(x:pu):aS Pg 97 ((cP x).drop 2)=some (.agg (aN x.Body)):=by
 rw[mY,dE];kernel_rfl
structure dM where
 Class:ag
 Type_:ae
 Needs:(List Bg)
 Defs:(List pu)
def bL(x:dM):List PVal:=[.str x.Class]++(af x.Type_++([sl gC x.Needs,sl cP x.Defs]))
theorem fc(x:dM):bL x=[.str x.Class,.int .i64 x.Type_.Op,.str x.Type_.Name,sl af x.Type_.Args,sl cS x.Type_.Names,.int .i64 x.Type_.Pred.Op,.str x.Type_.Pred.Name,.int .i64 x.Type_.Pred.N,sl ac x.Type_.Pred.Kids,sl ac x.Type_.Preds,sl gC x.Needs,sl cP x.Defs]:=by
 unfold bL
 simp only[bz,vaG,vaE]
theorem xV(x:dM):ii 0 (bL x):=by rw[fc];exact(aI trivial (aI trivial (aI trivial (aI (aq av x.Type_.Args) (aI (aq iu x.Type_.Names) (aI trivial (aI trivial (aI trivial (aI (aq ah x.Type_.Pred.Kids) (aI (aq ah x.Type_.Preds) (aI (aq JM x.Needs) (aI (aq Bz x.Defs) trivial))))))))))))
theorem LX(x:dM):(bL x).length=12:=by rw[fc];rfl
theorem L7(x:dM):∀q∈bL x,q.one=true:=by
 intro q hq
 rw[fc]at hq
 simp only[vaA,vaJ,or_false]at hq
 rcases hq with rfl|rfl|rfl|rfl|rfl|rfl|rfl|rfl|rfl|rfl|rfl|rfl<;>rfl
theorem qbb:Pg.cellsOf 82=12:=by kernel_rfl
theorem Ew(x:dM):aB Pg 82 (.eptr (bL x)) 1=some (.eptr ((bL x).drop 1)):=by rw[fc];kernel_rfl
theorem Ex(x:dM):aB Pg 82 (.eptr (bL x)) 2=some (.eptr ((bL x).drop 10)):=by rw[fc];kernel_rfl
theorem Ey(x:dM):aB Pg 82 (.eptr (bL x)) 3=some (.eptr ((bL x).drop 11)):=by rw[fc];kernel_rfl
theorem EJ(x:dM):aS Pg 38 ((bL x).drop 1)=some (.agg (af x.Type_)):=by
 rw[fc,bz];kernel_rfl
theorem Dr(x:dM):aS Pg 80 ((bL x).drop 10)=some (sl gC x.Needs):=by rw[fc];kernel_rfl
theorem Ds(x:dM):aS Pg 27 ((bL x).drop 11)=some (sl cP x.Defs):=by rw[fc];kernel_rfl
structure yQ where
 Con:ag
 Names:(List ag)
 Body:aa
def fb(x:yQ):List PVal:=[.str x.Con,sl cS x.Names]++(ac x.Body)
theorem qS(x:yQ):fb x=[.str x.Con,sl cS x.Names,.int .i64 x.Body.Op,.str x.Body.Name,.int .i64 x.Body.N,sl ac x.Body.Kids]:=by
 unfold fb
 simp only[aE,vaG,vaE]
theorem PG(x:yQ):ii 0 (fb x):=by rw[qS];exact(aI trivial (aI (aq iu x.Names) (aI trivial (aI trivial (aI trivial (aI (aq ah x.Body.Kids) trivial))))))
theorem T7(x:yQ):(fb x).length=6:=by rw[qS];rfl
theorem Ul(x:yQ):∀q∈fb x,q.one=true:=by
 intro q hq
 rw[qS]at hq
 simp only[vaA,vaJ,or_false]at hq
 rcases hq with rfl|rfl|rfl|rfl|rfl|rfl<;>rfl
theorem qbd:Pg.cellsOf 88=6:=by kernel_rfl
theorem LF(x:yQ):aB Pg 88 (.eptr (fb x)) 1=some (.eptr ((fb x).drop 1)):=by rw[qS];kernel_rfl
theorem LG(x:yQ):aB Pg 88 (.eptr (fb x)) 2=some (.eptr ((fb x).drop 2)):=by rw[qS];kernel_rfl
theorem LY(x:yQ):aS Pg 32 ((fb x).drop 1)=some (sl cS x.Names):=by rw[qS];kernel_rfl
theorem LZ(x:yQ):aS Pg 36 ((fb x).drop 2)=some (.agg (ac x.Body)):=by
 rw[qS,aE];kernel_rfl
structure f0 where
 Name:ag
 Data:ag
 Result:ag
 Cases:(List yQ)
 Inv:aa
def cC(x:f0):List PVal:=[.str x.Name,.str x.Data,.str x.Result,sl fb x.Cases]++(ac x.Inv)
theorem jd(x:f0):cC x=[.str x.Name,.str x.Data,.str x.Result,sl fb x.Cases,.int .i64 x.Inv.Op,.str x.Inv.Name,.int .i64 x.Inv.N,sl ac x.Inv.Kids]:=by
 unfold cC
 simp only[aE,vaG,vaE]
theorem Ax(x:f0):ii 0 (cC x):=by rw[jd];exact(aI trivial (aI trivial (aI trivial (aI (aq PG x.Cases) (aI trivial (aI trivial (aI trivial (aI (aq ah x.Inv.Kids) trivial))))))))
theorem Oz(x:f0):(cC x).length=8:=by rw[jd];rfl
theorem OL(x:f0):∀q∈cC x,q.one=true:=by
 intro q hq
 rw[jd]at hq
 simp only[vaA,vaJ,or_false]at hq
 rcases hq with rfl|rfl|rfl|rfl|rfl|rfl|rfl|rfl<;>rfl
theorem qbc:Pg.cellsOf 86=8:=by kernel_rfl
theorem pM(x:f0):aB Pg 86 (.eptr (cC x)) 3=some (.eptr ((cC x).drop 3)):=by rw[jd];kernel_rfl
theorem Gd(x:f0):aB Pg 86 (.eptr (cC x)) 4=some (.eptr ((cC x).drop 4)):=by rw[jd];kernel_rfl
theorem pN(x:f0):aS Pg 84 ((cC x).drop 3)=some (sl fb x.Cases):=by rw[jd];kernel_rfl
theorem Gm(x:f0):aS Pg 36 ((cC x).drop 4)=some (.agg (ac x.Inv)):=by
 rw[jd,aE];kernel_rfl
structure sa where
 Name:ag
 Vars:(List dc)
 Body:aa
def eQ(x:sa):List PVal:=[.str x.Name,sl bA x.Vars]++(ac x.Body)
theorem qT(x:sa):eQ x=[.str x.Name,sl bA x.Vars,.int .i64 x.Body.Op,.str x.Body.Name,.int .i64 x.Body.N,sl ac x.Body.Kids]:=by
 unfold eQ
 simp only[aE,vaG,vaE]
theorem JN(x:sa):ii 0 (eQ x):=by rw[qT];exact(aI trivial (aI (aq lG x.Vars) (aI trivial (aI trivial (aI trivial (aI (aq ah x.Body.Kids) trivial))))))
theorem Ub(x:sa):(eQ x).length=6:=by rw[qT];rfl
theorem Ur(x:sa):∀q∈eQ x,q.one=true:=by
 intro q hq
 rw[qT]at hq
 simp only[vaA,vaJ,or_false]at hq
 rcases hq with rfl|rfl|rfl|rfl|rfl|rfl<;>rfl
theorem qbe:Pg.cellsOf 90=6:=by kernel_rfl
theorem LS(x:sa):aB Pg 90 (.eptr (eQ x)) 1=some (.eptr ((eQ x).drop 1)):=by rw[qT];kernel_rfl
theorem LT(x:sa):aB Pg 90 (.eptr (eQ x)) 2=some (.eptr ((eQ x).drop 2)):=by rw[qT];kernel_rfl
theorem L4(x:sa):aS Pg 60 ((eQ x).drop 1)=some (sl bA x.Vars):=by rw[qT];kernel_rfl
theorem L5(x:sa):aS Pg 36 ((eQ x).drop 2)=some (.agg (ac x.Body)):=by
 rw[qT,aE];kernel_rfl
structure aR where
 Datas:(List eV)
 Classes:(List po)
 Instances:(List dM)
 Measures:(List f0)
 Quals:(List sa)
 Defs:(List pu)
def aC(x:aR):List PVal:=[sl cj x.Datas,sl eS x.Classes,sl bL x.Instances,sl cC x.Measures,sl eQ x.Quals,sl cP x.Defs]
theorem tP(x:aR):aC x=[sl cj x.Datas,sl eS x.Classes,sl bL x.Instances,sl cC x.Measures,sl eQ x.Quals,sl cP x.Defs]:=rfl
theorem ij(x:aR):ii 0 (aC x):=(aI (aq wE x.Datas) (aI (aq Ga x.Classes) (aI (aq xV x.Instances) (aI (aq Ax x.Measures) (aI (aq JN x.Quals) (aI (aq Bz x.Defs) trivial))))))
theorem P2(x:aR):(aC x).length=6:=by rw[tP];rfl
theorem tX(x:aR):bQ (.agg (aC x))=some (aC x):=rfl
theorem qcC:Pg.cellsOf 29=6:=by kernel_rfl
theorem Dt(x:aR):aS Pg 29 (aC x)=some (.agg (aC x)):=by
 have:=me (P:=Pg) (t:=29) (l:=aC x) (r:=[]) (by kernel_rfl) (qcC.trans (P2 x).symm)
 rwa[va4]at this
theorem xS:cX Pg 29 []=some (.agg (aC (⟨([]:List eV),([]:List po),([]:List dM),([]:List f0),([]:List sa),([]:List pu)⟩:aR))):=by
 kernel_rfl
theorem xP:qY Pg 29 [] [(0,71),(1,77),(2,82),(3,86),(4,90),(5,122)]:=by
 exact⟨[.val gu,.val gu,.val gu,.val gu,.val gu,.val gu],by kernel_rfl,(aI rfl (aI rfl (aI rfl (aI rfl (aI rfl (aI rfl trivial))))))⟩
theorem dw(x:aR):aB Pg 29 (.eptr (aC x)) 0=some (.eptr ((aC x).drop 0)):=by kernel_rfl
theorem nc(x:aR):aB Pg 29 (.eptr (aC x)) 1=some (.eptr ((aC x).drop 1)):=by kernel_rfl
theorem jz(x:aR):aB Pg 29 (.eptr (aC x)) 2=some (.eptr ((aC x).drop 2)):=by kernel_rfl
theorem gQ(x:aR):aB Pg 29 (.eptr (aC x)) 3=some (.eptr ((aC x).drop 3)):=by kernel_rfl
theorem nf(x:aR):aB Pg 29 (.eptr (aC x)) 4=some (.eptr ((aC x).drop 4)):=by kernel_rfl
theorem yI(x:aR):aB Pg 29 (.eptr (aC x)) 5=some (.eptr ((aC x).drop 5)):=by kernel_rfl
theorem dy(x:aR):aS Pg 22 ((aC x).drop 0)=some (sl cj x.Datas):=by kernel_rfl
theorem ni(x:aR):aS Pg 23 ((aC x).drop 1)=some (sl eS x.Classes):=by kernel_rfl
theorem jD(x:aR):aS Pg 24 ((aC x).drop 2)=some (sl bL x.Instances):=by kernel_rfl
theorem gR(x:aR):aS Pg 25 ((aC x).drop 3)=some (sl cC x.Measures):=by kernel_rfl
theorem nj(x:aR):aS Pg 26 ((aC x).drop 4)=some (sl eQ x.Quals):=by kernel_rfl
theorem yM(x:aR):aS Pg 27 ((aC x).drop 5)=some (sl cP x.Defs):=by kernel_rfl
inductive ak where
 |mk (Op:Int) (Name:ag) (Sort_:ag) (Pred:aa) (Tag:Int) (Kids:(List ak))
def ak.Op:ak->Int
 |⟨x,_,_,_,_,_⟩=>x
def ak.Name:ak->ag
 |⟨_,x,_,_,_,_⟩=>x
def ak.Sort_:ak->ag
 |⟨_,_,x,_,_,_⟩=>x
def ak.Pred:ak->aa
 |⟨_,_,_,x,_,_⟩=>x
def ak.Tag:ak->Int
 |⟨_,_,_,_,x,_⟩=>x
def ak.Kids:ak->(List ak)
 |⟨_,_,_,_,_,x⟩=>x
mutual
def ax:ak->List PVal
 |⟨x0,x1,x2,x3,x4,x5⟩=>[.int .i64 x0,.str x1,.str x2]++(ac x3++([.int .i64 x4,.slice (u4 x5)]))
def u4:List ak->List (List PVal)
 |[]=>[]
 |x::r=>ax x::u4 r
end
theorem Kf:∀(l:List ak),u4 l=l.map ax
 |[]=>by simp[u4]
 |x::r=>by simp[u4,Kf r]
mutual
theorem bJ:∀(x:ak),ii 0 (ax x)
 |⟨x0,x1,x2,x3,x4,x5⟩=>by rw[ax];exact pJ.2 (aI ((aI trivial (aI trivial (aI trivial trivial)))) (pJ.2 (aI (ah x3) ((aI trivial (aI (Mw x5) trivial))))))
theorem Mw:∀(l:List ak),sI 0 (u4 l)
 |[]=>by simp[u4,sI]
 |x::r=>by rw[u4];exact⟨bJ x,Mw r⟩
end
theorem cz:∀(x:ak),ax x=[.int .i64 x.Op,.str x.Name,.str x.Sort_,.int .i64 x.Pred.Op,.str x.Pred.Name,.int .i64 x.Pred.N,sl ac x.Pred.Kids,.int .i64 x.Tag,sl ax x.Kids]
 |⟨x0,x1,x2,x3,x4,x5⟩=>by
  simp only[ax,Kf,aE,vaG,vaE]
  rfl
abbrev vB(x:ak):PVal:=.agg (ax x)
theorem Gi(x:ak):(ax x).length=9:=by rw[cz];rfl
theorem AP(x:ak):bQ (.agg (ax x))=some (ax x):=rfl
theorem pU(x:ak):bQ (vB x)=some (ax x):=rfl
theorem dJ(x:ak):bQ (.agg (ax x))=some [.int .i64 x.Op,.str x.Name,.str x.Sort_,.int .i64 x.Pred.Op,.str x.Pred.Name,.int .i64 x.Pred.N,sl ac x.Pred.Kids,.int .i64 x.Tag,sl ax x.Kids]:=by rw[cz];rfl
theorem Um(x:ak):∀q∈ax x,q.one=true:=by
 intro q hq
 rw[cz]at hq
 simp only[vaA,vaJ,or_false]at hq
 rcases hq with rfl|rfl|rfl|rfl|rfl|rfl|rfl|rfl|rfl<;>rfl
theorem XB:Pg.cellsOf 50=9:=by kernel_rfl
theorem qW(x:ak):aS Pg 50 (ax x)=some (.agg (ax x)):=by
 have:=me (P:=Pg) (t:=50) (l:=ax x) (r:=[]) (by kernel_rfl) (XB.trans (Gi x).symm)
 rwa[va4]at this
theorem iS(x:ak)(r:List PVal):aS Pg 50 ([.int .i64 x.Op,.str x.Name,.str x.Sort_,.int .i64 x.Pred.Op,.str x.Pred.Name,.int .i64 x.Pred.N,sl ac x.Pred.Kids,.int .i64 x.Tag,sl ax x.Kids]++r)=some (.agg (ax x)):=by
 rw[<-cz];exact me (by kernel_rfl) (XB.trans (Gi x).symm)
theorem e8(x:ak):PVal.agg [.int .i64 x.Op,.str x.Name,.str x.Sort_,.int .i64 x.Pred.Op,.str x.Pred.Name,.int .i64 x.Pred.N,sl ac x.Pred.Kids,.int .i64 x.Tag,sl ax x.Kids]=.agg (ax x):=by rw[cz]
theorem Ri:cX Pg 50 []=some (.agg (ax (⟨0,([]:ag),([]:ag),(⟨0,([]:ag),0,([]:List aa)⟩:aa),0,([]:List ak)⟩:ak))):=by
 simp only[cz]
 kernel_rfl
theorem Re:qY Pg 50 [] [(6,36),(8,50)]:=by
 exact⟨[.int .i64 0,.str ([]:ag),.str ([]:ag),.int .i64 0,.str ([]:ag),.int .i64 0,.val gu,.int .i64 0,.val gu],by kernel_rfl,(aI rfl (aI rfl trivial))⟩
theorem tM(x0:Int)(x1:ag)(x2:ag)(x3:aa)(x5:(List ak)):cX Pg 50 [(0,.int .i64 x0),(1,.str x1),(2,.str x2),(3,.agg (ac x3)),(5,sl ax x5)]=some (.agg (ax (⟨x0,x1,x2,x3,0,x5⟩:ak))):=by
 simp only[cz,aE]
 kernel_rfl
theorem JH(x0:Int)(x3:aa)(x4:Int):cX Pg 50 [(0,.int .i64 x0),(3,.agg (ac x3)),(4,.int .i64 x4)]=some (.agg (ax (⟨x0,([]:ag),([]:ag),x3,x4,([]:List ak)⟩:ak))):=by
 simp only[cz,aE]
 kernel_rfl
theorem JE(x0:Int)(x3:aa)(x4:Int):qY Pg 50 [(0,.int .i64 x0),(3,.agg (ac x3)),(4,.int .i64 x4)] [(8,50)]:=by
 simp only[aE]
 exact⟨[.int .i64 x0,.str ([]:ag),.str ([]:ag),.int .i64 x3.Op,.str x3.Name,.int .i64 x3.N,sl ac x3.Kids,.int .i64 x4,.val gu],by kernel_rfl,(aI rfl trivial)⟩
theorem Dc(x0:Int):cX Pg 50 [(0,.int .i64 x0)]=some (.agg (ax (⟨x0,([]:ag),([]:ag),(⟨0,([]:ag),0,([]:List aa)⟩:aa),0,([]:List ak)⟩:ak))):=by
 simp only[cz]
 kernel_rfl
theorem Da(x0:Int):qY Pg 50 [(0,.int .i64 x0)] [(6,36),(8,50)]:=by
 exact⟨[.int .i64 x0,.str ([]:ag),.str ([]:ag),.int .i64 0,.str ([]:ag),.int .i64 0,.val gu,.int .i64 0,.val gu],by kernel_rfl,(aI rfl (aI rfl trivial))⟩
theorem LH(x:ak):aB Pg 50 (.eptr (ax x)) 0=some (.eptr ((ax x).drop 0)):=by rw[cz];kernel_rfl
theorem CG(x:ak):aB Pg 50 (.eptr (ax x)) 1=some (.eptr ((ax x).drop 1)):=by rw[cz];kernel_rfl
theorem LI(x:ak):aB Pg 50 (.eptr (ax x)) 2=some (.eptr ((ax x).drop 2)):=by rw[cz];kernel_rfl
theorem v6(x:ak):aB Pg 50 (.eptr (ax x)) 3=some (.eptr ((ax x).drop 3)):=by rw[cz];kernel_rfl
theorem LJ(x:ak):aB Pg 50 (.eptr (ax x)) 4=some (.eptr ((ax x).drop 7)):=by rw[cz];kernel_rfl
theorem CH(x:ak):aB Pg 50 (.eptr (ax x)) 5=some (.eptr ((ax x).drop 8)):=by rw[cz];kernel_rfl
theorem RC(x:ak):Kz Pg 50 (.agg (ax x)) 5=some (sl ax x.Kids):=by rw[cz];kernel_rfl
theorem L0(x:ak):aS Pg 46 ((ax x).drop 0)=some (.int .i64 x.Op):=by rw[cz];kernel_rfl
theorem EH(x:ak):aS Pg 9 ((ax x).drop 1)=some (.str x.Name):=by rw[cz];kernel_rfl
theorem L1(x:ak):aS Pg 47 ((ax x).drop 2)=some (.str x.Sort_):=by rw[cz];kernel_rfl
theorem wg(x:ak):aS Pg 36 ((ax x).drop 3)=some (.agg (ac x.Pred)):=by
 rw[cz,aE];kernel_rfl
theorem OD(x:ak):aS Pg 3 ((ax x).drop 7)=some (.int .i64 x.Tag):=by rw[cz];kernel_rfl
theorem CL(x:ak):aS Pg 48 ((ax x).drop 8)=some (sl ax x.Kids):=by rw[cz];kernel_rfl
structure aM where
 m:aR
 tag:Int
def aL(x:aM):List PVal:=aC x.m++([.int .i64 x.tag])
theorem ek(x:aM):aL x=[sl cj x.m.Datas,sl eS x.m.Classes,sl bL x.m.Instances,sl cC x.m.Measures,sl eQ x.m.Quals,sl cP x.m.Defs,.int .i64 x.tag]:=by
 unfold aL
 simp only[tP,vaG,vaE]
theorem cF(x:aM):ii 0 (aL x):=by rw[ek];exact(aI (aq wE x.m.Datas) (aI (aq Ga x.m.Classes) (aI (aq xV x.m.Instances) (aI (aq Ax x.m.Measures) (aI (aq JN x.m.Quals) (aI (aq Bz x.m.Defs) (aI trivial trivial)))))))
theorem Dq(x:aM):(aL x).length=7:=by rw[ek];rfl
theorem g9(x:aM):bQ (.agg (aL x))=some (aL x):=rfl
theorem qa3:Pg.cellsOf 105=7:=by kernel_rfl
theorem er(x:aM):aS Pg 105 (aL x)=some (.agg (aL x)):=by
 have:=me (P:=Pg) (t:=105) (l:=aL x) (r:=[]) (by kernel_rfl) (qa3.trans (Dq x).symm)
 rwa[va4]at this
theorem yV(x0:aR)(x1:Int):cX Pg 105 [(0,.agg (aC x0)),(1,.int .i64 x1)]=some (.agg (aL (⟨x0,x1⟩:aM))):=by
 simp only[ek,tP]
 kernel_rfl
theorem wI(x:aM):aB Pg 105 (.eptr (aL x)) 0=some (.eptr ((aL x).drop 0)):=by rw[ek];kernel_rfl
theorem wJ(x:aM):aB Pg 105 (.eptr (aL x)) 1=some (.eptr ((aL x).drop 6)):=by rw[ek];kernel_rfl
theorem yf(x:aM):aS Pg 29 ((aL x).drop 0)=some (.agg (aC x.m)):=by
 rw[ek,tP];kernel_rfl
theorem y5(x:aM):aS Pg 3 ((aL x).drop 6)=some (.int .i64 x.tag):=by rw[ek];kernel_rfl
structure ai where
 names:(List ag)
 by_:(List aa)
def aw(x:ai):List PVal:=[sl cS x.names,sl ac x.by_]
theorem cu(x:ai):aw x=[sl cS x.names,sl ac x.by_]:=rfl
theorem bm(x:ai):ii 0 (aw x):=(aI (aq iu x.names) (aI (aq ah x.by_) trivial))
theorem mQ(x:ai):(aw x).length=2:=by rw[cu];rfl
theorem dm(x:ai):bQ (.agg (aw x))=some (aw x):=rfl
theorem fe(x:ai):bQ (.agg (aw x))=some [sl cS x.names,sl ac x.by_]:=by rw[cu];rfl
theorem YG:Pg.cellsOf 173=2:=by kernel_rfl
theorem cb(x:ai):aS Pg 173 (aw x)=some (.agg (aw x)):=by
 have:=me (P:=Pg) (t:=173) (l:=aw x) (r:=[]) (by kernel_rfl) (YG.trans (mQ x).symm)
 rwa[va4]at this
theorem cm(x:ai)(r:List PVal):aS Pg 173 ([sl cS x.names,sl ac x.by_]++r)=some (.agg (aw x)):=by
 rw[<-cu];exact me (by kernel_rfl) (YG.trans (mQ x).symm)
theorem mW(x:ai):PVal.agg [sl cS x.names,sl ac x.by_]=.agg (aw x):=by rw[cu]
theorem sH(x0:(List ag))(x1:(List aa)):cX Pg 173 [(0,sl cS x0),(1,sl ac x1)]=some (.agg (aw (⟨x0,x1⟩:ai))):=by
 kernel_rfl
theorem je(x:ai):aB Pg 173 (.eptr (aw x)) 0=some (.eptr ((aw x).drop 0)):=by kernel_rfl
theorem fo(x:ai):aB Pg 173 (.eptr (aw x)) 1=some (.eptr ((aw x).drop 1)):=by kernel_rfl
theorem jB(x:ai):aS Pg 32 ((aw x).drop 0)=some (sl cS x.names):=by kernel_rfl
theorem fJ(x:ai):aS Pg 34 ((aw x).drop 1)=some (sl ac x.by_):=by kernel_rfl
structure ay where
 Vars:(List dc)
 Hyps:(List aa)
 Head:aa
 Tag:Int
def aD(x:ay):List PVal:=[sl bA x.Vars,sl ac x.Hyps]++(ac x.Head++([.int .i64 x.Tag]))
theorem dU(x:ay):aD x=[sl bA x.Vars,sl ac x.Hyps,.int .i64 x.Head.Op,.str x.Head.Name,.int .i64 x.Head.N,sl ac x.Head.Kids,.int .i64 x.Tag]:=by
 unfold aD
 simp only[aE,vaG,vaE]
theorem eY(x:ay):ii 0 (aD x):=by rw[dU];exact(aI (aq lG x.Vars) (aI (aq ah x.Hyps) (aI trivial (aI trivial (aI trivial (aI (aq ah x.Head.Kids) (aI trivial trivial)))))))
abbrev Nk(x:ay):PVal:=.agg (aD x)
theorem Hb(x:ay):(aD x).length=7:=by rw[dU];rfl
theorem Qj(x:ay):bQ (Nk x)=some (aD x):=rfl
theorem AQ(x:ay):bQ (.agg (aD x))=some [sl bA x.Vars,sl ac x.Hyps,.int .i64 x.Head.Op,.str x.Head.Name,.int .i64 x.Head.N,sl ac x.Head.Kids,.int .i64 x.Tag]:=by rw[dU];rfl
theorem Qd(x:ay):∀q∈aD x,q.one=true:=by
 intro q hq
 rw[dU]at hq
 simp only[vaA,vaJ,or_false]at hq
 rcases hq with rfl|rfl|rfl|rfl|rfl|rfl|rfl<;>rfl
theorem ZC:Pg.cellsOf 62=7:=by kernel_rfl
theorem Hd(x:ay)(r:List PVal):aS Pg 62 ([sl bA x.Vars,sl ac x.Hyps,.int .i64 x.Head.Op,.str x.Head.Name,.int .i64 x.Head.N,sl ac x.Head.Kids,.int .i64 x.Tag]++r)=some (.agg (aD x)):=by
 rw[<-dU];exact me (by kernel_rfl) (ZC.trans (Hb x).symm)
theorem NZ:cX Pg 62 []=some (.agg (aD (⟨([]:List dc),([]:List aa),(⟨0,([]:ag),0,([]:List aa)⟩:aa),0⟩:ay))):=by
 simp only[dU]
 kernel_rfl
theorem NW:qY Pg 62 [] [(0,102),(1,36),(5,36)]:=by
 exact⟨[.val gu,.val gu,.int .i64 0,.str ([]:ag),.int .i64 0,.val gu,.int .i64 0],by kernel_rfl,(aI rfl (aI rfl (aI rfl trivial)))⟩
theorem F8(x0:(List dc))(x2:aa)(x3:Int):cX Pg 62 [(0,sl bA x0),(2,.agg (ac x2)),(3,.int .i64 x3)]=some (.agg (aD (⟨x0,([]:List aa),x2,x3⟩:ay))):=by
 simp only[dU,aE]
 kernel_rfl
theorem F7(x0:(List dc))(x2:aa)(x3:Int):qY Pg 62 [(0,sl bA x0),(2,.agg (ac x2)),(3,.int .i64 x3)] [(1,36)]:=by
 simp only[aE]
 exact⟨[sl bA x0,.val gu,.int .i64 x2.Op,.str x2.Name,.int .i64 x2.N,sl ac x2.Kids,.int .i64 x3],by kernel_rfl,(aI rfl trivial)⟩
theorem jy(x:ay):aB Pg 62 (.eptr (aD x)) 0=some (.eptr ((aD x).drop 0)):=by rw[dU];kernel_rfl
theorem yH(x:ay):aB Pg 62 (.eptr (aD x)) 1=some (.eptr ((aD x).drop 1)):=by rw[dU];kernel_rfl
theorem mZ(x:ay):aB Pg 62 (.eptr (aD x)) 2=some (.eptr ((aD x).drop 2)):=by rw[dU];kernel_rfl
theorem If(x:ay):aB Pg 62 (.eptr (aD x)) 3=some (.eptr ((aD x).drop 6)):=by rw[dU];kernel_rfl
theorem jC(x:ay):aS Pg 60 ((aD x).drop 0)=some (sl bA x.Vars):=by rw[dU];kernel_rfl
theorem yL(x:ay):aS Pg 34 ((aD x).drop 1)=some (sl ac x.Hyps):=by rw[dU];kernel_rfl
theorem nh(x:ay):aS Pg 36 ((aD x).drop 2)=some (.agg (ac x.Head)):=by
 rw[dU,aE];kernel_rfl
theorem Kn(x:ay):aS Pg 3 ((aD x).drop 6)=some (.int .i64 x.Tag):=by rw[dU];kernel_rfl
theorem KU:qJ Pg 22 71 cj:=⟨underlying22,fun x=>(Gj x).trans XC.symm,by kernel_rfl,by rw[XC];decide,by kernel_rfl,vaC (by kernel_rfl),Un,wE⟩
theorem Yc:qJ Pg 23 77 eS:=⟨underlying23,fun x=>(RS x).trans qa9.symm,by kernel_rfl,by rw[qa9];decide,by kernel_rfl,vaC (by kernel_rfl),R0,Ga⟩
theorem WV:qJ Pg 24 82 bL:=⟨underlying24,fun x=>(LX x).trans qbb.symm,by kernel_rfl,by rw[qbb];decide,by kernel_rfl,vaC (by kernel_rfl),L7,xV⟩
theorem UM:qJ Pg 25 86 cC:=⟨underlying25,fun x=>(Oz x).trans qbc.symm,by kernel_rfl,by rw[qbc];decide,by kernel_rfl,vaC (by kernel_rfl),OL,Ax⟩
theorem Ye:qJ Pg 26 90 eQ:=⟨underlying26,fun x=>(Ub x).trans qbe.symm,by kernel_rfl,by rw[qbe];decide,by kernel_rfl,vaC (by kernel_rfl),Ur,JN⟩
theorem Sk:qJ Pg 27 122 cP:=⟨underlying27,fun x=>(V8 x).trans YC.symm,by kernel_rfl,by rw[YC];decide,by kernel_rfl,vaC (by kernel_rfl),Wn,Bz⟩
theorem cQ:qJ Pg 31 38 af:=⟨underlying31,fun x=>(BH x).trans Vz.symm,by kernel_rfl,by rw[Vz];decide,by kernel_rfl,vaC (by kernel_rfl),Us,av⟩
theorem qda:Pg.cellsOf 9=1:=by kernel_rfl
theorem bR:qJ Pg 32 9 cS:=⟨underlying32,fun _=>qda.symm,by kernel_rfl,by rw[qda];decide,by kernel_rfl,vaC (by kernel_rfl),qcI,iu⟩
theorem cd:qJ Pg 34 36 ac:=⟨underlying34,fun x=>(Gk x).trans XA.symm,by kernel_rfl,by rw[XA];decide,by kernel_rfl,vaC (by kernel_rfl),Uq,ah⟩
theorem za:qJ Pg 48 50 ax:=⟨underlying48,fun x=>(Gi x).trans XB.symm,by kernel_rfl,by rw[XB];decide,by kernel_rfl,vaC (by kernel_rfl),Um,bJ⟩
theorem zb:qJ Pg 57 62 aD:=⟨underlying57,fun x=>(Hb x).trans ZC.symm,by kernel_rfl,by rw[ZC];decide,by kernel_rfl,vaC (by kernel_rfl),Qd,eY⟩
theorem GN:qJ Pg 60 102 bA:=⟨underlying60,fun x=>(P3 x).trans Vy.symm,by kernel_rfl,by rw[Vy];decide,by kernel_rfl,vaC (by kernel_rfl),Wo,lG⟩
theorem ZT:qJ Pg 69 73 eg:=⟨underlying69,fun x=>(V7 x).trans qa8.symm,by kernel_rfl,by rw[qa8];decide,by kernel_rfl,vaC (by kernel_rfl),Wm,Er⟩
theorem qbw:qJ Pg 75 79 dI:=⟨underlying75,fun x=>(P1 x).trans qba.symm,by kernel_rfl,by rw[qba];decide,by kernel_rfl,vaC (by kernel_rfl),Qe,JL⟩
theorem qbx:qJ Pg 80 247 gC:=⟨underlying80,fun x=>(Ua x).trans YH.symm,by kernel_rfl,by rw[YH];decide,by kernel_rfl,vaC (by kernel_rfl),Up,JM⟩
theorem ZU:qJ Pg 84 88 fb:=⟨underlying84,fun x=>(T7 x).trans qbd.symm,by kernel_rfl,by rw[qbd];decide,by kernel_rfl,vaC (by kernel_rfl),Ul,PG⟩
theorem Yf:qJ Pg 93 97 aN:=⟨underlying93,fun x=>(MO x).trans ZD.symm,by kernel_rfl,by rw[ZD];decide,by kernel_rfl,vaC (by kernel_rfl),Uo,wF⟩
theorem UN:qJ Pg 94 125 dv:=⟨underlying94,fun x=>(RT x).trans YE.symm,by kernel_rfl,by rw[YE];decide,by kernel_rfl,vaC (by kernel_rfl),R1,Gb⟩
theorem Sl:qJ Pg 95 127 eL:=⟨underlying95,fun x=>(V6 x).trans YF.symm,by kernel_rfl,by rw[YF];decide,by kernel_rfl,vaC (by kernel_rfl),Wl,N5⟩
theorem qbv:qJ Pg 117 248 nw:=⟨underlying117,fun x=>(V5 x).trans YI.symm,by kernel_rfl,by rw[YI];decide,by kernel_rfl,vaC (by kernel_rfl),Wk,SD⟩
theorem Tj:qJ Pg 118 124 cy:=⟨underlying118,fun x=>(RR x).trans YD.symm,by kernel_rfl,by rw[YD];decide,by kernel_rfl,vaC (by kernel_rfl),RZ,Mv⟩
theorem qc9:Pg.cellsOf 5=1:=by kernel_rfl
theorem Nd:(Pg.underlying 9).any YY=true:=by kernel_rfl
theorem qdu:GF Pg 4=some (PVal.bool false):=by kernel_rfl
theorem lM:jI Pg 36=some [.int .i64 0,.str ([]:ag),.int .i64 0,sl ac ([]:List aa)]:=by kernel_rfl
theorem A6:jI Pg 38=some [.int .i64 0,.str ([]:ag),sl af ([]:List ae),sl cS ([]:List ag),.int .i64 0,.str ([]:ag),.int .i64 0,sl ac ([]:List aa),sl ac ([]:List aa)]:=by kernel_rfl
theorem y8:jI Pg 50=some [.int .i64 0,.str ([]:ag),.str ([]:ag),.int .i64 0,.str ([]:ag),.int .i64 0,sl ac ([]:List aa),.int .i64 0,sl ax ([]:List ak)]:=by kernel_rfl
theorem X8:jI Pg 71=some [.str ([]:ag),sl cS ([]:List ag),sl bA ([]:List dc),sl eg ([]:List iv)]:=by kernel_rfl
theorem qbq:jI Pg 102=some [.str ([]:ag),.str ([]:ag)]:=by kernel_rfl
theorem qbr:jI Pg 120=some [sl cS ([]:List ag),sl gC ([]:List Bg),sl nw ([]:List Mh),sl cy ([]:List lp),.int .i64 0,.str ([]:ag),sl af ([]:List ae),sl cS ([]:List ag),.int .i64 0,.str ([]:ag),.int .i64 0,sl ac ([]:List aa),sl ac ([]:List aa),sl ac ([]:List aa)]:=by kernel_rfl
theorem M6:jI Pg 173=some [sl cS ([]:List ag),sl ac ([]:List aa)]:=by kernel_rfl
def jA:List Int:=[1,10,100,1000,10000,100000,1000000,10000000,100000000,1000000000,10000000000,100000000000,1000000000000,10000000000000,100000000000000,1000000000000000,10000000000000000,100000000000000000,1000000000000000000,10000000000000000000]
theorem qa5:Pg.cellsOf 197=20:=by kernel_rfl
theorem qa4:Pg.cellsOf 185=1:=by kernel_rfl
def wN:List Int:=[0,1,28,2,29,14,24,3,30,22,20,15,25,17,4,8,31,27,13,23,21,19,16,7,26,12,18,6,11,5,10,9]
theorem qa6:Pg.cellsOf 205=32:=by kernel_rfl
def wO:List Int:=[0,1,56,2,57,49,28,3,61,58,42,50,38,29,17,4,62,47,59,36,45,43,51,22,53,39,33,30,24,18,12,5,63,55,48,27,60,41,37,16,46,35,44,21,52,32,23,11,54,26,40,15,34,20,31,10,25,14,19,9,13,8,7,6]
theorem qa7:Pg.cellsOf 206=64:=by kernel_rfl
def GE:List (Nat×List PVal):=[(0,jA.map (PVal.int .u64)),(1,wN.map (PVal.int .u8)),(2,wO.map (PVal.int .u8))]
theorem ct(A:List Nat){m:Nat}{c:Code}{sc:List It}{F:Prop}{e0:Exit}{st0 st:az}(h:PS sc F)(he:F=xf Pg GE A m c sc st (FN e0 st0)):aQ Pg GE m c (EX e0 st0) st:=mc mixed h he
theorem rF(A:List Nat){m:Nat}{c:Code}{sc:List It}{F:Prop}{σ X:Type}{S:σ->az}{ex:X->Exit}{so:X->az}{s:σ}{st:az}(h:PS sc F)(he:F=xf Pg GE A m c sc st (FN .normal (S s))):aQ Pg GE m c (LQ S ex so (.inl s)) st:=qbl mixed h he
theorem iW(A:List Nat){m:Nat}{c:Code}{sc:List It}{F:Prop}{σ X:Type}{S:σ->az}{ex:X->Exit}{so:X->az}{x:X}{st:az}(hn:ex x≠.normal)(h:PS sc F)(he:F=xf Pg GE A m c sc st (FN (ex x) (so x))):aQ Pg GE m c (LQ S ex so (.inr x)) st:=qbo mixed hn h he
theorem ck(A:List Nat){f:FuncId}{fn:Func}{c:Code}{args:List PVal}{r:PVal}{ro:List (Nat×TypeId)}(hcall:∀vs w,(callFunc f vs).run Pg w=.ok (.enter f vs) w)(hfn:Pg.funcs[f]? =some fn)(hb:fn.body=some c)(hcl:ii 0 args){sc:List It}{F:Prop}(h:PS sc F)(he:F=xf Pg GE A 0 c sc ⟨args++List.replicate (fn.ntmps - args.length) .undef,[],[]⟩ (FR Pg fn.results.toList r ro)):CC Pg GE f args r ro:=C.evp mixed hcall hfn hb hcl h he
abbrev waA:=List aa
abbrev waB:=List ag
abbrev waC:=List ae
abbrev waD:=List ak
abbrev waE:=List ay
abbrev waF:=List dc
abbrev waG:=List iv
end Go.Proofs.YtbaamopmfmpfaaaGreatDoor
