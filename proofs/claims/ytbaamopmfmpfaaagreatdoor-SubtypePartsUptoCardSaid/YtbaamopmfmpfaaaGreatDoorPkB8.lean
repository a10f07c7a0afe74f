/- PROVED: a part of the proof. Conditions: none. -/
import Derived.Test.YtbaamopmfmpfaaaGreatDoorPkB7
import Derived.Test.YtbaamopmfmpfaaaGreatDoorPkB3
import Derived.Shelf.SlicesE.Clone
import Derived.Test.YtbaamopmfmpfaaaGreatDoorChecked
noncomputable section
namespace Go.Proofs.YtbaamopmfmpfaaaGreatDoor
open Go
section
variable{X Y:Type}
def qiW(F:(X->Option Y)->X->Option Y):Nat->X->Option Y
 |0,_=>none
 |n+1,x=>F (qiW F n) x
end
theorem rT:true=true:=rfl
theorem rL(l:List aP):l=l:=rfl
theorem rB(B:aP):B=B:=rfl
theorem rW(l:List (Nat×TypeId)):l=l:=rfl
theorem xR(ρ:List Nat)(p:PVal)(h:p.cl 0):JP ρ p p:=.refl p h
theorem fp{a a':PVal}{l l':List PVal}(h:a=a')(h':l=l'):a::l=a'::l':=by rw[h,h']
open Go Go.Shelf Go.RowKit Go.Lib
variable{P:Program}{ρ:Ren}
set_option maxHeartbeats 2000000 in
set_option maxRecDepth 100000 in
theorem Xd(L:SlLaysE0.n41 P ρ)(i0:TypeInfo)(z:Value)(hi:P.info? (ρ.t 23)=some i0)(hz0:i0.zero=some z)(hzs:z.cells.size=i0.size)(hsz:0<i0.size)
  (z23:∀w,(Go.sizeOf (ρ.t 23)).run P w=.ok i0.size w) (ad:Addr) (c:Nat) (w:World):
  Calls P (ρ.f 41) #[.slice (some ad) 0 c] w fun r w'=>∃v',r=.returned v'/\w'.ownsRow w.heap.size (ρ.t 23) i0.size v' 0 []/\Below w.heap.size w w':=by
 have mixed:=L.mixed;have t4:=L.t4;have a4:=L.a4;have z4:=L.z4;have v4:=L.v4;have t22:=L.t22;have a22:=L.a22;have z22:=L.z22;have v22:=L.v22
 have q22:∀(w:World) (a:Option Addr) (n c n' c':Nat),(binOp .eql (ρ.t 22) (.slice a n c) (.slice none n' c')).run P w=.ok (.bool a.isNone) w:=fun w a n c n' c'=>Lib.run_eql_slice_nil w _ _ a n c n' c' L.t22
 have u22:∀w,Sem.run P (underlying (ρ.t 22)) w=.ok (TypeDesc.slice (ρ.t 23)) w:=run_underlying t22
 obtain⟨_,_,FG⟩:=L.f41
 go_enter FG,SlBodyN.n41_ntmps ρ
 go_wp2_with (at_builtin;refine wpList_append_own _ rfl _ _ (ρ.t 22) rfl w.heap.size (ρ.t 23) i0 z i0.size i0.bytes t22 hi hz0 rfl rfl hzs hsz _ _ _ rfl (World.ownsRow_made w #[] 0 (vah _) (vaN _) (by simp)) ad 0 c [] rfl (by simp) (by simp) (by simp) (by simp) (by simp) (by simp) ?_)
 intro v' w1 hown hgrow _
 go_wp2
 go_ret
 exact⟨v',rfl,by simpa using hown,((Below.refl _ w).alloc (vah _) _).grown hgrow (by simp) (by intro k hk;simp[Value.ownBlock]at hk;omega)⟩
theorem qbc(L:SlLaysE0.n41 P ρ)(i0:TypeInfo)(z:Value)(hi:P.info? (ρ.t 23)=some i0)(hz0:i0.zero=some z)(hzs:z.cells.size=i0.size)(hsz:0<i0.size)(hby:i0.bytes<=65536)
  (hcall:∀vs w,(callFunc (ρ.f 41) vs).run P w=.ok (.enter (ρ.f 41) vs) w):nR P (ρ.f 41) (ρ.t 23):=by
 have hc:P.cellsOf (ρ.t 23)=i0.size:=by simp[Program.cellsOf,hi]
 have z23:∀w,(Go.sizeOf (ρ.t 23)).run P w=.ok i0.size w:=fun w=>by rw[<-hc];exact run_sizeOf w hi
 refine⟨hcall,fun w x n news hx hl h1 hn=>?_⟩
 rw[hc]at hl ⊢
 rcases hx with⟨rfl,rfl⟩|⟨a,c,rfl,hcell⟩
 ·have hnews:news=[]:=vau (by simpa using hl)
  subst hnews
  refine(AnyE.slices_Clone_nil L 0 0 w).mono fun r w' hr=>?_
  obtain⟨rfl,rfl⟩:=hr
  exact⟨_,rfl,World.ownsRow_nil _ _ _ _,Below.refl _ _⟩
 ·by_cases h0:n=0
  ·subst h0
   have hnews:news=[]:=vau (by simpa using hl)
   subst hnews
   exact Xd L i0 z hi hz0 hzs hsz z23 a c w
  ·have hpos:0<news.length:=by rw[hl];exact vcU (Nat.pos_of_ne_zero h0) hsz
   have hsp:a.spot=none:=by
    have hk:=hcell 0 _ (vab hpos)
    unfold Addr.add at hk
    simp only[if_true]at hk
    unfold World.cell? at hk
    split at hk
    ·split at hk
     ·cases hk
     ·rename_i hs;simpa using hs
    ·cases hk
   obtain⟨b,off,sp⟩:=a
   simp only at hsp
   subst hsp
   refine(AnyE.slices_Clone L i0 z i0.size i0.bytes hi hz0 rfl rfl hzs hsz z23 b off n c news w hl (by unfold maxLen;unfold eY at hn;omega) ?_ (fun j u hj=>by rw[<-Addr.add_lit];exact hcell j u hj) h1).mono fun r w' hr=>?_
   ·have:n * i0.bytes<=1073741824 * 65536:=vcf (by unfold eY at hn;omega) hby
    omega
   ·obtain⟨v',k1,k2,_,k3⟩:=hr
    exact⟨v',k1,k2,k3⟩
theorem Gm(L:SlLaysE0.n41 P ρ){f:FuncId}{e:TypeId}(hf:ρ.f 41=f)(he:ρ.t 23=e)(hq:(P.info? e).any (fun i=>(i.zero.any fun z=>z.cells.size==i.size)&&decide (0<i.size)&&decide (i.bytes<=65536))=true)
  (hcall:∀vs w,(callFunc f vs).run P w=.ok (.enter f vs) w):nR P f e:=by
 subst hf;subst he
 cases hi:P.info? (ρ.t 23)with
 |none=>rw[hi]at hq;cases hq
 | some i0 =>
  rw[hi]at hq
  simp only[Option.any_some,vaj,van]at hq
  obtain⟨⟨h1,h2⟩,h3⟩:=hq
  cases hz:i0.zero with
  |none=>rw[hz]at h1;cases h1
  |some z=>
   rw[hz]at h1
   simp only[Option.any_some,va6]at h1
   exact qbc L i0 z hi hz h1 h2 h3 hcall
end Go.Proofs.YtbaamopmfmpfaaaGreatDoor
namespace Go.Proofs.YtbaamopmfmpfaaaGreatDoor
open Go
def pN{α:Type}(c:α->List PVal)(l:List α):List PVal:=(l.map c).flatten
def n8{α:Type}(l:List α):Option (List α):=if l.length<=eY then some l else none
def qfP{α:Type}(l:List α)(i:Int)(x:α):Option (List α):=if 0<=i/\i.toNat<l.length then some (l.set i.toNat x)else none
abbrev lP(P:Program)(e:TypeId)(i:Int):Nat:=0+i.toNat * P.cellsOf e
section
variable{P:Program}{GE:List (Nat×List PVal)}{T e:TypeId}{α:Type}{c:α->List PVal}
theorem MK{l r:List α}(h:n8 l=some r):l.length<=eY/\r=l:=by
 unfold n8 at h
 split at h
 ·rename_i hl;cases h;exact⟨hl,rfl⟩
 ·cases h
theorem qp.mapOk(s:qp P T e c)(l:List α):∀x∈l.map c,x.length=P.cellsOf e/\∀q∈x,q.one=true:=fun x hx=>by
 obtain⟨y,_,rfl⟩:=vaq.1 hx
 exact⟨s.hc y,s.ho y⟩
theorem qp.cloneCC(s:qp P T e c){f:FuncId}(hC:nR P f e){l r:List α}(h:n8 l=some r):CC P GE f [sl c l] (sl c r) [(0,e)]:=by
 obtain⟨hl,rfl⟩:=MK h
 exact CC.clone hC ⟨aj s.cl r,trivial⟩ s.hp (s.mapOk r) (by simpa using hl)
theorem qp.cloneR(s:qp P T e c){f:FuncId}(hC:nR P f e){l r:List α}(h:n8 l=some r):nR P f e/\(0<P.cellsOf e/\(∀x∈l.map c,x.length=P.cellsOf e/\∀q∈x,q.one=true)/\(l.map c).length<=eY)/\(r.length=(l.map c).length/\pN c r=(l.map c).flatten):=by
 obtain⟨hl,rfl⟩:=MK h
 exact⟨hC,⟨s.hp,s.mapOk r,by simpa using hl⟩,by simp,rfl⟩
theorem qeY{l r:List α}(h:app [] l=some r):r=l:=by
 unfold app at h
 split at h
 ·cases h;rfl
 ·cases h
theorem qp.apR(s:qp P T e c){l r:List α}(h:app [] l=some r):P.underlying T=some (.slice e)/\(∃p,mc P T [] (l.map c)=some p)/\(r.length=(l.map c).length/\pN c r=(l.map c).flatten):=by
 have h1:=s.ap h
 have h2:=qeY h
 subst h2
 exact⟨s.hu,⟨_,h1⟩,by simp,rfl⟩
theorem qp.lnR(s:qp P T e c)(b off n:Nat):∀H,Fx P T (.bsl b off n) H=some (.int .i64 (n:Int)):=fun H=>by
 unfold Fx;rw[s.hu]
theorem qp.flat_len(s:qp P T e c)(l:List α):(pN c l).length=l.length * P.cellsOf e:=by
 unfold pN
 rw[Go.Proofs.YtbaamopmfmpfaaaGreatDoor.flat_len (sz:=P.cellsOf e) (fun x hx=>(s.mapOk l x hx).1)]
 simp
theorem L2(hc:∀x,(c x).length=P.cellsOf e):∀{l:List α} {i:Nat} {x:α},l[i]? =some x->pN c l=(pN c l).take (i * P.cellsOf e)++c x++(pN c l).drop (i * P.cellsOf e+P.cellsOf e)/\∀y,pN c (l.set i y)=(pN c l).take (i * P.cellsOf e)++c y++(pN c l).drop (i * P.cellsOf e+P.cellsOf e)
 |[],i,x,h=>by simp at h
 |z::l,0,x,h=>by
  simp at h;subst h
  have e1:pN c (z::l)=c z++pN c l:=by simp[pN]
  have e2:∀y,pN c ((z::l).set 0 y)=c y++pN c l:=fun y=>by simp[pN]
  rw[e1]
  simp only[e2,vcz,vaK,List.take_zero,vaC]
  rw[<-hc z,List.drop_left]
  exact⟨rfl,fun _=>rfl⟩
 | z :: l,i + 1,x,h => by
  obtain⟨h1,h2⟩:=L2 hc (l:=l) (i:=i) (x:=x) (by simpa using h)
  have e1:pN c (z::l)=c z++pN c l:=by simp[pN]
  have e2:∀y,pN c ((z::l).set (i+1) y)=c z++pN c (l.set i y):=fun y=>by simp[pN]
  have hz:=hc z
  have t1:(c z++pN c l).take ((i+1) * P.cellsOf e)=c z++(pN c l).take (i * P.cellsOf e):=by
   rw[List.take_append,va8,vbG,hz,vbr (by omega),Nat.add_sub_cancel]
  have t2:(c z++pN c l).drop ((i+1) * P.cellsOf e+P.cellsOf e)=(pN c l).drop (i * P.cellsOf e+P.cellsOf e):=by
   rw[vcT,va8,vbG,hz,vbR (by omega),vaC]
   congr 1;omega
  rw[e1,t1,t2]
  refine⟨?_,fun y=>?_⟩
  ·conv=>lhs;rw[h1]
   simp only[vba]
  ·rw[e2,h2];simp only[vba]
theorem qp.ldR(s:qp P T e c){l:List α}{i:Int}{x:α}{p:PVal}(hl:∀r,bo P e (c x++r)=some p)(h:cz l i=some x):bo P e ((pN c l).drop (lP P e i))=some p:=by
 obtain⟨h0,h1⟩:=Qx h
 obtain⟨h2,_⟩:=L2 (P:=P) (e:=e) s.hc h1
 have hlen:=s.flat_len l
 have hlt:=aw h1
 have hle:i.toNat * P.cellsOf e<=l.length * P.cellsOf e:=vaZ _ (vcB hlt)
 rw[lP,vaK]
 have:(pN c l).drop (i.toNat * P.cellsOf e)=c x++(pN c l).drop (i.toNat * P.cellsOf e+P.cellsOf e):=by
  conv=>lhs;rw[h2]
  rw[vba,vcT,vbR (by simp;omega),vaC]
  have:((pN c l).take (i.toNat * P.cellsOf e)).length=i.toNat * P.cellsOf e:=by simp;omega
  rw[this,vby,vaV]
 rw[this];exact hl _
theorem qes{l r:List α}{i:Int}{x:α}(h:qfP l i x=some r):0<=i/\i.toNat<l.length/\r=l.set i.toNat x:=by
 unfold qfP at h
 split at h
 ·rename_i hh;cases h;exact⟨hh.1,hh.2,rfl⟩
 ·cases h
theorem qp.stR(s:qp P T e c){l r:List α}{i:Int}{x:α}{v:PVal}(hv:bK v=some (c x))(h:qfP l i x=some r):eo P e (.bptr 0 (lP P e i)) v [.cells (pN c l) []]=some [.cells (pN c r) []]:=by
 obtain⟨h0,h1,rfl⟩:=qes h
 obtain⟨_,h2⟩:=L2 (P:=P) (e:=e) s.hc (vab h1)
 have hlen:=s.flat_len l
 have hle:i.toNat * P.cellsOf e+P.cellsOf e<=l.length * P.cellsOf e:=by
  have:=vaZ (P.cellsOf e) h1
  rw[Nat.succ_mul]at this;exact this
 unfold eo
 simp only[hv,List.getElem?_cons_zero,lP,vaK]
 rw[vad ⟨s.hc x,s.hi,by rw[s.hc x];omega,vax.2 (s.ho x)⟩,h2,s.hc x]
 simp
end
def PS(_:List It)(F:Prop):Prop:=F
section
variable{sc:List It}{F X Y:Prop}
theorem en(h:F):PS [] F:=h
theorem sv{o:Option PVal}{p:PVal}(h:o=some p)(r:PS sc F):PS (.v p::sc) (o=some p/\F):=⟨h,r⟩
theorem cq{o:List aP->Option PVal}{p:PVal}(h:∀H,o H=some p)(r:PS sc F):PS (.v p::sc) ((∀H,o H=some p)/\F):=⟨h,r⟩
theorem sx{o:Option (List PVal)}{l:List PVal}(h:o=some l)(r:PS sc F):PS (.x l::sc) (o=some l/\F):=⟨h,r⟩
theorem se{o:Option (List PVal)}{l:List PVal}(h:o=some l)(r:PS sc F):PS (.e l::sc) (o=some l/\F):=⟨h,r⟩
theorem sg(n:Nat){x b:Bool}(h:x=b)(r:PS sc F):PS (.g n b::sc) (x=b/\F):=⟨h,r⟩
theorem ss(r:PS sc F):PS (.s::sc) F:=r
theorem We{o:Option (List PVal)}{l:List PVal}(h:o=some l)(r:PS sc F):PS (.s::sc) (o=some l/\F):=⟨h,r⟩
theorem bz{P:Program}{GE:List (Nat×List PVal)}{g:FuncId}{vs:List PVal}{p:PVal}{ro:List (Nat×TypeId)}(h:CC P GE g vs p ro)(r:PS sc F):PS (.c p ro::sc) (CC P GE g vs p ro/\F):=⟨h,r⟩
theorem sb{P:Program}{T:TypeId}{ps:List (Nat×PVal)}{p:PVal}{L:List (Nat×TypeId)}(h:dy P T ps=some p)(h':sB P T ps L)(r:PS sc F):PS (.b p L::sc) (dy P T ps=some p/\sB P T ps L/\F):=⟨h,h',r⟩
theorem sy{l vs:List PVal}(h:l=vs)(r:PS sc F):PS (.y vs::sc) (l=vs/\F):=⟨h,r⟩
theorem qcq{o:Option (List PVal)}{vs:List PVal}(h:o=some vs)(r:PS sc F):PS (.y vs::sc) (o=some vs/\F):=⟨h,r⟩
theorem sz{o:Option PVal}{l:List PVal}(h:o=some (.agg l))(r:PS sc F):PS (.z l::sc) (o=some (.agg l)/\F):=⟨h,r⟩
theorem lK(an:List Nat)(r:PS sc F):PS (.dr an::sc) F:=r
theorem ka(n:Nat)(r:PS sc F):PS (.pa n::sc) F:=r
theorem cY{P:Program}{GE:List (Nat×List PVal)}{m:Nat}{c:Code}{e:Exit}{s0 s1:aC}(h:aV P GE m c (EX e s1) s0)(r:PS sc F):PS (.pc s0 e s1::sc) ((s0.tmps=s0.tmps/\s0.boxes=s0.boxes/\true=true)/\aV P GE m c (EX e s1) s0/\F):=⟨fr s0,h,r⟩
theorem qhS(i:It)(r:PS sc F):PS (i::sc) F:=r
theorem si(i:It)(h:X)(r:PS sc F):PS (i::sc) (X/\F):=⟨h,r⟩
theorem sf(h:X)(r:PS sc F):PS sc (X/\F):=⟨h,r⟩
theorem qjQ{o:Option (List aP)}{B:aP}(h:o=some [B])(r:PS sc F):PS (.w 0 B::sc) (o=some [B]/\F):=⟨h,r⟩
theorem qmh{o:Option (List (PVal×PVal))}{m:List (PVal×PVal)}(h:o=some m)(r:PS sc F):PS (.w 0 (.map m)::sc) (o=some m/\F):=⟨h,r⟩
theorem qjP(i:Nat)(e:TypeId){n k:Nat}{cs fs:List PVal}(h:X/\Y/\(n=k/\cs=fs))(r:PS sc F):PS (.ar i e n cs::sc) (X/\Y/\(n=k/\cs=fs)/\F):=⟨h.1,h.2.1,h.2.2,r⟩
theorem qgo(i:Nat)(es:List (List PVal))(lv rk:List Nat)(h:X)(h':Y){Z:Prop}(h'':Z)(r:PS sc F):PS (.fz i es lv rk::sc) (X/\Y/\Z/\F):=⟨h,h',h'',r⟩
end
section
variable{P:Program}{GE:List (Nat×List PVal)}{A:List Nat}{m:Nat}
theorem oe(hf:P.follows .mixedOrders=true){c:Code}{e0:Exit}{st0 st:aC}{sc:List It}{F:Prop}(h:PS sc F)(he:F=Bo P GE A m c sc st (FN e0 st0)):aV P GE m c (EX e0 st0) st:=piece hf sc (Eq.mp he h)
theorem qiY(hf:P.follows .mixedOrders=true){σ X:Type}{S:σ->aC}{ex:X->Exit}{so:X->aC}{c:Code}{s:σ}{st:aC}{sc:List It}{F:Prop}(h:PS sc F)(he:F=Bo P GE A m c sc st (FN .normal (S s))):aV P GE m c (LQ S ex so (.inl s)) st:=pw hf sc (Eq.mp he h)
theorem qi1(hf:P.follows .mixedOrders=true){σ X:Type}{S:σ->aC}{ex:X->Exit}{so:X->aC}{c:Code}{x:X}{st:aC}{sc:List It}{F:Prop}(hn:ex x≠.normal)(h:PS sc F)(he:F=Bo P GE A m c sc st (FN (ex x) (so x))):aV P GE m c (LQ S ex so (.inr x)) st:=qkG hf sc hn (Eq.mp he h)
theorem C.evp(hf:P.follows .mixedOrders=true){f:FuncId}{fn:Func}{c:Code}{args:List PVal}{r:PVal}{ro:List (Nat×TypeId)}
  (hcall:∀vs w,(callFunc f vs).run P w=.ok (.enter f vs) w) (hfn:P.funcs[f]? =some fn) (hb:fn.body=some c) (hcl:iC 0 args) {sc:List It} {F:Prop} (h:PS sc F)
  (he:F=Bo P GE A 0 c sc ⟨args++List.replicate (fn.ntmps - args.length) .undef,[],[]⟩ (FR P fn.results.toList r ro)):CC P GE f args r ro:=C.ev hf hcall hfn hb hcl sc (Eq.mp he h)
theorem C.evGp(hf:P.follows .mixedOrders=true){f:FuncId}{fn:Func}{c:Code}{args:List PVal}{oa:List ((Nat×Nat)×TypeId)}{H:List aP}{r:PVal}{ro:List (Nat×TypeId)}{H':List aP}
  (hm:decide (m % 1000=H.length)&&decide (m≠0)&&decide (H'.length=H.length)=true) (hcall:∀vs w,(callFunc f vs).run P w=.ok (.enter f vs) w) (hfn:P.funcs[f]? =some fn) (hb:fn.body=some c) {sc:List It} {F:Prop} (h:PS sc F)
  (he:F=Bo P GE A m c sc ⟨args++List.replicate (fn.ntmps - args.length) .undef,H,oa⟩ (qid P fn.results.toList r ro H')):C P GE f args oa H r ro H':=C.evG hf hm hcall hfn hb sc (Eq.mp he h)
end
section
variable{P:Program}{GE:List (Nat×List PVal)}{A:List Nat}{m:Nat}
theorem dh(hf:P.follows .mixedOrders=true){σ X:Type}{S:σ->aC}{ex:X->Exit}{so:X->aC}{c:Code}{s:σ}{st:aC}{sc:List It}{F:Prop}(h:PS sc F)(he:F=Bo P GE A m c sc st (qic m .normal (S s))):aV P GE m c (LQ S ex so (.inl s)) st:=qiZ hf sc (Eq.mp he h)
theorem IN(hf:P.follows .mixedOrders=true){σ X:Type}{S:σ->aC}{ex:X->Exit}{so:X->aC}{c:Code}{x:X}{st:aC}{sc:List It}{F:Prop}(hn:ex x≠.normal)(h:PS sc F)(he:F=Bo P GE A m c sc st (qic m (ex x) (so x))):aV P GE m c (LQ S ex so (.inr x)) st:=qi2 hf sc hn (Eq.mp he h)
end
def tm(n:Nat):Nat->List (Nat×PVal)->List PVal
 |k,[]=>List.replicate (n - k) .undef
 |k,x::l=>List.replicate (x.1 - k) .undef++x.2::tm n (x.1+1) l
abbrev be(n:Nat)(l:List (Nat×PVal))(H:List aP)(o:List ((Nat×Nat)×TypeId)):aC:=⟨tm n 0 l,H,o⟩
def qg4(n:Nat):List (Nat×PVal)->Prop
 |[]=>True
 |x::l=>x.2.cl n/\qg4 n l
theorem Vg{n:Nat}{l:List PVal}(h:iC n l):∀k,iC n (List.replicate k .undef++l)
 |0=>h
 |k+1=>by rw[List.replicate_succ,vaG];exact⟨trivial,Vg h k⟩
theorem dF{n N:Nat}:∀{l:List (Nat×PVal)} {k:Nat},qg4 n l->iC n (tm N k l)
 |[],k,_=>by unfold tm;have:=Vg (n:=n) (l:=[]) trivial (N - k);rwa[va1]at this
 |x::l,k,h=>by unfold tm;exact Vg (l:=x.2::tm N (x.1+1) l) (by simp only[iC];exact⟨h.1,dF h.2⟩) _
def bits:Nat->Nat->List Bool->List Bool
 |0,_,l=>l
 |k+1,n,l=>if n<=1 then l else bits k (n / 2) ((n % 2==1)::l)
def cA(c:Code)(n:Nat):Code:=gC c (bits 100 n [])
section
variable{X Y:Type}
def kK(F:(X->Option Y)->X->Option Y)(x:X):Option Y:=qiW F qeD x
theorem qg0:18446744073709551616<qeD:=by unfold qeD;omega
theorem cG{F:(X->Option Y)->X->Option Y}{M:X->Y->Prop}(hF:∀rec:X->Option Y,(∀x r,rec x=some r->M x r)->∀x r,F rec x=some r->M x r){x:X}{r:Y}(h:kK F x=some r):M x r:=by
 have key:∀n x r,qiW F n x=some r->M x r:=by
  intro n
  induction n with
  |zero=>intro x r h;cases h
  |succ n ih=>intro x r h;exact hF _ ih x r h
 exact key _ x r h
theorem eP{F:(X->Option Y)->X->Option Y}(μ:X->Nat)(Q:X->Prop)(s:X->Y)(h:∀(R:X->Option Y) x,Q x->(∀y,μ y<μ x->Q y->R y=some (s y))->F R x=some (s x))(x:X)(hx:Q x)(hm:μ x<qeD):kK F x=some (s x):=by
 have key:∀n x,μ x<n->Q x->qiW F n x=some (s x):=by
  intro n
  induction n with
  |zero=>intro x hx;omega
  |succ n ih=>intro x hx hq;exact h _ x hq fun y hy hqy=>ih y (by omega) hqy
 exact key _ x hm hx
end
def Yu{α:Type}(n:Nat)(l:List α)(i:Int):Option α:=if 0<=i/\i.toNat<n then l[i.toNat]? else none
def qha{α:Type}(lo:Int)(n:Nat)(l:List α)(i:Int):Option α:=if 0<=lo/\0<=i/\i.toNat<n then l[(lo+i).toNat]? else none
def qeo(n:Nat)(lo hi:Int):Option Nat:=if 0<=lo/\lo<=hi/\hi.toNat<=n then some (hi.toNat - lo.toNat)else none
def qdc{α:Type}(n:Nat)(l:List α):Option (List α):=if n=l.length then some l else none
theorem qfi{α:Type}{n:Nat}{l:List α}{i:Int}{x:α}(h:Yu n l i=some x):cz l i=some x:=by
 unfold Yu at h
 split at h
 ·rename_i hh;unfold cz;rw[vad hh.1];exact h
 ·cases h
theorem Qs{α:Type}{n:Nat}{l r:List α}(h:qdc n l=some r):n=l.length/\r=l:=by
 unfold qdc at h
 split at h
 ·cases h;exact⟨by assumption,rfl⟩
 ·cases h
section
variable{P:Program}{GE:List (Nat×List PVal)}{T e:TypeId}{α:Type}{c:α->List PVal}
theorem qp.iaN(s:qp P T e c)(b:Nat){n:Nat}{l:List α}{i:Int}{k:IntKind}{x:α}(h:Yu n l i=some x):jq P T (.bsl b 0 n) (.int k i)=some (.bptr b (lP P e i)):=by
 unfold Yu at h
 split at h
 ·rename_i hh
  unfold jq
  rw[s.hu]
  simp only
  rw[vad ⟨hh.1,by omega,s.hi⟩]
 ·cases h
theorem qp.iaM(s:qp P T e c)(b:Nat){lo:Int}{n:Nat}{l:List α}{i:Int}{k:IntKind}{x:α}(h:qha lo n l i=some x):jq P T (.bsl b (lP P e lo) n) (.int k i)=some (.bptr b (lP P e (lo+i))):=by
 unfold qha at h
 split at h
 ·rename_i hh
  unfold jq
  rw[s.hu]
  simp only
  rw[vad ⟨hh.2.1,by omega,s.hi⟩]
  have:(lo+i).toNat=lo.toNat+i.toNat:=by omega
  simp only[lP,this,vaK,va8]
 ·cases h
theorem qp.ldN(s:qp P T e c){n:Nat}{l:List α}{i:Int}{x:α}{p:PVal}(hl:∀r,bo P e (c x++r)=some p)(h:Yu n l i=some x):bo P e ((pN c l).drop (lP P e i))=some p:=s.ldR hl (qfi h)
theorem qp.ldM(s:qp P T e c){lo:Int}{n:Nat}{l:List α}{i:Int}{x:α}{p:PVal}(hl:∀r,bo P e (c x++r)=some p)(h:qha lo n l i=some x):bo P e ((pN c l).drop (lP P e (lo+i)))=some p:=by
 refine s.ldR hl ?_
 unfold qha at h
 split at h
 ·rename_i hh;unfold cz;rw[vad (by omega)];exact h
 ·cases h
theorem qp.scN(s:qp P T e c)(b:Nat){n m:Nat}{lo hi:Int}(h:qeo n lo hi=some m):Am P T (.bsl b 0 n) (some (.int .i64 lo)) (some (.int .i64 hi)) none=some (.bsl b (lP P e lo) m):=by
 unfold qeo at h
 split at h
 ·rename_i hh
  cases h
  unfold Am
  rw[s.hu]
  simp only[Ml,vad hh.1,vad (show 0<=hi by omega)]
  rw[vad ⟨by omega,hh.2.2,s.hi⟩]
 ·cases h
theorem qp.fz1(s:qp P T e c){m b:Nat}(hb:decide (m % 1000<=b)=true)(l:List α):(m % 1000<=b)/\∃sz,0<sz/\∀x∈l.map c,x.length=sz:=⟨vaD hb,_,s.hp,fun x hx=>(s.mapOk l x hx).1⟩
theorem qp.fz2(s:qp P T e c)(b:Nat)(l:List α):Oh b (l.map c):=CO b _ (Vf fun p hp=>by obtain⟨x,_,rfl⟩:=vaq.1 hp;exact s.cl x)
theorem qhP(c:α->List PVal){n:Nat}{l r:List α}(h:qdc n l=some r):pN c l=(r.map c).flatten:=by rw[(Qs h).2];rfl
theorem qhQ(c:α->List PVal){n:Nat}{l r:List α}(h:qdc n l=some r):n=(r.map c).length:=by rw[(Qs h).2,vaF];exact(Qs h).1
theorem qlh{m b:Nat}(hb:decide (m % 1000<=b)=true)(l:List PVal)(hl:decide (l.length≠0)=true):(m % 1000<=b)/\∃sz,0<sz/\∀x∈[l],x.length=sz:=⟨vaD hb,l.length,by have:=vaD hl;omega,fun x hx=>by rw[va4.1 hx]⟩
theorem qli(b:Nat){l:List PVal}(h:iC 0 l):Oh b [l]:=CO b _ ⟨h,trivial⟩
theorem qlj{l r:List PVal}(h:r=l):l=[r].flatten:=by rw[h];simp
theorem Fr(b:Nat){p:PVal}(h:p.cl 0):p.no b:=XJ b p h
end
theorem qeF{α:Type}{c:α->List PVal}(n:Nat)(h:∀x,iC 0 (c x)):∀(l:List α),iC n (pN c l)
 |[]=>trivial
 |x::l=>by
  have e:pN c (x::l)=c x++pN c l:=by simp[pN]
  rw[e]
  exact tc.2 ⟨im (h x),qeF n h l⟩
theorem xS(ρ:List Nat)(i j off n:Nat)(h:ρ[i]? =some j):JP ρ (.bsl j off n) (.bsl i off n):=.bsl i j off n h
theorem qkU(ρ:List Nat):∀(l:List PVal),iC 0 l->Ss ρ l l
 |[],_=>trivial
 |p::l,h=>by simp only[iC]at h;exact⟨.refl p h.1,qkU ρ l h.2⟩
theorem eF(e:Exit)(s:aC):PS [] (e=e/\s.tmps=s.tmps/\s.boxes=s.boxes/\true=true):=⟨rfl,fr s⟩
theorem uP(m:Nat)(e:Exit)(s:aC)(h4:decide (m % 1000<=s.boxes.length)=true)(h5:iC s.boxes.length s.tmps)(h6:Ve s.boxes.length s.boxes):PS [] (e=e/\s.tmps=s.tmps/\s.boxes=s.boxes/\true=true/\decide (m % 1000<=s.boxes.length)=true/\iC s.boxes.length s.tmps/\Ve s.boxes.length s.boxes):=⟨rfl,ql8 m s h4 h5 h6⟩
open Go Go.Proofs.Tryz
set_option linter.unusedVariables false
set_option maxRecDepth 100000
noncomputable abbrev Pg:=Tryz.prog
theorem mixed:Pg.follows .mixedOrders=true:=by kernel_rfl
structure cM where
 Name:af
 Sort_:af
deriving DecidableEq
def bH(x:cM):List PVal:=[.str x.Name,.str x.Sort_]
theorem OD(x:cM):bH x=[.str x.Name,.str x.Sort_]:=rfl
theorem lZ(x:cM):iC 0 (bH x):=(aI trivial (aI trivial trivial))
abbrev qeu(x:cM):PVal:=.agg (bH x)
theorem Xy(x:cM):(bH x).length=2:=by rw[OD];rfl
theorem qdO(x:cM):bK (qeu x)=some (bH x):=rfl
theorem qdQ(x:cM):bK (.agg (bH x))=some [.str x.Name,.str x.Sort_]:=by rw[OD];rfl
theorem qdK(x:cM):∀q∈bH x,q.one=true:=by
 intro q hq
 rw[OD]at hq
 simp only[vaw,vaH,or_false]at hq
 rcases hq with rfl|rfl<;>rfl
theorem qcT:Pg.cellsOf 102=2:=by kernel_rfl
theorem qfo(x:cM):bo Pg 102 (bH x)=some (.agg (bH x)):=by
 have:=lN (P:=Pg) (t:=102) (l:=bH x) (r:=[]) (by kernel_rfl) (qcT.trans (Xy x).symm)
 rwa[va1]at this
theorem W6(x0:af)(x1:af):dy Pg 102 [(0,.str x0),(1,.str x1)]=some (.agg (bH (⟨x0,x1⟩:cM))):=by
 kernel_rfl
theorem Ad(x:cM):aF Pg 102 (.eptr (bH x)) 0=some (.eptr ((bH x).drop 0)):=by kernel_rfl
theorem SL(x:cM):aF Pg 102 (.eptr (bH x)) 1=some (.eptr ((bH x).drop 1)):=by kernel_rfl
theorem Fl(x:cM):bo Pg 9 ((bH x).drop 0)=some (.str x.Name):=by kernel_rfl
theorem VN(x:cM):bo Pg 47 ((bH x).drop 1)=some (.str x.Sort_):=by kernel_rfl
inductive aa where
 |mk (Op:Int) (Name:af) (N:Int) (Kids:(List aa))
def aa.Op:aa->Int
 |⟨x,_,_,_⟩=>x
def aa.Name:aa->af
 |⟨_,x,_,_⟩=>x
def aa.N:aa->Int
 |⟨_,_,x,_⟩=>x
def aa.Kids:aa->(List aa)
 |⟨_,_,_,x⟩=>x
mutual
def ac:aa->List PVal
 |⟨x0,x1,x2,x3⟩=>[.int .i64 x0,.str x1,.int .i64 x2,.slice (zc x3)]
def zc:List aa->List (List PVal)
 |[]=>[]
 |x::r=>ac x::zc r
end
theorem QF:∀(l:List aa),zc l=l.map ac
 |[]=>by simp[zc]
 |x::r=>by simp[zc,QF r]
mutual
theorem ah:∀(x:aa),iC 0 (ac x)
 |⟨x0,x1,x2,x3⟩=>by rw[ac];exact(aI trivial (aI trivial (aI trivial (aI (Ts x3) trivial))))
theorem Ts:∀(l:List aa),wo 0 (zc l)
 |[]=>by simp[zc,wo]
 |x::r=>by rw[zc];exact⟨ah x,Ts r⟩
end
theorem aK:∀(x:aa),ac x=[.int .i64 x.Op,.str x.Name,.int .i64 x.N,sl ac x.Kids]
 |⟨x0,x1,x2,x3⟩=>by
  simp only[ac,QF]
  rfl
abbrev dZ(x:aa):PVal:=.agg (ac x)
theorem L8(x:aa):(ac x).length=4:=by rw[aK];rfl
theorem bU(x:aa):bK (.agg (ac x))=some (ac x):=rfl
theorem cP(x:aa):bK (dZ x)=some (ac x):=rfl
theorem cr(x:aa):bK (.agg (ac x))=some [.int .i64 x.Op,.str x.Name,.int .i64 x.N,sl ac x.Kids]:=by rw[aK];rfl
theorem qbI(x:aa):∀q∈ac x,q.one=true:=by
 intro q hq
 rw[aK]at hq
 simp only[vaw,vaH,or_false]at hq
 rcases hq with rfl|rfl|rfl|rfl<;>rfl
theorem qe8:Pg.cellsOf 36=4:=by kernel_rfl
theorem bh(x:aa):bo Pg 36 (ac x)=some (.agg (ac x)):=by
 have:=lN (P:=Pg) (t:=36) (l:=ac x) (r:=[]) (by kernel_rfl) (qe8.trans (L8 x).symm)
 rwa[va1]at this
theorem bX(x:aa)(r:List PVal):bo Pg 36 ([.int .i64 x.Op,.str x.Name,.int .i64 x.N,sl ac x.Kids]++r)=some (.agg (ac x)):=by
 rw[<-aK];exact lN (by kernel_rfl) (qe8.trans (L8 x).symm)
theorem dm(x:aa):PVal.agg [.int .i64 x.Op,.str x.Name,.int .i64 x.N,sl ac x.Kids]=.agg (ac x):=by rw[aK]
theorem tb:dy Pg 36 []=some (.agg (ac (⟨0,([]:af),0,([]:List aa)⟩:aa))):=by
 simp only[aK]
 kernel_rfl
theorem ta:sB Pg 36 [] [(3,36)]:=by
 exact⟨[.int .i64 0,.str ([]:af),.int .i64 0,.val gk],by kernel_rfl,(aI rfl trivial)⟩
theorem ko(x0:Int)(x1:af):dy Pg 36 [(0,.int .i64 x0),(1,.str x1)]=some (.agg (ac (⟨x0,x1,0,([]:List aa)⟩:aa))):=by
 simp only[aK]
 kernel_rfl
theorem kl(x0:Int)(x1:af):sB Pg 36 [(0,.int .i64 x0),(1,.str x1)] [(3,36)]:=by
 exact⟨[.int .i64 x0,.str x1,.int .i64 0,.val gk],by kernel_rfl,(aI rfl trivial)⟩
theorem E5(x0:Int)(x1:af)(x2:Int):dy Pg 36 [(0,.int .i64 x0),(1,.str x1),(2,.int .i64 x2)]=some (.agg (ac (⟨x0,x1,x2,([]:List aa)⟩:aa))):=by
 simp only[aK]
 kernel_rfl
theorem E3(x0:Int)(x1:af)(x2:Int):sB Pg 36 [(0,.int .i64 x0),(1,.str x1),(2,.int .i64 x2)] [(3,36)]:=by
 exact⟨[.int .i64 x0,.str x1,.int .i64 x2,.val gk],by kernel_rfl,(aI rfl trivial)⟩
theorem LW(x0:Int)(x1:af)(x2:Int)(x3:(List aa)):dy Pg 36 [(0,.int .i64 x0),(1,.str x1),(2,.int .i64 x2),(3,sl ac x3)]=some (.agg (ac (⟨x0,x1,x2,x3⟩:aa))):=by
 simp only[aK]
 kernel_rfl
theorem ry(x0:Int)(x2:Int):dy Pg 36 [(0,.int .i64 x0),(2,.int .i64 x2)]=some (.agg (ac (⟨x0,([]:af),x2,([]:List aa)⟩:aa))):=by
 simp only[aK]
 kernel_rfl
theorem rv(x0:Int)(x2:Int):sB Pg 36 [(0,.int .i64 x0),(2,.int .i64 x2)] [(3,36)]:=by
 exact⟨[.int .i64 x0,.str ([]:af),.int .i64 x2,.val gk],by kernel_rfl,(aI rfl trivial)⟩
theorem J4(x0:Int)(x3:(List aa)):dy Pg 36 [(0,.int .i64 x0),(3,sl ac x3)]=some (.agg (ac (⟨x0,([]:af),0,x3⟩:aa))):=by
 simp only[aK]
 kernel_rfl
theorem P5(x0:Int):dy Pg 36 [(0,.int .i64 x0)]=some (.agg (ac (⟨x0,([]:af),0,([]:List aa)⟩:aa))):=by
 simp only[aK]
 kernel_rfl
theorem P2(x0:Int):sB Pg 36 [(0,.int .i64 x0)] [(3,36)]:=by
 exact⟨[.int .i64 x0,.str ([]:af),.int .i64 0,.val gk],by kernel_rfl,(aI rfl trivial)⟩
theorem bE(x:aa):aF Pg 36 (.eptr (ac x)) 0=some (.eptr ((ac x).drop 0)):=by rw[aK];kernel_rfl
theorem cw(x:aa):aF Pg 36 (.eptr (ac x)) 1=some (.eptr ((ac x).drop 1)):=by rw[aK];kernel_rfl
theorem dG(x:aa):aF Pg 36 (.eptr (ac x)) 2=some (.eptr ((ac x).drop 2)):=by rw[aK];kernel_rfl
theorem bC(x:aa):aF Pg 36 (.eptr (ac x)) 3=some (.eptr ((ac x).drop 3)):=by rw[aK];kernel_rfl
theorem bF(x:aa):bo Pg 33 ((ac x).drop 0)=some (.int .i64 x.Op):=by rw[aK];kernel_rfl
theorem cR(x:aa):bo Pg 9 ((ac x).drop 1)=some (.str x.Name):=by rw[aK];kernel_rfl
theorem dX(x:aa):bo Pg 3 ((ac x).drop 2)=some (.int .i64 x.N):=by rw[aK];kernel_rfl
theorem bD(x:aa):bo Pg 34 ((ac x).drop 3)=some (sl ac x.Kids):=by rw[aK];kernel_rfl
inductive ae where
 |mk (Op:Int) (Name:af) (Args:(List ae)) (Names:(List af)) (Pred:aa) (Preds:(List aa))
def ae.Op:ae->Int
 |⟨x,_,_,_,_,_⟩=>x
def ae.Name:ae->af
 |⟨_,x,_,_,_,_⟩=>x
def ae.Args:ae->(List ae)
 |⟨_,_,x,_,_,_⟩=>x
def ae.Names:ae->(List af)
 |⟨_,_,_,x,_,_⟩=>x
def ae.Pred:ae->aa
 |⟨_,_,_,_,x,_⟩=>x
def ae.Preds:ae->(List aa)
 |⟨_,_,_,_,_,x⟩=>x
mutual
def ag:ae->List PVal
 |⟨x0,x1,x2,x3,x4,x5⟩=>[.int .i64 x0,.str x1,.slice (zd x2),sl cS x3]++(ac x4++([sl ac x5]))
def zd:List ae->List (List PVal)
 |[]=>[]
 |x::r=>ag x::zd r
end
theorem QG:∀(l:List ae),zd l=l.map ag
 |[]=>by simp[zd]
 |x::r=>by simp[zd,QG r]
mutual
theorem ak:∀(x:ae),iC 0 (ag x)
 |⟨x0,x1,x2,x3,x4,x5⟩=>by rw[ag];exact tc.2 (aI ((aI trivial (aI trivial (aI (Tt x2) (aI (aj dN x3) trivial))))) (tc.2 (aI (ah x4) ((aI (aj ah x5) trivial)))))
theorem Tt:∀(l:List ae),wo 0 (zd l)
 |[]=>by simp[zd,wo]
 |x::r=>by rw[zd];exact⟨ak x,Tt r⟩
end
theorem bu:∀(x:ae),ag x=[.int .i64 x.Op,.str x.Name,sl ag x.Args,sl cS x.Names,.int .i64 x.Pred.Op,.str x.Pred.Name,.int .i64 x.Pred.N,sl ac x.Pred.Kids,sl ac x.Preds]
 |⟨x0,x1,x2,x3,x4,x5⟩=>by
  simp only[ag,QG,aK,vaG,vaC]
  rfl
abbrev jG(x:ae):PVal:=.agg (ag x)
theorem Gt(x:ae):(ag x).length=9:=by rw[bu];rfl
theorem bw(x:ae):bK (.agg (ag x))=some (ag x):=rfl
theorem eO(x:ae):bK (jG x)=some (ag x):=rfl
theorem ez(x:ae):bK (.agg (ag x))=some [.int .i64 x.Op,.str x.Name,sl ag x.Args,sl cS x.Names,.int .i64 x.Pred.Op,.str x.Pred.Name,.int .i64 x.Pred.N,sl ac x.Pred.Kids,sl ac x.Preds]:=by rw[bu];rfl
theorem qbK(x:ae):∀q∈ag x,q.one=true:=by
 intro q hq
 rw[bu]at hq
 simp only[vaw,vaH,or_false]at hq
 rcases hq with rfl|rfl|rfl|rfl|rfl|rfl|rfl|rfl|rfl<;>rfl
theorem qcU:Pg.cellsOf 38=9:=by kernel_rfl
theorem aN(x:ae):bo Pg 38 (ag x)=some (.agg (ag x)):=by
 have:=lN (P:=Pg) (t:=38) (l:=ag x) (r:=[]) (by kernel_rfl) (qcU.trans (Gt x).symm)
 rwa[va1]at this
theorem cX(x:ae)(r:List PVal):bo Pg 38 ([.int .i64 x.Op,.str x.Name,sl ag x.Args,sl cS x.Names,.int .i64 x.Pred.Op,.str x.Pred.Name,.int .i64 x.Pred.N,sl ac x.Pred.Kids,sl ac x.Preds]++r)=some (.agg (ag x)):=by
 rw[<-bu];exact lN (by kernel_rfl) (qcU.trans (Gt x).symm)
theorem ic(x:ae):PVal.agg [.int .i64 x.Op,.str x.Name,sl ag x.Args,sl cS x.Names,.int .i64 x.Pred.Op,.str x.Pred.Name,.int .i64 x.Pred.N,sl ac x.Pred.Kids,sl ac x.Preds]=.agg (ag x):=by rw[bu]
theorem J5(x0:Int)(x1:af):dy Pg 38 [(0,.int .i64 x0),(1,.str x1)]=some (.agg (ag (⟨x0,x1,([]:List ae),([]:List af),(⟨0,([]:af),0,([]:List aa)⟩:aa),([]:List aa)⟩:ae))):=by
 simp only[bu]
 kernel_rfl
theorem J2(x0:Int)(x1:af):sB Pg 38 [(0,.int .i64 x0),(1,.str x1)] [(2,38),(3,9),(7,36),(8,36)]:=by
 exact⟨[.int .i64 x0,.str x1,.val gk,.val gk,.int .i64 0,.str ([]:af),.int .i64 0,.val gk,.val gk],by kernel_rfl,(aI rfl (aI rfl (aI rfl (aI rfl trivial))))⟩
theorem Iq(x0:Int)(x1:af)(x3:(List af))(x4:aa)(x5:(List aa)):dy Pg 38 [(0,.int .i64 x0),(1,.str x1),(3,sl cS x3),(4,.agg (ac x4)),(5,sl ac x5)]=some (.agg (ag (⟨x0,x1,([]:List ae),x3,x4,x5⟩:ae))):=by
 simp only[bu,aK]
 kernel_rfl
theorem Ip(x0:Int)(x1:af)(x3:(List af))(x4:aa)(x5:(List aa)):sB Pg 38 [(0,.int .i64 x0),(1,.str x1),(3,sl cS x3),(4,.agg (ac x4)),(5,sl ac x5)] [(2,38)]:=by
 simp only[aK]
 exact⟨[.int .i64 x0,.str x1,.val gk,sl cS x3,.int .i64 x4.Op,.str x4.Name,.int .i64 x4.N,sl ac x4.Kids,sl ac x5],by kernel_rfl,(aI rfl trivial)⟩
theorem P6(x0:Int)(x1:af)(x4:aa):dy Pg 38 [(0,.int .i64 x0),(1,.str x1),(4,.agg (ac x4))]=some (.agg (ag (⟨x0,x1,([]:List ae),([]:List af),x4,([]:List aa)⟩:ae))):=by
 simp only[bu,aK]
 kernel_rfl
theorem P3(x0:Int)(x1:af)(x4:aa):sB Pg 38 [(0,.int .i64 x0),(1,.str x1),(4,.agg (ac x4))] [(2,38),(3,9),(8,36)]:=by
 simp only[aK]
 exact⟨[.int .i64 x0,.str x1,.val gk,.val gk,.int .i64 x4.Op,.str x4.Name,.int .i64 x4.N,sl ac x4.Kids,.val gk],by kernel_rfl,(aI rfl (aI rfl (aI rfl trivial)))⟩
theorem E6(x0:Int)(x3:(List af))(x2:(List ae)):dy Pg 38 [(0,.int .i64 x0),(3,sl cS x3),(2,sl ag x2)]=some (.agg (ag (⟨x0,([]:af),x2,x3,(⟨0,([]:af),0,([]:List aa)⟩:aa),([]:List aa)⟩:ae))):=by
 simp only[bu]
 kernel_rfl
theorem E4(x0:Int)(x3:(List af))(x2:(List ae)):sB Pg 38 [(0,.int .i64 x0),(3,sl cS x3),(2,sl ag x2)] [(7,36),(8,36)]:=by
 exact⟨[.int .i64 x0,.str ([]:af),sl ag x2,sl cS x3,.int .i64 0,.str ([]:af),.int .i64 0,.val gk,.val gk],by kernel_rfl,(aI rfl (aI rfl trivial))⟩
theorem Vb(x0:Int)(x4:aa):dy Pg 38 [(0,.int .i64 x0),(4,.agg (ac x4))]=some (.agg (ag (⟨x0,([]:af),([]:List ae),([]:List af),x4,([]:List aa)⟩:ae))):=by
 simp only[bu,aK]
 kernel_rfl
theorem U9(x0:Int)(x4:aa):sB Pg 38 [(0,.int .i64 x0),(4,.agg (ac x4))] [(2,38),(3,9),(8,36)]:=by
 simp only[aK]
 exact⟨[.int .i64 x0,.str ([]:af),.val gk,.val gk,.int .i64 x4.Op,.str x4.Name,.int .i64 x4.N,sl ac x4.Kids,.val gk],by kernel_rfl,(aI rfl (aI rfl (aI rfl trivial)))⟩
theorem YN(x0:Int):dy Pg 38 [(0,.int .i64 x0)]=some (.agg (ag (⟨x0,([]:af),([]:List ae),([]:List af),(⟨0,([]:af),0,([]:List aa)⟩:aa),([]:List aa)⟩:ae))):=by
 simp only[bu]
 kernel_rfl
theorem YL(x0:Int):sB Pg 38 [(0,.int .i64 x0)] [(2,38),(3,9),(7,36),(8,36)]:=by
 exact⟨[.int .i64 x0,.str ([]:af),.val gk,.val gk,.int .i64 0,.str ([]:af),.int .i64 0,.val gk,.val gk],by kernel_rfl,(aI rfl (aI rfl (aI rfl (aI rfl trivial))))⟩
theorem Dy(x0:Int)(x1:af)(b3 n3:Nat)(x4:aa)(x5:(List aa)):dy Pg 38 [(0,.int .i64 x0),(1,.str x1),(3,.bsl b3 0 n3),(4,.agg (ac x4)),(5,sl ac x5)]=some (.agg [.int .i64 x0,.str x1,sl ag ([]:List ae),.bsl b3 0 n3,.int .i64 x4.Op,.str x4.Name,.int .i64 x4.N,sl ac x4.Kids,sl ac x5]):=by
 simp only[aK]
 kernel_rfl
theorem Dw(x0:Int)(x1:af)(b3 n3:Nat)(x4:aa)(x5:(List aa)):sB Pg 38 [(0,.int .i64 x0),(1,.str x1),(3,.bsl b3 0 n3),(4,.agg (ac x4)),(5,sl ac x5)] [(2,38)]:=by
 simp only[aK]
 exact⟨[.int .i64 x0,.str x1,.val gk,.bsl b3 0 n3,.int .i64 x4.Op,.str x4.Name,.int .i64 x4.N,sl ac x4.Kids,sl ac x5],by kernel_rfl,(aI rfl trivial)⟩
theorem aD(x:ae):aF Pg 38 (.eptr (ag x)) 0=some (.eptr ((ag x).drop 0)):=by rw[bu];kernel_rfl
theorem cx(x:ae):aF Pg 38 (.eptr (ag x)) 1=some (.eptr ((ag x).drop 1)):=by rw[bu];kernel_rfl
theorem aL(x:ae):aF Pg 38 (.eptr (ag x)) 2=some (.eptr ((ag x).drop 2)):=by rw[bu];kernel_rfl
theorem aQ(x:ae):aF Pg 38 (.eptr (ag x)) 3=some (.eptr ((ag x).drop 3)):=by rw[bu];kernel_rfl
theorem dH(x:ae):aF Pg 38 (.eptr (ag x)) 4=some (.eptr ((ag x).drop 4)):=by rw[bu];kernel_rfl
theorem du(x:ae):aF Pg 38 (.eptr (ag x)) 5=some (.eptr ((ag x).drop 8)):=by rw[bu];kernel_rfl
theorem aE(x:ae):bo Pg 30 ((ag x).drop 0)=some (.int .i64 x.Op):=by rw[bu];kernel_rfl
theorem cT(x:ae):bo Pg 9 ((ag x).drop 1)=some (.str x.Name):=by rw[bu];kernel_rfl
theorem aM(x:ae):bo Pg 31 ((ag x).drop 2)=some (sl ag x.Args):=by rw[bu];kernel_rfl
theorem aR(x:ae):bo Pg 32 ((ag x).drop 3)=some (sl cS x.Names):=by rw[bu];kernel_rfl
theorem dI(x:ae):bo Pg 36 ((ag x).drop 4)=some (.agg (ac x.Pred)):=by
 rw[bu,aK];kernel_rfl
theorem dv(x:ae):bo Pg 34 ((ag x).drop 8)=some (sl ac x.Preds):=by rw[bu];kernel_rfl
theorem TJ(x:ae)(r:List PVal):bo Pg 38 (ag x++r)=some (.agg (ag x)):=lN (by kernel_rfl) (qcU.trans (Gt x).symm)
structure eh where
 Name:af
 Names:(List af)
 Fields:(List ae)
def ef(x:eh):List PVal:=[.str x.Name,sl cS x.Names,sl ag x.Fields]
theorem Vo(x:eh):ef x=[.str x.Name,sl cS x.Names,sl ag x.Fields]:=rfl
theorem Gk(x:eh):iC 0 (ef x):=(aI trivial (aI (aj dN x.Names) (aI (aj ak x.Fields) trivial)))
theorem qdt(x:eh):(ef x).length=3:=by rw[Vo];rfl
theorem qdI(x:eh):∀q∈ef x,q.one=true:=by
 intro q hq
 rw[Vo]at hq
 simp only[vaw,vaH,or_false]at hq
 rcases hq with rfl|rfl|rfl<;>rfl
theorem qiM:Pg.cellsOf 73=3:=by kernel_rfl
theorem Vp(x:eh):aF Pg 73 (.eptr (ef x)) 1=some (.eptr ((ef x).drop 1)):=by kernel_rfl
theorem Vq(x:eh):aF Pg 73 (.eptr (ef x)) 2=some (.eptr ((ef x).drop 2)):=by kernel_rfl
theorem VJ(x:eh):bo Pg 32 ((ef x).drop 1)=some (sl cS x.Names):=by kernel_rfl
theorem VK(x:eh):bo Pg 31 ((ef x).drop 2)=some (sl ag x.Fields):=by kernel_rfl
structure ed where
 Name:af
 Vars:(List af)
 Preds:(List cM)
 Cons:(List eh)
def cN(x:ed):List PVal:=[.str x.Name,sl cS x.Vars,sl bH x.Preds,sl ef x.Cons]
theorem uA(x:ed):cN x=[.str x.Name,sl cS x.Vars,sl bH x.Preds,sl ef x.Cons]:=rfl
theorem ur(x:ed):iC 0 (cN x):=(aI trivial (aI (aj dN x.Vars) (aI (aj lZ x.Preds) (aI (aj Gk x.Cons) trivial))))
theorem L7(x:ed):(cN x).length=4:=by rw[uA];rfl
theorem A4(x:ed):bK (.agg (cN x))=some [.str x.Name,sl cS x.Vars,sl bH x.Preds,sl ef x.Cons]:=by rw[uA];rfl
theorem qbF(x:ed):∀q∈cN x,q.one=true:=by
 intro q hq
 rw[uA]at hq
 simp only[vaw,vaH,or_false]at hq
 rcases hq with rfl|rfl|rfl|rfl<;>rfl
theorem qfa:Pg.cellsOf 71=4:=by kernel_rfl
theorem XC(x:ed):bo Pg 71 (cN x)=some (.agg (cN x)):=by
 have:=lN (P:=Pg) (t:=71) (l:=cN x) (r:=[]) (by kernel_rfl) (qfa.trans (L7 x).symm)
 rwa[va1]at this
theorem qbu(x:ed)(r:List PVal):bo Pg 71 ([.str x.Name,sl cS x.Vars,sl bH x.Preds,sl ef x.Cons]++r)=some (.agg (cN x)):=by
 rw[<-uA];exact lN (by kernel_rfl) (qfa.trans (L7 x).symm)
theorem GF(x:ed):PVal.agg [.str x.Name,sl cS x.Vars,sl bH x.Preds,sl ef x.Cons]=.agg (cN x):=by rw[uA]
theorem P4:dy Pg 71 []=some (.agg (cN (⟨([]:af),([]:List af),([]:List cM),([]:List eh)⟩:ed))):=by
 kernel_rfl
theorem P1:sB Pg 71 [] [(1,9),(2,102),(3,73)]:=by
 exact⟨[.str ([]:af),.val gk,.val gk,.val gk],by kernel_rfl,(aI rfl (aI rfl (aI rfl trivial)))⟩
theorem Hw(x:ed):aF Pg 71 (.eptr (cN x)) 0=some (.eptr ((cN x).drop 0)):=by kernel_rfl
theorem SD(x:ed):aF Pg 71 (.eptr (cN x)) 1=some (.eptr ((cN x).drop 1)):=by kernel_rfl
theorem SE(x:ed):aF Pg 71 (.eptr (cN x)) 2=some (.eptr ((cN x).drop 2)):=by kernel_rfl
theorem Ac(x:ed):aF Pg 71 (.eptr (cN x)) 3=some (.eptr ((cN x).drop 3)):=by kernel_rfl
theorem Kn(x:ed):bo Pg 9 ((cN x).drop 0)=some (.str x.Name):=by kernel_rfl
theorem ST(x:ed):bo Pg 32 ((cN x).drop 1)=some (sl cS x.Vars):=by kernel_rfl
theorem SU(x:ed):bo Pg 60 ((cN x).drop 2)=some (sl bH x.Preds):=by kernel_rfl
theorem Ah(x:ed):bo Pg 69 ((cN x).drop 3)=some (sl ef x.Cons):=by kernel_rfl
structure ud where
 Name:af
 Type_:ae
def ey(x:ud):List PVal:=[.str x.Name]++(ag x.Type_)
theorem te(x:ud):ey x=[.str x.Name,.int .i64 x.Type_.Op,.str x.Type_.Name,sl ag x.Type_.Args,sl cS x.Type_.Names,.int .i64 x.Type_.Pred.Op,.str x.Type_.Pred.Name,.int .i64 x.Type_.Pred.N,sl ac x.Type_.Pred.Kids,sl ac x.Type_.Preds]:=by
 unfold ey
 simp only[bu,vaG,vaC]
theorem P9(x:ud):iC 0 (ey x):=by rw[te];exact(aI trivial (aI trivial (aI trivial (aI (aj ak x.Type_.Args) (aI (aj dN x.Type_.Names) (aI trivial (aI trivial (aI trivial (aI (aj ah x.Type_.Pred.Kids) (aI (aj ah x.Type_.Preds) trivial))))))))))
theorem Xw(x:ud):(ey x).length=10:=by rw[te];rfl
theorem XL(x:ud):∀q∈ey x,q.one=true:=by
 intro q hq
 rw[te]at hq
 simp only[vaw,vaH,or_false]at hq
 rcases hq with rfl|rfl|rfl|rfl|rfl|rfl|rfl|rfl|rfl|rfl<;>rfl
theorem qiO:Pg.cellsOf 79=10:=by kernel_rfl
theorem Oe(x:ud):aF Pg 79 (.eptr (ey x)) 1=some (.eptr ((ey x).drop 1)):=by rw[te];kernel_rfl
theorem Og(x:ud):bo Pg 38 ((ey x).drop 1)=some (.agg (ag x.Type_)):=by
 rw[te,bu];kernel_rfl
structure su where
 Name:af
 Var:af
 Methods:(List ud)
def fE(x:su):List PVal:=[.str x.Name,.str x.Var,sl ey x.Methods]
theorem LZ(x:su):fE x=[.str x.Name,.str x.Var,sl ey x.Methods]:=rfl
theorem LX(x:su):iC 0 (fE x):=(aI trivial (aI trivial (aI (aj P9 x.Methods) trivial)))
theorem Zh(x:su):(fE x).length=3:=by rw[LZ];rfl
theorem Zn(x:su):∀q∈fE x,q.one=true:=by
 intro q hq
 rw[LZ]at hq
 simp only[vaw,vaH,or_false]at hq
 rcases hq with rfl|rfl|rfl<;>rfl
theorem qiN:Pg.cellsOf 77=3:=by kernel_rfl
theorem Fg(x:su):aF Pg 77 (.eptr (fE x)) 2=some (.eptr ((fE x).drop 2)):=by kernel_rfl
theorem Fj(x:su):bo Pg 75 ((fE x).drop 2)=some (sl ey x.Methods):=by kernel_rfl
structure FV where
 Class:af
 Var:af
deriving DecidableEq
def iA(x:FV):List PVal:=[.str x.Class,.str x.Var]
theorem Qk(x:FV):iA x=[.str x.Class,.str x.Var]:=rfl
theorem Qa(x:FV):iC 0 (iA x):=(aI trivial (aI trivial trivial))
theorem qbs(x:FV):(iA x).length=2:=by rw[Qk];rfl
theorem qbH(x:FV):∀q∈iA x,q.one=true:=by
 intro q hq
 rw[Qk]at hq
 simp only[vaw,vaH,or_false]at hq
 rcases hq with rfl|rfl<;>rfl
theorem qf6:Pg.cellsOf 247=2:=by kernel_rfl
structure ql where
 Name:af
 Type_:ae
def d8(x:ql):List PVal:=[.str x.Name]++(ag x.Type_)
theorem qr(x:ql):d8 x=[.str x.Name,.int .i64 x.Type_.Op,.str x.Type_.Name,sl ag x.Type_.Args,sl cS x.Type_.Names,.int .i64 x.Type_.Pred.Op,.str x.Type_.Pred.Name,.int .i64 x.Type_.Pred.N,sl ac x.Type_.Pred.Kids,sl ac x.Type_.Preds]:=by
 unfold d8
 simp only[bu,vaG,vaC]
theorem LY(x:ql):iC 0 (d8 x):=by rw[qr];exact(aI trivial (aI trivial (aI trivial (aI (aj ak x.Type_.Args) (aI (aj dN x.Type_.Names) (aI trivial (aI trivial (aI trivial (aI (aj ah x.Type_.Pred.Kids) (aI (aj ah x.Type_.Preds) trivial))))))))))
theorem Zi(x:ql):(d8 x).length=10:=by rw[qr];rfl
theorem Zo(x:ql):∀q∈d8 x,q.one=true:=by
 intro q hq
 rw[qr]at hq
 simp only[vaw,vaH,or_false]at hq
 rcases hq with rfl|rfl|rfl|rfl|rfl|rfl|rfl|rfl|rfl|rfl<;>rfl
theorem qf3:Pg.cellsOf 125=10:=by kernel_rfl
theorem Df(x:ql):aF Pg 125 (.eptr (d8 x)) 0=some (.eptr ((d8 x).drop 0)):=by rw[qr];kernel_rfl
theorem Dg(x:ql):aF Pg 125 (.eptr (d8 x)) 1=some (.eptr ((d8 x).drop 1)):=by rw[qr];kernel_rfl
theorem HB(x:ql):bo Pg 9 ((d8 x).drop 0)=some (.str x.Name):=by rw[qr];kernel_rfl
theorem Fk(x:ql):bo Pg 38 ((d8 x).drop 1)=some (.agg (ag x.Type_)):=by
 rw[qr,bu];kernel_rfl
mutual
inductive cb where
 |mk (Op:Int) (Name:af) (N:Int) (Kids:(List cb)) (Params:(List ql)) (Alts:(List uN)) (Types:(List ae))
inductive uN where
 |mk (Con:af) (Names:(List af)) (Body:cb)
end
def cb.Op:cb->Int
 |⟨x,_,_,_,_,_,_⟩=>x
def cb.Name:cb->af
 |⟨_,x,_,_,_,_,_⟩=>x
def cb.N:cb->Int
 |⟨_,_,x,_,_,_,_⟩=>x
def cb.Kids:cb->(List cb)
 |⟨_,_,_,x,_,_,_⟩=>x
def cb.Params:cb->(List ql)
 |⟨_,_,_,_,x,_,_⟩=>x
def cb.Alts:cb->(List uN)
 |⟨_,_,_,_,_,x,_⟩=>x
def cb.Types:cb->(List ae)
 |⟨_,_,_,_,_,_,x⟩=>x
def uN.Con:uN->af
 |⟨x,_,_⟩=>x
def uN.Names:uN->(List af)
 |⟨_,x,_⟩=>x
def uN.Body:uN->cb
 |⟨_,_,x⟩=>x
mutual
def ba:cb->List PVal
 |⟨x0,x1,x2,x3,x4,x5,x6⟩=>[.int .i64 x0,.str x1,.int .i64 x2,.slice (zb x3),sl d8 x4,.slice (Fi x5),sl ag x6]
def ft:uN->List PVal
 |⟨x0,x1,x2⟩=>[.str x0,sl cS x1]++(ba x2)
def zb:List cb->List (List PVal)
 |[]=>[]
 |x::r=>ba x::zb r
def Fi:List uN->List (List PVal)
 |[]=>[]
 |x::r=>ft x::Fi r
end
theorem QE:∀(l:List cb),zb l=l.map ba
 |[]=>by simp[zb]
 |x::r=>by simp[zb,QE r]
theorem TH:∀(l:List uN),Fi l=l.map ft
 |[]=>by simp[Fi]
 |x::r=>by simp[Fi,TH r]
mutual
theorem AS:∀(x:cb),iC 0 (ba x)
 |⟨x0,x1,x2,x3,x4,x5,x6⟩=>by rw[ba];exact(aI trivial (aI trivial (aI trivial (aI (Tr x3) (aI (aj LY x4) (aI (Xc x5) (aI (aj ak x6) trivial)))))))
theorem Vh:∀(x:uN),iC 0 (ft x)
 |⟨x0,x1,x2⟩=>by rw[ft];exact tc.2 (aI ((aI trivial (aI (aj dN x1) trivial))) (AS x2))
theorem Tr:∀(l:List cb),wo 0 (zb l)
 |[]=>by simp[zb,wo]
 |x::r=>by rw[zb];exact⟨AS x,Tr r⟩
theorem Xc:∀(l:List uN),wo 0 (Fi l)
 |[]=>by simp[Fi,wo]
 |x::r=>by rw[Fi];exact⟨Vh x,Xc r⟩
end
theorem ej:∀(x:cb),ba x=[.int .i64 x.Op,.str x.Name,.int .i64 x.N,sl ba x.Kids,sl d8 x.Params,sl ft x.Alts,sl ag x.Types]
 |⟨x0,x1,x2,x3,x4,x5,x6⟩=>by
  simp only[ba,QE,TH]
  rfl
theorem TI(x:cb):(ba x).length=7:=by rw[ej];rfl
theorem XR(x:cb):bK (.agg (ba x))=some (ba x):=rfl
theorem qbG(x:cb):∀q∈ba x,q.one=true:=by
 intro q hq
 rw[ej]at hq
 simp only[vaw,vaH,or_false]at hq
 rcases hq with rfl|rfl|rfl|rfl|rfl|rfl|rfl<;>rfl
theorem qg6:Pg.cellsOf 97=7:=by kernel_rfl
theorem qf4:Pg.cellsOf 127=9:=by kernel_rfl
theorem XD(x:cb):bo Pg 97 (ba x)=some (.agg (ba x)):=by
 have:=lN (P:=Pg) (t:=97) (l:=ba x) (r:=[]) (by kernel_rfl) (qg6.trans (TI x).symm)
 rwa[va1]at this
theorem YM(x6:(List ae)):dy Pg 97 [(6,sl ag x6)]=some (.agg (ba (⟨0,([]:af),0,([]:List cb),([]:List ql),([]:List uN),x6⟩:cb))):=by
 simp only[ej]
 kernel_rfl
theorem YK(x6:(List ae)):sB Pg 97 [(6,sl ag x6)] [(3,97),(4,125),(5,127)]:=by
 exact⟨[.int .i64 0,.str ([]:af),.int .i64 0,.val gk,.val gk,.val gk,sl ag x6],by kernel_rfl,(aI rfl (aI rfl (aI rfl trivial)))⟩
theorem Hx(x:cb):aF Pg 97 (.eptr (ba x)) 1=some (.eptr ((ba x).drop 1)):=by rw[ej];kernel_rfl
theorem tT(x:cb):aF Pg 97 (.eptr (ba x)) 3=some (.eptr ((ba x).drop 3)):=by rw[ej];kernel_rfl
theorem lF(x:cb):aF Pg 97 (.eptr (ba x)) 4=some (.eptr ((ba x).drop 4)):=by rw[ej];kernel_rfl
theorem jn(x:cb):aF Pg 97 (.eptr (ba x)) 5=some (.eptr ((ba x).drop 5)):=by rw[ej];kernel_rfl
theorem Hy(x:cb):aF Pg 97 (.eptr (ba x)) 6=some (.eptr ((ba x).drop 6)):=by rw[ej];kernel_rfl
theorem Ko(x:cb):bo Pg 9 ((ba x).drop 1)=some (.str x.Name):=by rw[ej];kernel_rfl
theorem tW(x:cb):bo Pg 93 ((ba x).drop 3)=some (sl ba x.Kids):=by rw[ej];kernel_rfl
theorem lH(x:cb):bo Pg 94 ((ba x).drop 4)=some (sl d8 x.Params):=by rw[ej];kernel_rfl
theorem jp(x:cb):bo Pg 95 ((ba x).drop 5)=some (sl ft x.Alts):=by rw[ej];kernel_rfl
theorem HA(x:cb):bo Pg 31 ((ba x).drop 6)=some (sl ag x.Types):=by rw[ej];kernel_rfl
theorem tR:∀(x:uN),ft x=[.str x.Con,sl cS x.Names,.int .i64 x.Body.Op,.str x.Body.Name,.int .i64 x.Body.N,sl ba x.Body.Kids,sl d8 x.Body.Params,sl ft x.Body.Alts,sl ag x.Body.Types]
 |⟨x0,x1,x2⟩=>by
  simp only[ft,ej,vaG,vaC]
  rfl
theorem qds(x:uN):(ft x).length=9:=by rw[tR];rfl
theorem qdH(x:uN):∀q∈ft x,q.one=true:=by
 intro q hq
 rw[tR]at hq
 simp only[vaw,vaH,or_false]at hq
 rcases hq with rfl|rfl|rfl|rfl|rfl|rfl|rfl|rfl|rfl<;>rfl
theorem SA(x:uN):aF Pg 127 (.eptr (ft x)) 0=some (.eptr ((ft x).drop 0)):=by rw[tR];kernel_rfl
theorem Hu(x:uN):aF Pg 127 (.eptr (ft x)) 1=some (.eptr ((ft x).drop 1)):=by rw[tR];kernel_rfl
theorem Hv(x:uN):aF Pg 127 (.eptr (ft x)) 2=some (.eptr ((ft x).drop 2)):=by rw[tR];kernel_rfl
theorem Xz(x:uN):bo Pg 9 ((ft x).drop 0)=some (.str x.Con):=by rw[tR];kernel_rfl
theorem Kl(x:uN):bo Pg 32 ((ft x).drop 1)=some (sl cS x.Names):=by rw[tR];kernel_rfl
theorem Km(x:uN):bo Pg 97 ((ft x).drop 2)=some (.agg (ba x.Body)):=by
 rw[tR,ej];kernel_rfl
structure S8 where
 Name:af
 Sort_:af
deriving DecidableEq
def qa(x:S8):List PVal:=[.str x.Name,.str x.Sort_]
theorem Vn(x:S8):qa x=[.str x.Name,.str x.Sort_]:=rfl
theorem ZZ(x:S8):iC 0 (qa x):=(aI trivial (aI trivial trivial))
theorem qdr(x:S8):(qa x).length=2:=by rw[Vn];rfl
theorem qdG(x:S8):∀q∈qa x,q.one=true:=by
 intro q hq
 rw[Vn]at hq
 simp only[vaw,vaH,or_false]at hq
 rcases hq with rfl|rfl<;>rfl
theorem qf7:Pg.cellsOf 248=2:=by kernel_rfl
structure nk where
 Name:af
 Vars:(List cM)
 Hyp:aa
 Goal:aa
def df(x:nk):List PVal:=[.str x.Name,sl bH x.Vars]++(ac x.Hyp++(ac x.Goal))
theorem lE(x:nk):df x=[.str x.Name,sl bH x.Vars,.int .i64 x.Hyp.Op,.str x.Hyp.Name,.int .i64 x.Hyp.N,sl ac x.Hyp.Kids,.int .i64 x.Goal.Op,.str x.Goal.Name,.int .i64 x.Goal.N,sl ac x.Goal.Kids]:=by
 unfold df
 simp only[aK,vaG,vaC]
theorem Tp(x:nk):iC 0 (df x):=by rw[lE];exact(aI trivial (aI (aj lZ x.Vars) (aI trivial (aI trivial (aI trivial (aI (aj ah x.Hyp.Kids) (aI trivial (aI trivial (aI trivial (aI (aj ah x.Goal.Kids) trivial))))))))))
theorem Zg(x:nk):(df x).length=10:=by rw[lE];rfl
theorem Zm(x:nk):∀q∈df x,q.one=true:=by
 intro q hq
 rw[lE]at hq
 simp only[vaw,vaH,or_false]at hq
 rcases hq with rfl|rfl|rfl|rfl|rfl|rfl|rfl|rfl|rfl|rfl<;>rfl
theorem qf2:Pg.cellsOf 124=10:=by kernel_rfl
theorem Oa(x:nk):aF Pg 124 (.eptr (df x)) 1=some (.eptr ((df x).drop 1)):=by rw[lE];kernel_rfl
theorem Ob(x:nk):aF Pg 124 (.eptr (df x)) 2=some (.eptr ((df x).drop 2)):=by rw[lE];kernel_rfl
theorem Oc(x:nk):aF Pg 124 (.eptr (df x)) 3=some (.eptr ((df x).drop 6)):=by rw[lE];kernel_rfl
theorem QI(x:nk):bo Pg 60 ((df x).drop 1)=some (sl bH x.Vars):=by rw[lE];kernel_rfl
theorem QJ(x:nk):bo Pg 36 ((df x).drop 2)=some (.agg (ac x.Hyp)):=by
 rw[lE,aK];kernel_rfl
theorem QK(x:nk):bo Pg 36 ((df x).drop 6)=some (.agg (ac x.Goal)):=by
 rw[lE,aK];kernel_rfl
structure qcg where
 Vars:(List af)
 Needs:(List FV)
 Abs:(List S8)
 Bounds:(List nk)
 Type_:ae
 Metric:(List aa)
def Ct(x:qcg):List PVal:=[sl cS x.Vars,sl iA x.Needs,sl qa x.Abs,sl df x.Bounds]++(ag x.Type_++([sl ac x.Metric]))
theorem J9(x:qcg):Ct x=[sl cS x.Vars,sl iA x.Needs,sl qa x.Abs,sl df x.Bounds,.int .i64 x.Type_.Op,.str x.Type_.Name,sl ag x.Type_.Args,sl cS x.Type_.Names,.int .i64 x.Type_.Pred.Op,.str x.Type_.Pred.Name,.int .i64 x.Type_.Pred.N,sl ac x.Type_.Pred.Kids,sl ac x.Type_.Preds,sl ac x.Metric]:=by
 unfold Ct
 simp only[bu,vaG,vaC]
theorem qdP(x:qcg):bK (.agg (Ct x))=some [sl cS x.Vars,sl iA x.Needs,sl qa x.Abs,sl df x.Bounds,.int .i64 x.Type_.Op,.str x.Type_.Name,sl ag x.Type_.Args,sl cS x.Type_.Names,.int .i64 x.Type_.Pred.Op,.str x.Type_.Pred.Name,.int .i64 x.Type_.Pred.N,sl ac x.Type_.Pred.Kids,sl ac x.Type_.Preds,sl ac x.Metric]:=by rw[J9];rfl
structure sD where
 Name:af
 Params:(List af)
 Body:cb
 Mode:Int
 Typed:Bool
 Sig:qcg
def dJ(x:sD):List PVal:=[.str x.Name,sl cS x.Params]++(ba x.Body++([.int .i64 x.Mode,.bool x.Typed]++(Ct x.Sig)))
theorem pK(x:sD):dJ x=[.str x.Name,sl cS x.Params,.int .i64 x.Body.Op,.str x.Body.Name,.int .i64 x.Body.N,sl ba x.Body.Kids,sl d8 x.Body.Params,sl ft x.Body.Alts,sl ag x.Body.Types,.int .i64 x.Mode,.bool x.Typed,sl cS x.Sig.Vars,sl iA x.Sig.Needs,sl qa x.Sig.Abs,sl df x.Sig.Bounds,.int .i64 x.Sig.Type_.Op,.str x.Sig.Type_.Name,sl ag x.Sig.Type_.Args,sl cS x.Sig.Type_.Names,.int .i64 x.Sig.Type_.Pred.Op,.str x.Sig.Type_.Pred.Name,.int .i64 x.Sig.Type_.Pred.N,sl ac x.Sig.Type_.Pred.Kids,sl ac x.Sig.Type_.Preds,sl ac x.Sig.Metric]:=by
 unfold dJ
 simp only[ej,J9,vaG,vaC]
theorem Gl(x:sD):iC 0 (dJ x):=by rw[pK];exact(aI trivial (aI (aj dN x.Params) (aI trivial (aI trivial (aI trivial (aI (aj AS x.Body.Kids) (aI (aj LY x.Body.Params) (aI (aj Vh x.Body.Alts) (aI (aj ak x.Body.Types) (aI trivial (aI trivial (aI (aj dN x.Sig.Vars) (aI (aj Qa x.Sig.Needs) (aI (aj ZZ x.Sig.Abs) (aI (aj Tp x.Sig.Bounds) (aI trivial (aI trivial (aI (aj ak x.Sig.Type_.Args) (aI (aj dN x.Sig.Type_.Names) (aI trivial (aI trivial (aI trivial (aI (aj ah x.Sig.Type_.Pred.Kids) (aI (aj ah x.Sig.Type_.Preds) (aI (aj ah x.Sig.Metric) trivial)))))))))))))))))))))))))
theorem qdu(x:sD):(dJ x).length=25:=by rw[pK];rfl
theorem qdJ(x:sD):∀q∈dJ x,q.one=true:=by
 intro q hq
 rw[pK]at hq
 simp only[vaw,vaH,or_false]at hq
 rcases hq with rfl|rfl|rfl|rfl|rfl|rfl|rfl|rfl|rfl|rfl|rfl|rfl|rfl|rfl|rfl|rfl|rfl|rfl|rfl|rfl|rfl|rfl|rfl|rfl|rfl<;>rfl
theorem qf1:Pg.cellsOf 122=25:=by kernel_rfl
theorem SF(x:sD):aF Pg 122 (.eptr (dJ x)) 0=some (.eptr ((dJ x).drop 0)):=by rw[pK];kernel_rfl
theorem SG(x:sD):aF Pg 122 (.eptr (dJ x)) 1=some (.eptr ((dJ x).drop 1)):=by rw[pK];kernel_rfl
theorem SH(x:sD):aF Pg 122 (.eptr (dJ x)) 2=some (.eptr ((dJ x).drop 2)):=by rw[pK];kernel_rfl
theorem SI(x:sD):aF Pg 122 (.eptr (dJ x)) 5=some (.eptr ((dJ x).drop 11)):=by rw[pK];kernel_rfl
theorem XA(x:sD):bo Pg 9 ((dJ x).drop 0)=some (.str x.Name):=by rw[pK];kernel_rfl
theorem VL(x:sD):bo Pg 32 ((dJ x).drop 1)=some (sl cS x.Params):=by rw[pK];kernel_rfl
theorem QM(x:sD):bo Pg 120 ((dJ x).drop 11)=some (.agg (Ct x.Sig)):=by
 rw[pK,J9];kernel_rfl
theorem VM(x:sD):bo Pg 97 ((dJ x).drop 2)=some (.agg (ba x.Body)):=by
 rw[pK,ej];kernel_rfl
structure eB where
 Class:af
 Type_:ae
 Needs:(List FV)
 Defs:(List sD)
def cm(x:eB):List PVal:=[.str x.Class]++(ag x.Type_++([sl iA x.Needs,sl dJ x.Defs]))
theorem fS(x:eB):cm x=[.str x.Class,.int .i64 x.Type_.Op,.str x.Type_.Name,sl ag x.Type_.Args,sl cS x.Type_.Names,.int .i64 x.Type_.Pred.Op,.str x.Type_.Pred.Name,.int .i64 x.Type_.Pred.N,sl ac x.Type_.Pred.Kids,sl ac x.Type_.Preds,sl iA x.Needs,sl dJ x.Defs]:=by
 unfold cm
 simp only[bu,vaG,vaC]
theorem Cu(x:eB):iC 0 (cm x):=by rw[fS];exact(aI trivial (aI trivial (aI trivial (aI (aj ak x.Type_.Args) (aI (aj dN x.Type_.Names) (aI trivial (aI trivial (aI trivial (aI (aj ah x.Type_.Pred.Kids) (aI (aj ah x.Type_.Preds) (aI (aj Qa x.Needs) (aI (aj Gl x.Defs) trivial))))))))))))
theorem SP(x:eB):(cm x).length=12:=by rw[fS];rfl
theorem SY(x:eB):∀q∈cm x,q.one=true:=by
 intro q hq
 rw[fS]at hq
 simp only[vaw,vaH,or_false]at hq
 rcases hq with rfl|rfl|rfl|rfl|rfl|rfl|rfl|rfl|rfl|rfl|rfl|rfl<;>rfl
theorem qiP:Pg.cellsOf 82=12:=by kernel_rfl
theorem Ka(x:eB):aF Pg 82 (.eptr (cm x)) 1=some (.eptr ((cm x).drop 1)):=by rw[fS];kernel_rfl
theorem Kb(x:eB):aF Pg 82 (.eptr (cm x)) 2=some (.eptr ((cm x).drop 10)):=by rw[fS];kernel_rfl
theorem Kc(x:eB):aF Pg 82 (.eptr (cm x)) 3=some (.eptr ((cm x).drop 11)):=by rw[fS];kernel_rfl
theorem Kp(x:eB):bo Pg 38 ((cm x).drop 1)=some (.agg (ag x.Type_)):=by
 rw[fS,bu];kernel_rfl
theorem IG(x:eB):bo Pg 80 ((cm x).drop 10)=some (sl iA x.Needs):=by rw[fS];kernel_rfl
theorem IH(x:eB):bo Pg 27 ((cm x).drop 11)=some (sl dJ x.Defs):=by rw[fS];kernel_rfl
structure Do where
 Con:af
 Names:(List af)
 Body:aa
def fR(x:Do):List PVal:=[.str x.Con,sl cS x.Names]++(ac x.Body)
theorem uz(x:Do):fR x=[.str x.Con,sl cS x.Names,.int .i64 x.Body.Op,.str x.Body.Name,.int .i64 x.Body.N,sl ac x.Body.Kids]:=by
 unfold fR
 simp only[aK,vaG,vaC]
theorem Xb(x:Do):iC 0 (fR x):=by rw[uz];exact(aI trivial (aI (aj dN x.Names) (aI trivial (aI trivial (aI trivial (aI (aj ah x.Body.Kids) trivial))))))
theorem qbr(x:Do):(fR x).length=6:=by rw[uz];rfl
theorem qbD(x:Do):∀q∈fR x,q.one=true:=by
 intro q hq
 rw[uz]at hq
 simp only[vaw,vaH,or_false]at hq
 rcases hq with rfl|rfl|rfl|rfl|rfl|rfl<;>rfl
theorem qiR:Pg.cellsOf 88=6:=by kernel_rfl
theorem SB(x:Do):aF Pg 88 (.eptr (fR x)) 1=some (.eptr ((fR x).drop 1)):=by rw[uz];kernel_rfl
theorem SC(x:Do):aF Pg 88 (.eptr (fR x)) 2=some (.eptr ((fR x).drop 2)):=by rw[uz];kernel_rfl
theorem SQ(x:Do):bo Pg 32 ((fR x).drop 1)=some (sl cS x.Names):=by rw[uz];kernel_rfl
theorem SS(x:Do):bo Pg 36 ((fR x).drop 2)=some (.agg (ac x.Body)):=by
 rw[uz,aK];kernel_rfl
structure gT where
 Name:af
 Data:af
 Result:af
 Cases:(List Do)
 Inv:aa
def dg(x:gT):List PVal:=[.str x.Name,.str x.Data,.str x.Result,sl fR x.Cases]++(ac x.Inv)
theorem kc(x:gT):dg x=[.str x.Name,.str x.Data,.str x.Result,sl fR x.Cases,.int .i64 x.Inv.Op,.str x.Inv.Name,.int .i64 x.Inv.N,sl ac x.Inv.Kids]:=by
 unfold dg
 simp only[aK,vaG,vaC]
theorem E9(x:gT):iC 0 (dg x):=by rw[kc];exact(aI trivial (aI trivial (aI trivial (aI (aj Xb x.Cases) (aI trivial (aI trivial (aI trivial (aI (aj ah x.Inv.Kids) trivial))))))))
theorem VI(x:gT):(dg x).length=8:=by rw[kc];rfl
theorem VU(x:gT):∀q∈dg x,q.one=true:=by
 intro q hq
 rw[kc]at hq
 simp only[vaw,vaH,or_false]at hq
 rcases hq with rfl|rfl|rfl|rfl|rfl|rfl|rfl|rfl<;>rfl
theorem qiQ:Pg.cellsOf 86=8:=by kernel_rfl
theorem tf(x:gT):aF Pg 86 (.eptr (dg x)) 3=some (.eptr ((dg x).drop 3)):=by rw[kc];kernel_rfl
theorem L0(x:gT):aF Pg 86 (.eptr (dg x)) 4=some (.eptr ((dg x).drop 4)):=by rw[kc];kernel_rfl
theorem th(x:gT):bo Pg 84 ((dg x).drop 3)=some (sl fR x.Cases):=by rw[kc];kernel_rfl
theorem Ma(x:gT):bo Pg 36 ((dg x).drop 4)=some (.agg (ac x.Inv)):=by
 rw[kc,aK];kernel_rfl
structure vV where
 Name:af
 Vars:(List cM)
 Body:aa
def fy(x:vV):List PVal:=[.str x.Name,sl bH x.Vars]++(ac x.Body)
theorem uB(x:vV):fy x=[.str x.Name,sl bH x.Vars,.int .i64 x.Body.Op,.str x.Body.Name,.int .i64 x.Body.N,sl ac x.Body.Kids]:=by
 unfold fy
 simp only[aK,vaG,vaC]
theorem Qb(x:vV):iC 0 (fy x):=by rw[uB];exact(aI trivial (aI (aj lZ x.Vars) (aI trivial (aI trivial (aI trivial (aI (aj ah x.Body.Kids) trivial))))))
theorem qbt(x:vV):(fy x).length=6:=by rw[uB];rfl
theorem qbJ(x:vV):∀q∈fy x,q.one=true:=by
 intro q hq
 rw[uB]at hq
 simp only[vaw,vaH,or_false]at hq
 rcases hq with rfl|rfl|rfl|rfl|rfl|rfl<;>rfl
theorem qiS:Pg.cellsOf 90=6:=by kernel_rfl
theorem SJ(x:vV):aF Pg 90 (.eptr (fy x)) 1=some (.eptr ((fy x).drop 1)):=by rw[uB];kernel_rfl
theorem SK(x:vV):aF Pg 90 (.eptr (fy x)) 2=some (.eptr ((fy x).drop 2)):=by rw[uB];kernel_rfl
theorem SV(x:vV):bo Pg 60 ((fy x).drop 1)=some (sl bH x.Vars):=by rw[uB];kernel_rfl
theorem SW(x:vV):bo Pg 36 ((fy x).drop 2)=some (.agg (ac x.Body)):=by
 rw[uB,aK];kernel_rfl
structure aG where
 Datas:(List ed)
 Classes:(List su)
 Instances:(List eB)
 Measures:(List gT)
 Quals:(List vV)
 Defs:(List sD)
def aB(x:aG):List PVal:=[sl cN x.Datas,sl fE x.Classes,sl cm x.Instances,sl dg x.Measures,sl fy x.Quals,sl dJ x.Defs]
theorem xY(x:aG):aB x=[sl cN x.Datas,sl fE x.Classes,sl cm x.Instances,sl dg x.Measures,sl fy x.Quals,sl dJ x.Defs]:=rfl
theorem cu(x:aG):iC 0 (aB x):=(aI (aj ur x.Datas) (aI (aj LX x.Classes) (aI (aj Cu x.Instances) (aI (aj E9 x.Measures) (aI (aj Qb x.Quals) (aI (aj Gl x.Defs) trivial))))))
theorem Xx(x:aG):(aB x).length=6:=by rw[xY];rfl
theorem gE(x:aG):bK (.agg (aB x))=some (aB x):=rfl
theorem qky:Pg.cellsOf 29=6:=by kernel_rfl
theorem fa(x:aG):bo Pg 29 (aB x)=some (.agg (aB x)):=by
 have:=lN (P:=Pg) (t:=29) (l:=aB x) (r:=[]) (by kernel_rfl) (qky.trans (Xx x).symm)
 rwa[va1]at this
theorem Cs:dy Pg 29 []=some (.agg (aB (⟨([]:List ed),([]:List su),([]:List eB),([]:List gT),([]:List vV),([]:List sD)⟩:aG))):=by
 kernel_rfl
theorem Cr:sB Pg 29 [] [(0,71),(1,77),(2,82),(3,86),(4,90),(5,122)]:=by
 exact⟨[.val gk,.val gk,.val gk,.val gk,.val gk,.val gk],by kernel_rfl,(aI rfl (aI rfl (aI rfl (aI rfl (aI rfl (aI rfl trivial))))))⟩
theorem dj(x:aG):aF Pg 29 (.eptr (aB x)) 0=some (.eptr ((aB x).drop 0)):=by kernel_rfl
theorem pL(x:aG):aF Pg 29 (.eptr (aB x)) 1=some (.eptr ((aB x).drop 1)):=by kernel_rfl
theorem kJ(x:aG):aF Pg 29 (.eptr (aB x)) 2=some (.eptr ((aB x).drop 2)):=by kernel_rfl
theorem iN(x:aG):aF Pg 29 (.eptr (aB x)) 3=some (.eptr ((aB x).drop 3)):=by kernel_rfl
theorem pM(x:aG):aF Pg 29 (.eptr (aB x)) 4=some (.eptr ((aB x).drop 4)):=by kernel_rfl
theorem De(x:aG):aF Pg 29 (.eptr (aB x)) 5=some (.eptr ((aB x).drop 5)):=by kernel_rfl
theorem dl(x:aG):bo Pg 22 ((aB x).drop 0)=some (sl cN x.Datas):=by kernel_rfl
theorem pP(x:aG):bo Pg 23 ((aB x).drop 1)=some (sl fE x.Classes):=by kernel_rfl
theorem kP(x:aG):bo Pg 24 ((aB x).drop 2)=some (sl cm x.Instances):=by kernel_rfl
theorem iO(x:aG):bo Pg 25 ((aB x).drop 3)=some (sl dg x.Measures):=by kernel_rfl
theorem pQ(x:aG):bo Pg 26 ((aB x).drop 4)=some (sl fy x.Quals):=by kernel_rfl
theorem Dj(x:aG):bo Pg 27 ((aB x).drop 5)=some (sl dJ x.Defs):=by kernel_rfl
structure aJ where
 A:ae
 B:ae
 Tag:Int
def az(x:aJ):List PVal:=ag x.A++(ag x.B++([.int .i64 x.Tag]))
theorem bN(x:aJ):az x=[.int .i64 x.A.Op,.str x.A.Name,sl ag x.A.Args,sl cS x.A.Names,.int .i64 x.A.Pred.Op,.str x.A.Pred.Name,.int .i64 x.A.Pred.N,sl ac x.A.Pred.Kids,sl ac x.A.Preds,.int .i64 x.B.Op,.str x.B.Name,sl ag x.B.Args,sl cS x.B.Names,.int .i64 x.B.Pred.Op,.str x.B.Pred.Name,.int .i64 x.B.Pred.N,sl ac x.B.Pred.Kids,sl ac x.B.Preds,.int .i64 x.Tag]:=by
 unfold az
 simp only[bu,vaG,vaC]
theorem dU(x:aJ):iC 0 (az x):=by rw[bN];exact(aI trivial (aI trivial (aI (aj ak x.A.Args) (aI (aj dN x.A.Names) (aI trivial (aI trivial (aI trivial (aI (aj ah x.A.Pred.Kids) (aI (aj ah x.A.Preds) (aI trivial (aI trivial (aI (aj ak x.B.Args) (aI (aj dN x.B.Names) (aI trivial (aI trivial (aI trivial (aI (aj ah x.B.Pred.Kids) (aI (aj ah x.B.Preds) (aI trivial trivial)))))))))))))))))))
theorem yw(x:aJ):(az x).length=19:=by rw[bN];rfl
theorem py(x:aJ):bK (.agg (az x))=some (az x):=rfl
theorem qkz:Pg.cellsOf 40=19:=by kernel_rfl
theorem Ai(x:aJ):bo Pg 40 (az x)=some (.agg (az x)):=by
 have:=lN (P:=Pg) (t:=40) (l:=az x) (r:=[]) (by kernel_rfl) (qkz.trans (yw x).symm)
 rwa[va1]at this
theorem bZ(x:aJ):aF Pg 40 (.eptr (az x)) 0=some (.eptr ((az x).drop 0)):=by rw[bN];kernel_rfl
theorem dK(x:aJ):aF Pg 40 (.eptr (az x)) 1=some (.eptr ((az x).drop 9)):=by rw[bN];kernel_rfl
theorem uC(x:aJ):aF Pg 40 (.eptr (az x)) 2=some (.eptr ((az x).drop 18)):=by rw[bN];kernel_rfl
theorem sw(x:aJ):aF Pg 38 (.eptr ((az x).drop 9)) 4=some (.eptr ((az x).drop 13)):=by rw[bN];kernel_rfl
theorem ca(x:aJ):bo Pg 38 ((az x).drop 0)=some (.agg (ag x.A)):=by
 rw[bN,bu];kernel_rfl
theorem tg(x:aJ):bo Pg 36 ((az x).drop 13)=some (.agg (ac x.B.Pred)):=by
 rw[bN,aK];kernel_rfl
theorem uG(x:aJ):bo Pg 3 ((az x).drop 18)=some (.int .i64 x.Tag):=by rw[bN];kernel_rfl
theorem eu(x:aJ):bo Pg 38 ((az x).drop 9)=some (.agg (ag x.B)):=by
 rw[bN,bu];kernel_rfl
inductive ai where
 |mk (Op:Int) (Name:af) (Sort_:af) (Pred:aa) (Tag:Int) (Kids:(List ai))
def ai.Op:ai->Int
 |⟨x,_,_,_,_,_⟩=>x
def ai.Name:ai->af
 |⟨_,x,_,_,_,_⟩=>x
def ai.Sort_:ai->af
 |⟨_,_,x,_,_,_⟩=>x
def ai.Pred:ai->aa
 |⟨_,_,_,x,_,_⟩=>x
def ai.Tag:ai->Int
 |⟨_,_,_,_,x,_⟩=>x
def ai.Kids:ai->(List ai)
 |⟨_,_,_,_,_,x⟩=>x
mutual
def au:ai->List PVal
 |⟨x0,x1,x2,x3,x4,x5⟩=>[.int .i64 x0,.str x1,.str x2]++(ac x3++([.int .i64 x4,.slice (za x5)]))
def za:List ai->List (List PVal)
 |[]=>[]
 |x::r=>au x::za r
end
theorem QD:∀(l:List ai),za l=l.map au
 |[]=>by simp[za]
 |x::r=>by simp[za,QD r]
mutual
theorem aX:∀(x:ai),iC 0 (au x)
 |⟨x0,x1,x2,x3,x4,x5⟩=>by rw[au];exact tc.2 (aI ((aI trivial (aI trivial (aI trivial trivial)))) (tc.2 (aI (ah x3) ((aI trivial (aI (Tq x5) trivial))))))
theorem Tq:∀(l:List ai),wo 0 (za l)
 |[]=>by simp[za,wo]
 |x::r=>by rw[za];exact⟨aX x,Tq r⟩
end
theorem bM:∀(x:ai),au x=[.int .i64 x.Op,.str x.Name,.str x.Sort_,.int .i64 x.Pred.Op,.str x.Pred.Name,.int .i64 x.Pred.N,sl ac x.Pred.Kids,.int .i64 x.Tag,sl au x.Kids]
 |⟨x0,x1,x2,x3,x4,x5⟩=>by
  simp only[au,QD,aK,vaG,vaC]
  rfl
abbrev jF(x:ai):PVal:=.agg (au x)
theorem L6(x:ai):(au x).length=9:=by rw[bM];rfl
theorem rN(x:ai):bK (.agg (au x))=some (au x):=rfl
theorem fM(x:ai):bK (jF x)=some (au x):=rfl
theorem cj(x:ai):bK (.agg (au x))=some [.int .i64 x.Op,.str x.Name,.str x.Sort_,.int .i64 x.Pred.Op,.str x.Pred.Name,.int .i64 x.Pred.N,sl ac x.Pred.Kids,.int .i64 x.Tag,sl au x.Kids]:=by rw[bM];rfl
theorem qbE(x:ai):∀q∈au x,q.one=true:=by
 intro q hq
 rw[bM]at hq
 simp only[vaw,vaH,or_false]at hq
 rcases hq with rfl|rfl|rfl|rfl|rfl|rfl|rfl|rfl|rfl<;>rfl
theorem qe9:Pg.cellsOf 50=9:=by kernel_rfl
theorem ja(x:ai):bo Pg 50 (au x)=some (.agg (au x)):=by
 have:=lN (P:=Pg) (t:=50) (l:=au x) (r:=[]) (by kernel_rfl) (qe9.trans (L6 x).symm)
 rwa[va1]at this
theorem dA(x:ai)(r:List PVal):bo Pg 50 ([.int .i64 x.Op,.str x.Name,.str x.Sort_,.int .i64 x.Pred.Op,.str x.Pred.Name,.int .i64 x.Pred.N,sl ac x.Pred.Kids,.int .i64 x.Tag,sl au x.Kids]++r)=some (.agg (au x)):=by
 rw[<-bM];exact lN (by kernel_rfl) (qe9.trans (L6 x).symm)
theorem ck(x:ai):PVal.agg [.int .i64 x.Op,.str x.Name,.str x.Sort_,.int .i64 x.Pred.Op,.str x.Pred.Name,.int .i64 x.Pred.N,sl ac x.Pred.Kids,.int .i64 x.Tag,sl au x.Kids]=.agg (au x):=by rw[bM]
theorem pZ:dy Pg 50 []=some (.agg (au (⟨0,([]:af),([]:af),(⟨0,([]:af),0,([]:List aa)⟩:aa),0,([]:List ai)⟩:ai))):=by
 simp only[bM]
 kernel_rfl
theorem pY:sB Pg 50 [] [(6,36),(8,50)]:=by
 exact⟨[.int .i64 0,.str ([]:af),.str ([]:af),.int .i64 0,.str ([]:af),.int .i64 0,.val gk,.int .i64 0,.val gk],by kernel_rfl,(aI rfl (aI rfl trivial))⟩
theorem km(x0:Int)(x1:af)(x2:af)(x3:aa)(x5:(List ai)):dy Pg 50 [(0,.int .i64 x0),(1,.str x1),(2,.str x2),(3,.agg (ac x3)),(5,sl au x5)]=some (.agg (au (⟨x0,x1,x2,x3,0,x5⟩:ai))):=by
 simp only[bM,aK]
 kernel_rfl
theorem rx(x0:Int)(x3:aa)(x4:Int):dy Pg 50 [(0,.int .i64 x0),(3,.agg (ac x3)),(4,.int .i64 x4)]=some (.agg (au (⟨x0,([]:af),([]:af),x3,x4,([]:List ai)⟩:ai))):=by
 simp only[bM,aK]
 kernel_rfl
theorem ru(x0:Int)(x3:aa)(x4:Int):sB Pg 50 [(0,.int .i64 x0),(3,.agg (ac x3)),(4,.int .i64 x4)] [(8,50)]:=by
 simp only[aK]
 exact⟨[.int .i64 x0,.str ([]:af),.str ([]:af),.int .i64 x3.Op,.str x3.Name,.int .i64 x3.N,sl ac x3.Kids,.int .i64 x4,.val gk],by kernel_rfl,(aI rfl trivial)⟩
theorem xN(x0:Int):dy Pg 50 [(0,.int .i64 x0)]=some (.agg (au (⟨x0,([]:af),([]:af),(⟨0,([]:af),0,([]:List aa)⟩:aa),0,([]:List ai)⟩:ai))):=by
 simp only[bM]
 kernel_rfl
theorem xM(x0:Int):sB Pg 50 [(0,.int .i64 x0)] [(6,36),(8,50)]:=by
 exact⟨[.int .i64 x0,.str ([]:af),.str ([]:af),.int .i64 0,.str ([]:af),.int .i64 0,.val gk,.int .i64 0,.val gk],by kernel_rfl,(aI rfl (aI rfl trivial))⟩
theorem pj(x:ai):aF Pg 50 (.eptr (au x)) 0=some (.eptr ((au x).drop 0)):=by rw[bM];kernel_rfl
theorem tS(x:ai):aF Pg 50 (.eptr (au x)) 1=some (.eptr ((au x).drop 1)):=by rw[bM];kernel_rfl
theorem Aa(x:ai):aF Pg 50 (.eptr (au x)) 2=some (.eptr ((au x).drop 2)):=by rw[bM];kernel_rfl
theorem pk(x:ai):aF Pg 50 (.eptr (au x)) 3=some (.eptr ((au x).drop 3)):=by rw[bM];kernel_rfl
theorem Ab(x:ai):aF Pg 50 (.eptr (au x)) 4=some (.eptr ((au x).drop 7)):=by rw[bM];kernel_rfl
theorem jm(x:ai):aF Pg 50 (.eptr (au x)) 5=some (.eptr ((au x).drop 8)):=by rw[bM];kernel_rfl
theorem Ql(x:ai):Q2 Pg 50 (.agg (au x)) 5=some (sl au x.Kids):=by rw[bM];kernel_rfl
theorem pq(x:ai):bo Pg 46 ((au x).drop 0)=some (.int .i64 x.Op):=by rw[bM];kernel_rfl
theorem wt(x:ai):bo Pg 9 ((au x).drop 1)=some (.str x.Name):=by rw[bM];kernel_rfl
theorem Ag(x:ai):bo Pg 47 ((au x).drop 2)=some (.str x.Sort_):=by rw[bM];kernel_rfl
theorem pr(x:ai):bo Pg 36 ((au x).drop 3)=some (.agg (ac x.Pred)):=by
 rw[bM,aK];kernel_rfl
theorem CJ(x:ai):bo Pg 3 ((au x).drop 7)=some (.int .i64 x.Tag):=by rw[bM];kernel_rfl
theorem jo(x:ai):bo Pg 48 ((au x).drop 8)=some (sl au x.Kids):=by rw[bM];kernel_rfl
structure aZ where
 m:aG
 tag:Int
def aW(x:aZ):List PVal:=aB x.m++([.int .i64 x.tag])
theorem e7(x:aZ):aW x=[sl cN x.m.Datas,sl fE x.m.Classes,sl cm x.m.Instances,sl dg x.m.Measures,sl fy x.m.Quals,sl dJ x.m.Defs,.int .i64 x.tag]:=by
 unfold aW
 simp only[xY,vaG,vaC]
theorem dt(x:aZ):iC 0 (aW x):=by rw[e7];exact(aI (aj ur x.m.Datas) (aI (aj LX x.m.Classes) (aI (aj Cu x.m.Instances) (aI (aj E9 x.m.Measures) (aI (aj Qb x.m.Quals) (aI (aj Gl x.m.Defs) (aI trivial trivial)))))))
theorem IF(x:aZ):(aW x).length=7:=by rw[e7];rfl
theorem jb(x:aZ):bK (.agg (aW x))=some (aW x):=rfl
theorem qiG:Pg.cellsOf 105=7:=by kernel_rfl
theorem e9(x:aZ):bo Pg 105 (aW x)=some (.agg (aW x)):=by
 have:=lN (P:=Pg) (t:=105) (l:=aW x) (r:=[]) (by kernel_rfl) (qiG.trans (IF x).symm)
 rwa[va1]at this
theorem Dx(x0:aG)(x1:Int):dy Pg 105 [(0,.agg (aB x0)),(1,.int .i64 x1)]=some (.agg (aW (⟨x0,x1⟩:aZ))):=by
 simp only[e7,xY]
 kernel_rfl
theorem AV(x:aZ):aF Pg 105 (.eptr (aW x)) 0=some (.eptr ((aW x).drop 0)):=by rw[e7];kernel_rfl
theorem AW(x:aZ):aF Pg 105 (.eptr (aW x)) 1=some (.eptr ((aW x).drop 6)):=by rw[e7];kernel_rfl
theorem CI(x:aZ):bo Pg 29 ((aW x).drop 0)=some (.agg (aB x.m)):=by
 rw[e7,xY];kernel_rfl
theorem DF(x:aZ):bo Pg 3 ((aW x).drop 6)=some (.int .i64 x.tag):=by rw[e7];kernel_rfl
structure am where
 names:(List af)
 by_:(List aa)
def aA(x:am):List PVal:=[sl cS x.names,sl ac x.by_]
theorem de(x:am):aA x=[sl cS x.names,sl ac x.by_]:=rfl
theorem bG(x:am):iC 0 (aA x):=(aI (aj dN x.names) (aI (aj ah x.by_) trivial))
theorem pp(x:am):(aA x).length=2:=by rw[de];rfl
theorem d4(x:am):bK (.agg (aA x))=some (aA x):=rfl
theorem fT(x:am):bK (.agg (aA x))=some [sl cS x.names,sl ac x.by_]:=by rw[de];rfl
theorem qf5:Pg.cellsOf 173=2:=by kernel_rfl
theorem cK(x:am):bo Pg 173 (aA x)=some (.agg (aA x)):=by
 have:=lN (P:=Pg) (t:=173) (l:=aA x) (r:=[]) (by kernel_rfl) (qf5.trans (pp x).symm)
 rwa[va1]at this
theorem cU(x:am)(r:List PVal):bo Pg 173 ([sl cS x.names,sl ac x.by_]++r)=some (.agg (aA x)):=by
 rw[<-de];exact lN (by kernel_rfl) (qf5.trans (pp x).symm)
theorem pC(x:am):PVal.agg [sl cS x.names,sl ac x.by_]=.agg (aA x):=by rw[de]
theorem wn(x0:(List af))(x1:(List aa)):dy Pg 173 [(0,sl cS x0),(1,sl ac x1)]=some (.agg (aA (⟨x0,x1⟩:am))):=by
 kernel_rfl
theorem ke(x:am):aF Pg 173 (.eptr (aA x)) 0=some (.eptr ((aA x).drop 0)):=by kernel_rfl
theorem gf(x:am):aF Pg 173 (.eptr (aA x)) 1=some (.eptr ((aA x).drop 1)):=by kernel_rfl
theorem kM(x:am):bo Pg 32 ((aA x).drop 0)=some (sl cS x.names):=by kernel_rfl
theorem gD(x:am):bo Pg 34 ((aA x).drop 1)=some (sl ac x.by_):=by kernel_rfl
structure aO where
 Vars:(List cM)
 Hyps:(List aa)
 Head:aa
 Tag:Int
def aY(x:aO):List PVal:=[sl bH x.Vars,sl ac x.Hyps]++(ac x.Head++([.int .i64 x.Tag]))
theorem fL(x:aO):aY x=[sl bH x.Vars,sl ac x.Hyps,.int .i64 x.Head.Op,.str x.Head.Name,.int .i64 x.Head.N,sl ac x.Head.Kids,.int .i64 x.Tag]:=by
 unfold aY
 simp only[aK,vaG,vaC]
theorem fK(x:aO):iC 0 (aY x):=by rw[fL];exact(aI (aj lZ x.Vars) (aI (aj ah x.Hyps) (aI trivial (aI trivial (aI trivial (aI (aj ah x.Head.Kids) (aI trivial trivial)))))))
abbrev Uk(x:aO):PVal:=.agg (aY x)
theorem MS(x:aO):(aY x).length=7:=by rw[fL];rfl
theorem XQ(x:aO):bK (Uk x)=some (aY x):=rfl
theorem Ft(x:aO):bK (.agg (aY x))=some [sl bH x.Vars,sl ac x.Hyps,.int .i64 x.Head.Op,.str x.Head.Name,.int .i64 x.Head.N,sl ac x.Head.Kids,.int .i64 x.Tag]:=by rw[fL];rfl
theorem XK(x:aO):∀q∈aY x,q.one=true:=by
 intro q hq
 rw[fL]at hq
 simp only[vaw,vaH,or_false]at hq
 rcases hq with rfl|rfl|rfl|rfl|rfl|rfl|rfl<;>rfl
theorem qg5:Pg.cellsOf 62=7:=by kernel_rfl
theorem MT(x:aO)(r:List PVal):bo Pg 62 ([sl bH x.Vars,sl ac x.Hyps,.int .i64 x.Head.Op,.str x.Head.Name,.int .i64 x.Head.N,sl ac x.Head.Kids,.int .i64 x.Tag]++r)=some (.agg (aY x)):=by
 rw[<-fL];exact lN (by kernel_rfl) (qg5.trans (MS x).symm)
theorem Va:dy Pg 62 []=some (.agg (aY (⟨([]:List cM),([]:List aa),(⟨0,([]:af),0,([]:List aa)⟩:aa),0⟩:aO))):=by
 simp only[fL]
 kernel_rfl
theorem U8:sB Pg 62 [] [(0,102),(1,36),(5,36)]:=by
 exact⟨[.val gk,.val gk,.int .i64 0,.str ([]:af),.int .i64 0,.val gk,.int .i64 0],by kernel_rfl,(aI rfl (aI rfl (aI rfl trivial)))⟩
theorem LV(x0:(List cM))(x2:aa)(x3:Int):dy Pg 62 [(0,sl bH x0),(2,.agg (ac x2)),(3,.int .i64 x3)]=some (.agg (aY (⟨x0,([]:List aa),x2,x3⟩:aO))):=by
 simp only[fL,aK]
 kernel_rfl
theorem LU(x0:(List cM))(x2:aa)(x3:Int):sB Pg 62 [(0,sl bH x0),(2,.agg (ac x2)),(3,.int .i64 x3)] [(1,36)]:=by
 simp only[aK]
 exact⟨[sl bH x0,.val gk,.int .i64 x2.Op,.str x2.Name,.int .i64 x2.N,sl ac x2.Kids,.int .i64 x3],by kernel_rfl,(aI rfl trivial)⟩
theorem kI(x:aO):aF Pg 62 (.eptr (aY x)) 0=some (.eptr ((aY x).drop 0)):=by rw[fL];kernel_rfl
theorem Dc(x:aO):aF Pg 62 (.eptr (aY x)) 2=some (.eptr ((aY x).drop 2)):=by rw[fL];kernel_rfl
theorem Od(x:aO):aF Pg 62 (.eptr (aY x)) 3=some (.eptr ((aY x).drop 6)):=by rw[fL];kernel_rfl
theorem kO(x:aO):bo Pg 60 ((aY x).drop 0)=some (sl bH x.Vars):=by rw[fL];kernel_rfl
theorem Di(x:aO):bo Pg 36 ((aY x).drop 2)=some (.agg (ac x.Head)):=by
 rw[fL,aK];kernel_rfl
theorem QL(x:aO):bo Pg 3 ((aY x).drop 6)=some (.int .i64 x.Tag):=by rw[fL];kernel_rfl
structure av where
 Names:(List af)
 By:(List aa)
def aH(x:av):List PVal:=[sl cS x.Names,sl ac x.By]
theorem dc(x:av):aH x=[sl cS x.Names,sl ac x.By]:=rfl
theorem d9(x:av):iC 0 (aH x):=(aI (aj dN x.Names) (aI (aj ah x.By) trivial))
theorem ws(x:av):(aH x).length=2:=by rw[dc];rfl
theorem iq(x:av):bK (.agg (aH x))=some (aH x):=rfl
theorem me(x:av):bK (.agg (aH x))=some [sl cS x.Names,sl ac x.By]:=by rw[dc];rfl
theorem qiH:Pg.cellsOf 168=2:=by kernel_rfl
theorem dY(x:av)(r:List PVal):bo Pg 168 ([sl cS x.Names,sl ac x.By]++r)=some (.agg (aH x)):=by
 rw[<-dc];exact lN (by kernel_rfl) (qiH.trans (ws x).symm)
theorem wz(x:av):PVal.agg [sl cS x.Names,sl ac x.By]=.agg (aH x):=by rw[dc]
theorem kH:dy Pg 168 []=some (.agg (aH (⟨([]:List af),([]:List aa)⟩:av))):=by
 kernel_rfl
theorem kG:sB Pg 168 [] [(0,9),(1,36)]:=by
 exact⟨[.val gk,.val gk],by kernel_rfl,(aI rfl (aI rfl trivial))⟩
theorem rH(x:av):aF Pg 168 (.eptr (aH x)) 0=some (.eptr ((aH x).drop 0)):=by kernel_rfl
theorem dW(x:av):aF Pg 168 (.eptr (aH x)) 1=some (.eptr ((aH x).drop 1)):=by kernel_rfl
theorem sA(x:av):bo Pg 32 ((aH x).drop 0)=some (sl cS x.Names):=by kernel_rfl
theorem d5(x:av):bo Pg 34 ((aH x).drop 1)=some (sl ac x.By):=by kernel_rfl
theorem KX:qp Pg 22 71 cN:=⟨underlying22,fun x=>(L7 x).trans qfa.symm,by kernel_rfl,by rw[qfa];decide,by kernel_rfl,vaD (by kernel_rfl),qbF,ur⟩
theorem qfF:qp Pg 23 77 fE:=⟨underlying23,fun x=>(Zh x).trans qiN.symm,by kernel_rfl,by rw[qiN];decide,by kernel_rfl,vaD (by kernel_rfl),Zn,LX⟩
theorem qek:qp Pg 24 82 cm:=⟨underlying24,fun x=>(SP x).trans qiP.symm,by kernel_rfl,by rw[qiP];decide,by kernel_rfl,vaD (by kernel_rfl),SY,Cu⟩
theorem qcb:qp Pg 25 86 dg:=⟨underlying25,fun x=>(VI x).trans qiQ.symm,by kernel_rfl,by rw[qiQ];decide,by kernel_rfl,vaD (by kernel_rfl),VU,E9⟩
theorem qfG:qp Pg 26 90 fy:=⟨underlying26,fun x=>(qbt x).trans qiS.symm,by kernel_rfl,by rw[qiS];decide,by kernel_rfl,vaD (by kernel_rfl),qbJ,Qb⟩
theorem ZC:qp Pg 27 122 dJ:=⟨underlying27,fun x=>(qdu x).trans qf1.symm,by kernel_rfl,by rw[qf1];decide,by kernel_rfl,vaD (by kernel_rfl),qdJ,Gl⟩
theorem ct:qp Pg 31 38 ag:=⟨underlying31,fun x=>(Gt x).trans qcU.symm,by kernel_rfl,by rw[qcU];decide,by kernel_rfl,vaD (by kernel_rfl),qbK,ak⟩
theorem qlf:Pg.cellsOf 9=1:=by kernel_rfl
theorem bq:qp Pg 32 9 cS:=⟨underlying32,fun _=>qlf.symm,by kernel_rfl,by rw[qlf];decide,by kernel_rfl,vaD (by kernel_rfl),qkF,dN⟩
theorem bL:qp Pg 34 36 ac:=⟨underlying34,fun x=>(L8 x).trans qe8.symm,by kernel_rfl,by rw[qe8];decide,by kernel_rfl,vaD (by kernel_rfl),qbI,ah⟩
theorem lQ:qp Pg 48 50 au:=⟨underlying48,fun x=>(L6 x).trans qe9.symm,by kernel_rfl,by rw[qe9];decide,by kernel_rfl,vaD (by kernel_rfl),qbE,aX⟩
theorem Oq:qp Pg 57 62 aY:=⟨underlying57,fun x=>(MS x).trans qg5.symm,by kernel_rfl,by rw[qg5];decide,by kernel_rfl,vaD (by kernel_rfl),XK,fK⟩
theorem I3:qp Pg 60 102 bH:=⟨underlying60,fun x=>(Xy x).trans qcT.symm,by kernel_rfl,by rw[qcT];decide,by kernel_rfl,vaD (by kernel_rfl),qdK,lZ⟩
theorem qhk:qp Pg 69 73 ef:=⟨underlying69,fun x=>(qdt x).trans qiM.symm,by kernel_rfl,by rw[qiM];decide,by kernel_rfl,vaD (by kernel_rfl),qdI,Gk⟩
theorem qja:qp Pg 75 79 ey:=⟨underlying75,fun x=>(Xw x).trans qiO.symm,by kernel_rfl,by rw[qiO];decide,by kernel_rfl,vaD (by kernel_rfl),XL,P9⟩
theorem qjb:qp Pg 80 247 iA:=⟨underlying80,fun x=>(qbs x).trans qf6.symm,by kernel_rfl,by rw[qf6];decide,by kernel_rfl,vaD (by kernel_rfl),qbH,Qa⟩
theorem qhl:qp Pg 84 88 fR:=⟨underlying84,fun x=>(qbr x).trans qiR.symm,by kernel_rfl,by rw[qiR];decide,by kernel_rfl,vaD (by kernel_rfl),qbD,Xb⟩
theorem qfH:qp Pg 93 97 ba:=⟨underlying93,fun x=>(TI x).trans qg6.symm,by kernel_rfl,by rw[qg6];decide,by kernel_rfl,vaD (by kernel_rfl),qbG,AS⟩
theorem qcc:qp Pg 94 125 d8:=⟨underlying94,fun x=>(Zi x).trans qf3.symm,by kernel_rfl,by rw[qf3];decide,by kernel_rfl,vaD (by kernel_rfl),Zo,LY⟩
theorem ZD:qp Pg 95 127 ft:=⟨underlying95,fun x=>(qds x).trans qf4.symm,by kernel_rfl,by rw[qf4];decide,by kernel_rfl,vaD (by kernel_rfl),qdH,Vh⟩
theorem qi8:qp Pg 117 248 qa:=⟨underlying117,fun x=>(qdr x).trans qf7.symm,by kernel_rfl,by rw[qf7];decide,by kernel_rfl,vaD (by kernel_rfl),qdG,ZZ⟩
theorem qaC:qp Pg 118 124 df:=⟨underlying118,fun x=>(Zg x).trans qf2.symm,by kernel_rfl,by rw[qf2];decide,by kernel_rfl,vaD (by kernel_rfl),Zm,Tp⟩
theorem qjM:Pg.cellsOf 5=1:=by kernel_rfl
theorem qi9:qp Pg 158 5 (cI .u8):=⟨underlying158,fun _=>qjM.symm,by kernel_rfl,by rw[qjM];decide,by kernel_rfl,vaD (by kernel_rfl),(qkE .u8),(ql3 .u8)⟩
theorem Bg:(Pg.underlying 9).any qgn=true:=by kernel_rfl
theorem qlw:Mo Pg 4=some (PVal.bool false):=by kernel_rfl
theorem ib:kf Pg 36=some [.int .i64 0,.str ([]:af),.int .i64 0,sl ac ([]:List aa)]:=by kernel_rfl
theorem tu:kf Pg 38=some [.int .i64 0,.str ([]:af),sl ag ([]:List ae),sl cS ([]:List af),.int .i64 0,.str ([]:af),.int .i64 0,sl ac ([]:List aa),sl ac ([]:List aa)]:=by kernel_rfl
theorem nK:kf Pg 50=some [.int .i64 0,.str ([]:af),.str ([]:af),.int .i64 0,.str ([]:af),.int .i64 0,sl ac ([]:List aa),.int .i64 0,sl au ([]:List ai)]:=by kernel_rfl
theorem Zz:kf Pg 71=some [.str ([]:af),sl cS ([]:List af),sl bH ([]:List cM),sl ef ([]:List eh)]:=by kernel_rfl
theorem qi3:kf Pg 102=some [.str ([]:af),.str ([]:af)]:=by kernel_rfl
theorem qi4:kf Pg 120=some [sl cS ([]:List af),sl iA ([]:List FV),sl qa ([]:List S8),sl df ([]:List nk),.int .i64 0,.str ([]:af),sl ag ([]:List ae),sl cS ([]:List af),.int .i64 0,.str ([]:af),.int .i64 0,sl ac ([]:List aa),sl ac ([]:List aa),sl ac ([]:List aa)]:=by kernel_rfl
theorem qd9:kf Pg 168=some [sl cS ([]:List af),sl ac ([]:List aa)]:=by kernel_rfl
theorem T1:kf Pg 173=some [sl cS ([]:List af),sl ac ([]:List aa)]:=by kernel_rfl
def kL:List Int:=[1,10,100,1000,10000,100000,1000000,10000000,100000000,1000000000,10000000000,100000000000,1000000000000,10000000000000,100000000000000,1000000000000000,10000000000000000,100000000000000000,1000000000000000000,10000000000000000000]
theorem qiJ:Pg.cellsOf 197=20:=by kernel_rfl
theorem qiI:Pg.cellsOf 185=1:=by kernel_rfl
def A0:List Int:=[0,1,28,2,29,14,24,3,30,22,20,15,25,17,4,8,31,27,13,23,21,19,16,7,26,12,18,6,11,5,10,9]
theorem qiK:Pg.cellsOf 205=32:=by kernel_rfl
def A1:List Int:=[0,1,56,2,57,49,28,3,61,58,42,50,38,29,17,4,62,47,59,36,45,43,51,22,53,39,33,30,24,18,12,5,63,55,48,27,60,41,37,16,46,35,44,21,52,32,23,11,54,26,40,15,34,20,31,10,25,14,19,9,13,8,7,6]
theorem qiL:Pg.cellsOf 206=64:=by kernel_rfl
def GE:List (Nat×List PVal):=[(0,kL.map (PVal.int .u64)),(1,A0.map (PVal.int .u8)),(2,A1.map (PVal.int .u8))]
theorem cf(A:List Nat){m:Nat}{c:Code}{sc:List It}{F:Prop}{e0:Exit}{st0 st:aC}(h:PS sc F)(he:F=Bo Pg GE A m c sc st (FN e0 st0)):aV Pg GE m c (EX e0 st0) st:=oe mixed h he
theorem oo(A:List Nat){m:Nat}{c:Code}{sc:List It}{F:Prop}{σ X:Type}{S:σ->aC}{ex:X->Exit}{so:X->aC}{s:σ}{st:aC}(h:PS sc F)(he:F=Bo Pg GE A m c sc st (FN .normal (S s))):aV Pg GE m c (LQ S ex so (.inl s)) st:=qiY mixed h he
theorem gg(A:List Nat){m:Nat}{c:Code}{sc:List It}{F:Prop}{σ X:Type}{S:σ->aC}{ex:X->Exit}{so:X->aC}{x:X}{st:aC}(hn:ex x≠.normal)(h:PS sc F)(he:F=Bo Pg GE A m c sc st (FN (ex x) (so x))):aV Pg GE m c (LQ S ex so (.inr x)) st:=qi1 mixed hn h he
theorem bO(A:List Nat){f:FuncId}{fn:Func}{c:Code}{args:List PVal}{r:PVal}{ro:List (Nat×TypeId)}(hcall:∀vs w,(callFunc f vs).run Pg w=.ok (.enter f vs) w)(hfn:Pg.funcs[f]? =some fn)(hb:fn.body=some c)(hcl:iC 0 args){sc:List It}{F:Prop}(h:PS sc F)(he:F=Bo Pg GE A 0 c sc ⟨args++List.replicate (fn.ntmps - args.length) .undef,[],[]⟩ (FR Pg fn.results.toList r ro)):CC Pg GE f args r ro:=C.evp mixed hcall hfn hb hcl h he
abbrev waA:=List af
abbrev waB:=List aa
abbrev waC:=List ae
abbrev waD:=List ai
abbrev waE:=List aO
abbrev waF:=List cM
abbrev waG:=List eh
end Go.Proofs.YtbaamopmfmpfaaaGreatDoor
