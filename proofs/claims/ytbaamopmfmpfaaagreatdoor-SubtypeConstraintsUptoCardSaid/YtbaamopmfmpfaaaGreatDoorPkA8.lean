/- PROVED: a part of the proof. Conditions: none. -/
import Derived.Test.YtbaamopmfmpfaaaGreatDoorPkA7
import Derived.Test.YtbaamopmfmpfaaaGreatDoorPkA3
import Derived.Shelf.SlicesE.Clone
import Derived.Test.YtbaamopmfmpfaaaGreatDoorChecked
noncomputable section
namespace Go.Proofs.YtbaamopmfmpfaaaGreatDoor
open Go
section
variable{X Y:Type}
def qiB(F:(X->Option Y)->X->Option Y):Nat->X->Option Y
 |0,_=>none
 |n+1,x=>F (qiB F n) x
end
theorem rT:true=true:=rfl
theorem rL(l:List aN):l=l:=rfl
theorem rB(B:aN):B=B:=rfl
theorem rW(l:List (Nat×TypeId)):l=l:=rfl
theorem xR(ρ:List Nat)(p:PVal)(h:p.cl 0):Jr ρ p p:=.refl p h
theorem jv{a a':PVal}{l l':List PVal}(h:a=a')(h':l=l'):a::l=a'::l':=by rw[h,h']
open Go Go.Shelf Go.RowKit Go.Lib
variable{P:Program}{ρ:Ren}
set_option maxHeartbeats 2000000 in
set_option maxRecDepth 100000 in
theorem WP(L:SlLaysE0.n41 P ρ)(i0:TypeInfo)(z:Value)(hi:P.info? (ρ.t 23)=some i0)(hz0:i0.zero=some z)(hzs:z.cells.size=i0.size)(hsz:0<i0.size)
  (z23:∀w,(Go.sizeOf (ρ.t 23)).run P w=.ok i0.size w) (ad:Addr) (c:Nat) (w:World):
  Calls P (ρ.f 41) #[.slice (some ad) 0 c] w fun r w'=>∃v',r=.returned v'/\w'.ownsRow w.heap.size (ρ.t 23) i0.size v' 0 []/\Below w.heap.size w w':=by
 have mixed:=L.mixed;have t4:=L.t4;have a4:=L.a4;have z4:=L.z4;have v4:=L.v4;have t22:=L.t22;have a22:=L.a22;have z22:=L.z22;have v22:=L.v22
 have q22:∀(w:World) (a:Option Addr) (n c n' c':Nat),(binOp .eql (ρ.t 22) (.slice a n c) (.slice none n' c')).run P w=.ok (.bool a.isNone) w:=fun w a n c n' c'=>Lib.run_eql_slice_nil w _ _ a n c n' c' L.t22
 have u22:∀w,Sem.run P (underlying (ρ.t 22)) w=.ok (TypeDesc.slice (ρ.t 23)) w:=run_underlying t22
 obtain⟨_,_,FG⟩:=L.f41
 go_enter FG,SlBodyN.n41_ntmps ρ
 go_wp2_with (at_builtin;refine wpList_append_own _ rfl _ _ (ρ.t 22) rfl w.heap.size (ρ.t 23) i0 z i0.size i0.bytes t22 hi hz0 rfl rfl hzs hsz _ _ _ rfl (World.ownsRow_made w #[] 0 (vah _) (vaN _) (by simp)) ad 0 c [] rfl (by simp) (by simp) (by simp) (by simp) (by simp) (by simp) ?_)
 intro v' w1 hown hgrow _
 go_wp2
 go_ret
 exact⟨v',rfl,by simpa using hown,((Below.refl _ w).alloc (vah _) _).grown hgrow (by simp) (by intro k hk;simp[Value.ownBlock]at hk;omega)⟩
theorem qaR(L:SlLaysE0.n41 P ρ)(i0:TypeInfo)(z:Value)(hi:P.info? (ρ.t 23)=some i0)(hz0:i0.zero=some z)(hzs:z.cells.size=i0.size)(hsz:0<i0.size)(hby:i0.bytes<=65536)
  (hcall:∀vs w,(callFunc (ρ.f 41) vs).run P w=.ok (.enter (ρ.f 41) vs) w):nJ P (ρ.f 41) (ρ.t 23):=by
 have hc:P.cellsOf (ρ.t 23)=i0.size:=by simp[Program.cellsOf,hi]
 have z23:∀w,(Go.sizeOf (ρ.t 23)).run P w=.ok i0.size w:=fun w=>by rw[<-hc];exact run_sizeOf w hi
 refine⟨hcall,fun w x n news hx hl h1 hn=>?_⟩
 rw[hc]at hl ⊢
 rcases hx with⟨rfl,rfl⟩|⟨a,c,rfl,hcell⟩
 ·have hnews:news=[]:=vau (by simpa using hl)
  subst hnews
  refine(AnyE.slices_Clone_nil L 0 0 w).mono fun r w' hr=>?_
  obtain⟨rfl,rfl⟩:=hr
  exact⟨_,rfl,World.ownsRow_nil _ _ _ _,Below.refl _ _⟩
 ·by_cases h0:n=0
  ·subst h0
   have hnews:news=[]:=vau (by simpa using hl)
   subst hnews
   exact WP L i0 z hi hz0 hzs hsz z23 a c w
  ·have hpos:0<news.length:=by rw[hl];exact vcU (Nat.pos_of_ne_zero h0) hsz
   have hsp:a.spot=none:=by
    have hk:=hcell 0 _ (vab hpos)
    unfold Addr.add at hk
    simp only[if_true]at hk
    unfold World.cell? at hk
    split at hk
    ·split at hk
     ·cases hk
     ·rename_i hs;simpa using hs
    ·cases hk
   obtain⟨b,off,sp⟩:=a
   simp only at hsp
   subst hsp
   refine(AnyE.slices_Clone L i0 z i0.size i0.bytes hi hz0 rfl rfl hzs hsz z23 b off n c news w hl (by unfold maxLen;unfold eY at hn;omega) ?_ (fun j u hj=>by rw[<-Addr.add_lit];exact hcell j u hj) h1).mono fun r w' hr=>?_
   ·have:n * i0.bytes<=1073741824 * 65536:=vcf (by unfold eY at hn;omega) hby
    omega
   ·obtain⟨v',k1,k2,_,k3⟩:=hr
    exact⟨v',k1,k2,k3⟩
theorem F3(L:SlLaysE0.n41 P ρ){f:FuncId}{e:TypeId}(hf:ρ.f 41=f)(he:ρ.t 23=e)(hq:(P.info? e).any (fun i=>(i.zero.any fun z=>z.cells.size==i.size)&&decide (0<i.size)&&decide (i.bytes<=65536))=true)
  (hcall:∀vs w,(callFunc f vs).run P w=.ok (.enter f vs) w):nJ P f e:=by
 subst hf;subst he
 cases hi:P.info? (ρ.t 23)with
 |none=>rw[hi]at hq;cases hq
 | some i0 =>
  rw[hi]at hq
  simp only[Option.any_some,vaj,vao]at hq
  obtain⟨⟨h1,h2⟩,h3⟩:=hq
  cases hz:i0.zero with
  |none=>rw[hz]at h1;cases h1
  |some z=>
   rw[hz]at h1
   simp only[Option.any_some,va4]at h1
   exact qaR L i0 z hi hz h1 h2 h3 hcall
end Go.Proofs.YtbaamopmfmpfaaaGreatDoor
namespace Go.Proofs.YtbaamopmfmpfaaaGreatDoor
open Go
def pF{α:Type}(c:α->List PVal)(l:List α):List PVal:=(l.map c).flatten
def nS{α:Type}(l:List α):Option (List α):=if l.length<=eY then some l else none
def qft{α:Type}(l:List α)(i:Int)(x:α):Option (List α):=if 0<=i/\i.toNat<l.length then some (l.set i.toNat x)else none
abbrev lL(P:Program)(e:TypeId)(i:Int):Nat:=0+i.toNat * P.cellsOf e
section
variable{P:Program}{GE:List (Nat×List PVal)}{T e:TypeId}{α:Type}{c:α->List PVal}
theorem Mk{l r:List α}(h:nS l=some r):l.length<=eY/\r=l:=by
 unfold nS at h
 split at h
 ·rename_i hl;cases h;exact⟨hl,rfl⟩
 ·cases h
theorem qg.mapOk(s:qg P T e c)(l:List α):∀x∈l.map c,x.length=P.cellsOf e/\∀q∈x,q.one=true:=fun x hx=>by
 obtain⟨y,_,rfl⟩:=vaq.1 hx
 exact⟨s.hc y,s.ho y⟩
theorem qg.cloneCC(s:qg P T e c){f:FuncId}(hC:nJ P f e){l r:List α}(h:nS l=some r):CC P GE f [sl c l] (sl c r) [(0,e)]:=by
 obtain⟨hl,rfl⟩:=Mk h
 exact CC.clone hC ⟨aj s.cl r,trivial⟩ s.hp (s.mapOk r) (by simpa using hl)
theorem qg.cloneR(s:qg P T e c){f:FuncId}(hC:nJ P f e){l r:List α}(h:nS l=some r):nJ P f e/\(0<P.cellsOf e/\(∀x∈l.map c,x.length=P.cellsOf e/\∀q∈x,q.one=true)/\(l.map c).length<=eY)/\(r.length=(l.map c).length/\pF c r=(l.map c).flatten):=by
 obtain⟨hl,rfl⟩:=Mk h
 exact⟨hC,⟨s.hp,s.mapOk r,by simpa using hl⟩,by simp,rfl⟩
theorem qez{l r:List α}(h:app [] l=some r):r=l:=by
 unfold app at h
 split at h
 ·cases h;rfl
 ·cases h
theorem qg.apR(s:qg P T e c){l r:List α}(h:app [] l=some r):P.underlying T=some (.slice e)/\(∃p,lW P T [] (l.map c)=some p)/\(r.length=(l.map c).length/\pF c r=(l.map c).flatten):=by
 have h1:=s.ap h
 have h2:=qez h
 subst h2
 exact⟨s.hu,⟨_,h1⟩,by simp,rfl⟩
theorem qg.lnR(s:qg P T e c)(b off n:Nat):∀H,Fd P T (.bsl b off n) H=some (.int .i64 (n:Int)):=fun H=>by
 unfold Fd;rw[s.hu]
theorem qg.flat_len(s:qg P T e c)(l:List α):(pF c l).length=l.length * P.cellsOf e:=by
 unfold pF
 rw[Go.Proofs.YtbaamopmfmpfaaaGreatDoor.flat_len (sz:=P.cellsOf e) (fun x hx=>(s.mapOk l x hx).1)]
 simp
theorem LB(hc:∀x,(c x).length=P.cellsOf e):∀{l:List α} {i:Nat} {x:α},l[i]? =some x->pF c l=(pF c l).take (i * P.cellsOf e)++c x++(pF c l).drop (i * P.cellsOf e+P.cellsOf e)/\∀y,pF c (l.set i y)=(pF c l).take (i * P.cellsOf e)++c y++(pF c l).drop (i * P.cellsOf e+P.cellsOf e)
 |[],i,x,h=>by simp at h
 |z::l,0,x,h=>by
  simp at h;subst h
  have e1:pF c (z::l)=c z++pF c l:=by simp[pF]
  have e2:∀y,pF c ((z::l).set 0 y)=c y++pF c l:=fun y=>by simp[pF]
  rw[e1]
  simp only[e2,vcz,vaK,List.take_zero,vaC]
  rw[<-hc z,List.drop_left]
  exact⟨rfl,fun _=>rfl⟩
 | z :: l,i + 1,x,h => by
  obtain⟨h1,h2⟩:=LB hc (l:=l) (i:=i) (x:=x) (by simpa using h)
  have e1:pF c (z::l)=c z++pF c l:=by simp[pF]
  have e2:∀y,pF c ((z::l).set (i+1) y)=c z++pF c (l.set i y):=fun y=>by simp[pF]
  have hz:=hc z
  have t1:(c z++pF c l).take ((i+1) * P.cellsOf e)=c z++(pF c l).take (i * P.cellsOf e):=by
   rw[List.take_append,va7,vbG,hz,vbr (by omega),Nat.add_sub_cancel]
  have t2:(c z++pF c l).drop ((i+1) * P.cellsOf e+P.cellsOf e)=(pF c l).drop (i * P.cellsOf e+P.cellsOf e):=by
   rw[vcT,va7,vbG,hz,vbP (by omega),vaC]
   congr 1;omega
  rw[e1,t1,t2]
  refine⟨?_,fun y=>?_⟩
  ·conv=>lhs;rw[h1]
   simp only[vba]
  ·rw[e2,h2];simp only[vba]
theorem qg.ldR(s:qg P T e c){l:List α}{i:Int}{x:α}{p:PVal}(hl:∀r,bm P e (c x++r)=some p)(h:cz l i=some x):bm P e ((pF c l).drop (lL P e i))=some p:=by
 obtain⟨h0,h1⟩:=Qf h
 obtain⟨h2,_⟩:=LB (P:=P) (e:=e) s.hc h1
 have hlen:=s.flat_len l
 have hlt:=av h1
 have hle:i.toNat * P.cellsOf e<=l.length * P.cellsOf e:=vaZ _ (vcB hlt)
 rw[lL,vaK]
 have:(pF c l).drop (i.toNat * P.cellsOf e)=c x++(pF c l).drop (i.toNat * P.cellsOf e+P.cellsOf e):=by
  conv=>lhs;rw[h2]
  rw[vba,vcT,vbP (by simp;omega),vaC]
  have:((pF c l).take (i.toNat * P.cellsOf e)).length=i.toNat * P.cellsOf e:=by simp;omega
  rw[this,vby,vaV]
 rw[this];exact hl _
theorem qd3{l r:List α}{i:Int}{x:α}(h:qft l i x=some r):0<=i/\i.toNat<l.length/\r=l.set i.toNat x:=by
 unfold qft at h
 split at h
 ·rename_i hh;cases h;exact⟨hh.1,hh.2,rfl⟩
 ·cases h
theorem qg.stR(s:qg P T e c){l r:List α}{i:Int}{x:α}{v:PVal}(hv:bK v=some (c x))(h:qft l i x=some r):eh P e (.bptr 0 (lL P e i)) v [.cells (pF c l) []]=some [.cells (pF c r) []]:=by
 obtain⟨h0,h1,rfl⟩:=qd3 h
 obtain⟨_,h2⟩:=LB (P:=P) (e:=e) s.hc (vab h1)
 have hlen:=s.flat_len l
 have hle:i.toNat * P.cellsOf e+P.cellsOf e<=l.length * P.cellsOf e:=by
  have:=vaZ (P.cellsOf e) h1
  rw[Nat.succ_mul]at this;exact this
 unfold eh
 simp only[hv,List.getElem?_cons_zero,lL,vaK]
 rw[vad ⟨s.hc x,s.hi,by rw[s.hc x];omega,vax.2 (s.ho x)⟩,h2,s.hc x]
 simp
end
def PS(_:List It)(F:Prop):Prop:=F
section
variable{sc:List It}{F X Y:Prop}
theorem en(h:F):PS [] F:=h
theorem sv{o:Option PVal}{p:PVal}(h:o=some p)(r:PS sc F):PS (.v p::sc) (o=some p/\F):=⟨h,r⟩
theorem cm{o:List aN->Option PVal}{p:PVal}(h:∀H,o H=some p)(r:PS sc F):PS (.v p::sc) ((∀H,o H=some p)/\F):=⟨h,r⟩
theorem sx{o:Option (List PVal)}{l:List PVal}(h:o=some l)(r:PS sc F):PS (.x l::sc) (o=some l/\F):=⟨h,r⟩
theorem se{o:Option (List PVal)}{l:List PVal}(h:o=some l)(r:PS sc F):PS (.e l::sc) (o=some l/\F):=⟨h,r⟩
theorem sg(n:Nat){x b:Bool}(h:x=b)(r:PS sc F):PS (.g n b::sc) (x=b/\F):=⟨h,r⟩
theorem ss(r:PS sc F):PS (.s::sc) F:=r
theorem VP{o:Option (List PVal)}{l:List PVal}(h:o=some l)(r:PS sc F):PS (.s::sc) (o=some l/\F):=⟨h,r⟩
theorem bz{P:Program}{GE:List (Nat×List PVal)}{g:FuncId}{vs:List PVal}{p:PVal}{ro:List (Nat×TypeId)}(h:CC P GE g vs p ro)(r:PS sc F):PS (.c p ro::sc) (CC P GE g vs p ro/\F):=⟨h,r⟩
theorem sb{P:Program}{T:TypeId}{ps:List (Nat×PVal)}{p:PVal}{L:List (Nat×TypeId)}(h:dw P T ps=some p)(h':rZ P T ps L)(r:PS sc F):PS (.b p L::sc) (dw P T ps=some p/\rZ P T ps L/\F):=⟨h,h',r⟩
theorem sy{l vs:List PVal}(h:l=vs)(r:PS sc F):PS (.y vs::sc) (l=vs/\F):=⟨h,r⟩
theorem qb2{o:Option (List PVal)}{vs:List PVal}(h:o=some vs)(r:PS sc F):PS (.y vs::sc) (o=some vs/\F):=⟨h,r⟩
theorem sz{o:Option PVal}{l:List PVal}(h:o=some (.agg l))(r:PS sc F):PS (.z l::sc) (o=some (.agg l)/\F):=⟨h,r⟩
theorem lY(an:List Nat)(r:PS sc F):PS (.dr an::sc) F:=r
theorem kr(n:Nat)(r:PS sc F):PS (.pa n::sc) F:=r
theorem cW{P:Program}{GE:List (Nat×List PVal)}{m:Nat}{c:Code}{e:Exit}{s0 s1:aA}(h:aU P GE m c (EX e s1) s0)(r:PS sc F):PS (.pc s0 e s1::sc) ((s0.tmps=s0.tmps/\s0.boxes=s0.boxes/\true=true)/\aU P GE m c (EX e s1) s0/\F):=⟨fr s0,h,r⟩
theorem qhx(i:It)(r:PS sc F):PS (i::sc) F:=r
theorem si(i:It)(h:X)(r:PS sc F):PS (i::sc) (X/\F):=⟨h,r⟩
theorem sf(h:X)(r:PS sc F):PS sc (X/\F):=⟨h,r⟩
theorem qjv{o:Option (List aN)}{B:aN}(h:o=some [B])(r:PS sc F):PS (.w 0 B::sc) (o=some [B]/\F):=⟨h,r⟩
theorem qlS{o:Option (List (PVal×PVal))}{m:List (PVal×PVal)}(h:o=some m)(r:PS sc F):PS (.w 0 (.map m)::sc) (o=some m/\F):=⟨h,r⟩
theorem qju(i:Nat)(e:TypeId){n k:Nat}{cs fs:List PVal}(h:X/\Y/\(n=k/\cs=fs))(r:PS sc F):PS (.ar i e n cs::sc) (X/\Y/\(n=k/\cs=fs)/\F):=⟨h.1,h.2.1,h.2.2,r⟩
theorem qf2(i:Nat)(es:List (List PVal))(lv rk:List Nat)(h:X)(h':Y){Z:Prop}(h'':Z)(r:PS sc F):PS (.fz i es lv rk::sc) (X/\Y/\Z/\F):=⟨h,h',h'',r⟩
end
section
variable{P:Program}{GE:List (Nat×List PVal)}{A:List Nat}{m:Nat}
theorem nX(hf:P.follows .mixedOrders=true){c:Code}{e0:Exit}{st0 st:aA}{sc:List It}{F:Prop}(h:PS sc F)(he:F=A5 P GE A m c sc st (FN e0 st0)):aU P GE m c (EX e0 st0) st:=piece hf sc (Eq.mp he h)
theorem qiD(hf:P.follows .mixedOrders=true){σ X:Type}{S:σ->aA}{ex:X->Exit}{so:X->aA}{c:Code}{s:σ}{st:aA}{sc:List It}{F:Prop}(h:PS sc F)(he:F=A5 P GE A m c sc st (FN .normal (S s))):aU P GE m c (LQ S ex so (.inl s)) st:=pj hf sc (Eq.mp he h)
theorem qiG(hf:P.follows .mixedOrders=true){σ X:Type}{S:σ->aA}{ex:X->Exit}{so:X->aA}{c:Code}{x:X}{st:aA}{sc:List It}{F:Prop}(hn:ex x≠.normal)(h:PS sc F)(he:F=A5 P GE A m c sc st (FN (ex x) (so x))):aU P GE m c (LQ S ex so (.inr x)) st:=qkj hf sc hn (Eq.mp he h)
theorem C.evp(hf:P.follows .mixedOrders=true){f:FuncId}{fn:Func}{c:Code}{args:List PVal}{r:PVal}{ro:List (Nat×TypeId)}
  (hcall:∀vs w,(callFunc f vs).run P w=.ok (.enter f vs) w) (hfn:P.funcs[f]? =some fn) (hb:fn.body=some c) (hcl:iy 0 args) {sc:List It} {F:Prop} (h:PS sc F)
  (he:F=A5 P GE A 0 c sc ⟨args++List.replicate (fn.ntmps - args.length) .undef,[],[]⟩ (FR P fn.results.toList r ro)):CC P GE f args r ro:=C.ev hf hcall hfn hb hcl sc (Eq.mp he h)
theorem C.evGp(hf:P.follows .mixedOrders=true){f:FuncId}{fn:Func}{c:Code}{args:List PVal}{oa:List ((Nat×Nat)×TypeId)}{H:List aN}{r:PVal}{ro:List (Nat×TypeId)}{H':List aN}
  (hm:decide (m % 1000=H.length)&&decide (m≠0)&&decide (H'.length=H.length)=true) (hcall:∀vs w,(callFunc f vs).run P w=.ok (.enter f vs) w) (hfn:P.funcs[f]? =some fn) (hb:fn.body=some c) {sc:List It} {F:Prop} (h:PS sc F)
  (he:F=A5 P GE A m c sc ⟨args++List.replicate (fn.ntmps - args.length) .undef,H,oa⟩ (qhS P fn.results.toList r ro H')):C P GE f args oa H r ro H':=C.evG hf hm hcall hfn hb sc (Eq.mp he h)
end
section
variable{P:Program}{GE:List (Nat×List PVal)}{A:List Nat}{m:Nat}
theorem df(hf:P.follows .mixedOrders=true){σ X:Type}{S:σ->aA}{ex:X->Exit}{so:X->aA}{c:Code}{s:σ}{st:aA}{sc:List It}{F:Prop}(h:PS sc F)(he:F=A5 P GE A m c sc st (qhR m .normal (S s))):aU P GE m c (LQ S ex so (.inl s)) st:=qiE hf sc (Eq.mp he h)
theorem Iq(hf:P.follows .mixedOrders=true){σ X:Type}{S:σ->aA}{ex:X->Exit}{so:X->aA}{c:Code}{x:X}{st:aA}{sc:List It}{F:Prop}(hn:ex x≠.normal)(h:PS sc F)(he:F=A5 P GE A m c sc st (qhR m (ex x) (so x))):aU P GE m c (LQ S ex so (.inr x)) st:=qiH hf sc hn (Eq.mp he h)
end
def tm(n:Nat):Nat->List (Nat×PVal)->List PVal
 |k,[]=>List.replicate (n - k) .undef
 |k,x::l=>List.replicate (x.1 - k) .undef++x.2::tm n (x.1+1) l
abbrev be(n:Nat)(l:List (Nat×PVal))(H:List aN)(o:List ((Nat×Nat)×TypeId)):aA:=⟨tm n 0 l,H,o⟩
def qgI(n:Nat):List (Nat×PVal)->Prop
 |[]=>True
 |x::l=>x.2.cl n/\qgI n l
theorem US{n:Nat}{l:List PVal}(h:iy n l):∀k,iy n (List.replicate k .undef++l)
 |0=>h
 |k+1=>by rw[List.replicate_succ,vaG];exact⟨trivial,US h k⟩
theorem dC{n N:Nat}:∀{l:List (Nat×PVal)} {k:Nat},qgI n l->iy n (tm N k l)
 |[],k,_=>by unfold tm;have:=US (n:=n) (l:=[]) trivial (N - k);rwa[va1]at this
 |x::l,k,h=>by unfold tm;exact US (l:=x.2::tm N (x.1+1) l) (by simp only[iy];exact⟨h.1,dC h.2⟩) _
def bits:Nat->Nat->List Bool->List Bool
 |0,_,l=>l
 |k+1,n,l=>if n<=1 then l else bits k (n / 2) ((n % 2==1)::l)
def cA(c:Code)(n:Nat):Code:=gz c (bits 100 n [])
section
variable{X Y:Type}
def kJ(F:(X->Option Y)->X->Option Y)(x:X):Option Y:=qiB F qee x
theorem qgE:18446744073709551616<qee:=by unfold qee;omega
theorem cy{F:(X->Option Y)->X->Option Y}{M:X->Y->Prop}(hF:∀rec:X->Option Y,(∀x r,rec x=some r->M x r)->∀x r,F rec x=some r->M x r){x:X}{r:Y}(h:kJ F x=some r):M x r:=by
 have key:∀n x r,qiB F n x=some r->M x r:=by
  intro n
  induction n with
  |zero=>intro x r h;cases h
  |succ n ih=>intro x r h;exact hF _ ih x r h
 exact key _ x r h
theorem eP{F:(X->Option Y)->X->Option Y}(μ:X->Nat)(Q:X->Prop)(s:X->Y)(h:∀(R:X->Option Y) x,Q x->(∀y,μ y<μ x->Q y->R y=some (s y))->F R x=some (s x))(x:X)(hx:Q x)(hm:μ x<qee):kJ F x=some (s x):=by
 have key:∀n x,μ x<n->Q x->qiB F n x=some (s x):=by
  intro n
  induction n with
  |zero=>intro x hx;omega
  |succ n ih=>intro x hx hq;exact h _ x hq fun y hy hqy=>ih y (by omega) hqy
 exact key _ x hm hx
end
def X6{α:Type}(n:Nat)(l:List α)(i:Int):Option α:=if 0<=i/\i.toNat<n then l[i.toNat]? else none
def qgN{α:Type}(lo:Int)(n:Nat)(l:List α)(i:Int):Option α:=if 0<=lo/\0<=i/\i.toNat<n then l[(lo+i).toNat]? else none
def qd0(n:Nat)(lo hi:Int):Option Nat:=if 0<=lo/\lo<=hi/\hi.toNat<=n then some (hi.toNat - lo.toNat)else none
def qcO{α:Type}(n:Nat)(l:List α):Option (List α):=if n=l.length then some l else none
theorem qeT{α:Type}{n:Nat}{l:List α}{i:Int}{x:α}(h:X6 n l i=some x):cz l i=some x:=by
 unfold X6 at h
 split at h
 ·rename_i hh;unfold cz;rw[vad hh.1];exact h
 ·cases h
theorem Qa{α:Type}{n:Nat}{l r:List α}(h:qcO n l=some r):n=l.length/\r=l:=by
 unfold qcO at h
 split at h
 ·cases h;exact⟨by assumption,rfl⟩
 ·cases h
section
variable{P:Program}{GE:List (Nat×List PVal)}{T e:TypeId}{α:Type}{c:α->List PVal}
theorem qg.iaN(s:qg P T e c)(b:Nat){n:Nat}{l:List α}{i:Int}{k:IntKind}{x:α}(h:X6 n l i=some x):jn P T (.bsl b 0 n) (.int k i)=some (.bptr b (lL P e i)):=by
 unfold X6 at h
 split at h
 ·rename_i hh
  unfold jn
  rw[s.hu]
  simp only
  rw[vad ⟨hh.1,by omega,s.hi⟩]
 ·cases h
theorem qg.iaM(s:qg P T e c)(b:Nat){lo:Int}{n:Nat}{l:List α}{i:Int}{k:IntKind}{x:α}(h:qgN lo n l i=some x):jn P T (.bsl b (lL P e lo) n) (.int k i)=some (.bptr b (lL P e (lo+i))):=by
 unfold qgN at h
 split at h
 ·rename_i hh
  unfold jn
  rw[s.hu]
  simp only
  rw[vad ⟨hh.2.1,by omega,s.hi⟩]
  have:(lo+i).toNat=lo.toNat+i.toNat:=by omega
  simp only[lL,this,vaK,va7]
 ·cases h
theorem qg.ldN(s:qg P T e c){n:Nat}{l:List α}{i:Int}{x:α}{p:PVal}(hl:∀r,bm P e (c x++r)=some p)(h:X6 n l i=some x):bm P e ((pF c l).drop (lL P e i))=some p:=s.ldR hl (qeT h)
theorem qg.ldM(s:qg P T e c){lo:Int}{n:Nat}{l:List α}{i:Int}{x:α}{p:PVal}(hl:∀r,bm P e (c x++r)=some p)(h:qgN lo n l i=some x):bm P e ((pF c l).drop (lL P e (lo+i)))=some p:=by
 refine s.ldR hl ?_
 unfold qgN at h
 split at h
 ·rename_i hh;unfold cz;rw[vad (by omega)];exact h
 ·cases h
theorem qg.scN(s:qg P T e c)(b:Nat){n m:Nat}{lo hi:Int}(h:qd0 n lo hi=some m):Ac P T (.bsl b 0 n) (some (.int .i64 lo)) (some (.int .i64 hi)) none=some (.bsl b (lL P e lo) m):=by
 unfold qd0 at h
 split at h
 ·rename_i hh
  cases h
  unfold Ac
  rw[s.hu]
  simp only[LV,vad hh.1,vad (show 0<=hi by omega)]
  rw[vad ⟨by omega,hh.2.2,s.hi⟩]
 ·cases h
theorem qg.fz1(s:qg P T e c){m b:Nat}(hb:decide (m % 1000<=b)=true)(l:List α):(m % 1000<=b)/\∃sz,0<sz/\∀x∈l.map c,x.length=sz:=⟨vaD hb,_,s.hp,fun x hx=>(s.mapOk l x hx).1⟩
theorem qg.fz2(s:qg P T e c)(b:Nat)(l:List α):NT b (l.map c):=Cz b _ (UR fun p hp=>by obtain⟨x,_,rfl⟩:=vaq.1 hp;exact s.cl x)
theorem qhu(c:α->List PVal){n:Nat}{l r:List α}(h:qcO n l=some r):pF c l=(r.map c).flatten:=by rw[(Qa h).2];rfl
theorem qhv(c:α->List PVal){n:Nat}{l r:List α}(h:qcO n l=some r):n=(r.map c).length:=by rw[(Qa h).2,vaF];exact(Qa h).1
theorem qkS{m b:Nat}(hb:decide (m % 1000<=b)=true)(l:List PVal)(hl:decide (l.length≠0)=true):(m % 1000<=b)/\∃sz,0<sz/\∀x∈[l],x.length=sz:=⟨vaD hb,l.length,by have:=vaD hl;omega,fun x hx=>by rw[va3.1 hx]⟩
theorem qkT(b:Nat){l:List PVal}(h:iy 0 l):NT b [l]:=Cz b _ ⟨h,trivial⟩
theorem qkU{l r:List PVal}(h:r=l):l=[r].flatten:=by rw[h];simp
theorem E6(b:Nat){p:PVal}(h:p.cl 0):p.no b:=Xl b p h
end
theorem qeg{α:Type}{c:α->List PVal}(n:Nat)(h:∀x,iy 0 (c x)):∀(l:List α),iy n (pF c l)
 |[]=>trivial
 |x::l=>by
  have e:pF c (x::l)=c x++pF c l:=by simp[pF]
  rw[e]
  exact sQ.2 ⟨ij (h x),qeg n h l⟩
theorem xS(ρ:List Nat)(i j off n:Nat)(h:ρ[i]? =some j):Jr ρ (.bsl j off n) (.bsl i off n):=.bsl i j off n h
theorem qkx(ρ:List Nat):∀(l:List PVal),iy 0 l->RZ ρ l l
 |[],_=>trivial
 |p::l,h=>by simp only[iy]at h;exact⟨.refl p h.1,qkx ρ l h.2⟩
theorem eF(e:Exit)(s:aA):PS [] (e=e/\s.tmps=s.tmps/\s.boxes=s.boxes/\true=true):=⟨rfl,fr s⟩
theorem uz(m:Nat)(e:Exit)(s:aA)(h4:decide (m % 1000<=s.boxes.length)=true)(h5:iy s.boxes.length s.tmps)(h6:UQ s.boxes.length s.boxes):PS [] (e=e/\s.tmps=s.tmps/\s.boxes=s.boxes/\true=true/\decide (m % 1000<=s.boxes.length)=true/\iy s.boxes.length s.tmps/\UQ s.boxes.length s.boxes):=⟨rfl,qlJ m s h4 h5 h6⟩
open Go Go.Proofs.Tryz
set_option linter.unusedVariables false
set_option maxRecDepth 100000
noncomputable abbrev Pg:=Tryz.prog
theorem mixed:Pg.follows .mixedOrders=true:=by kernel_rfl
structure cG where
 Name:ag
 Sort_:ag
deriving DecidableEq
def bH(x:cG):List PVal:=[.str x.Name,.str x.Sort_]
theorem Og(x:cG):bH x=[.str x.Name,.str x.Sort_]:=rfl
theorem lT(x:cG):iy 0 (bH x):=(aI trivial (aI trivial trivial))
abbrev qd5(x:cG):PVal:=.agg (bH x)
theorem Xa(x:cG):(bH x).length=2:=by rw[Og];rfl
theorem qdq(x:cG):bK (qd5 x)=some (bH x):=rfl
theorem qds(x:cG):bK (.agg (bH x))=some [.str x.Name,.str x.Sort_]:=by rw[Og];rfl
theorem qdl(x:cG):∀q∈bH x,q.one=true:=by
 intro q hq
 rw[Og]at hq
 simp only[vaw,vaH,or_false]at hq
 rcases hq with rfl|rfl<;>rfl
theorem qcv:Pg.cellsOf 102=2:=by kernel_rfl
theorem qeZ(x:cG):bm Pg 102 (bH x)=some (.agg (bH x)):=by
 have:=lJ (P:=Pg) (t:=102) (l:=bH x) (r:=[]) (by kernel_rfl) (qcv.trans (Xa x).symm)
 rwa[va1]at this
theorem WI(x0:ag)(x1:ag):dw Pg 102 [(0,.str x0),(1,.str x1)]=some (.agg (bH (⟨x0,x1⟩:cG))):=by
 kernel_rfl
theorem zW(x:cG):aF Pg 102 (.eptr (bH x)) 0=some (.eptr ((bH x).drop 0)):=by kernel_rfl
theorem Sq(x:cG):aF Pg 102 (.eptr (bH x)) 1=some (.eptr ((bH x).drop 1)):=by kernel_rfl
theorem E1(x:cG):bm Pg 9 ((bH x).drop 0)=some (.str x.Name):=by kernel_rfl
theorem Vo(x:cG):bm Pg 47 ((bH x).drop 1)=some (.str x.Sort_):=by kernel_rfl
inductive aa where
 |mk (Op:Int) (Name:ag) (N:Int) (Kids:(List aa))
def aa.Op:aa->Int
 |⟨x,_,_,_⟩=>x
def aa.Name:aa->ag
 |⟨_,x,_,_⟩=>x
def aa.N:aa->Int
 |⟨_,_,x,_⟩=>x
def aa.Kids:aa->(List aa)
 |⟨_,_,_,x⟩=>x
mutual
def ac:aa->List PVal
 |⟨x0,x1,x2,x3⟩=>[.int .i64 x0,.str x1,.int .i64 x2,.slice (y2 x3)]
def y2:List aa->List (List PVal)
 |[]=>[]
 |x::r=>ac x::y2 r
end
theorem Qn:∀(l:List aa),y2 l=l.map ac
 |[]=>by simp[y2]
 |x::r=>by simp[y2,Qn r]
mutual
theorem ah:∀(x:aa),iy 0 (ac x)
 |⟨x0,x1,x2,x3⟩=>by rw[ac];exact(aI trivial (aI trivial (aI trivial (aI (S7 x3) trivial))))
theorem S7:∀(l:List aa),vX 0 (y2 l)
 |[]=>by simp[y2,vX]
 |x::r=>by rw[y2];exact⟨ah x,S7 r⟩
end
theorem aJ:∀(x:aa),ac x=[.int .i64 x.Op,.str x.Name,.int .i64 x.N,sl ac x.Kids]
 |⟨x0,x1,x2,x3⟩=>by
  simp only[ac,Qn]
  rfl
abbrev dW(x:aa):PVal:=.agg (ac x)
theorem LH(x:aa):(ac x).length=4:=by rw[aJ];rfl
theorem bS(x:aa):bK (.agg (ac x))=some (ac x):=rfl
theorem cK(x:aa):bK (dW x)=some (ac x):=rfl
theorem cj(x:aa):bK (.agg (ac x))=some [.int .i64 x.Op,.str x.Name,.int .i64 x.N,sl ac x.Kids]:=by rw[aJ];rfl
theorem qbn(x:aa):∀q∈ac x,q.one=true:=by
 intro q hq
 rw[aJ]at hq
 simp only[vaw,vaH,or_false]at hq
 rcases hq with rfl|rfl|rfl|rfl<;>rfl
theorem qeJ:Pg.cellsOf 36=4:=by kernel_rfl
theorem bh(x:aa):bm Pg 36 (ac x)=some (.agg (ac x)):=by
 have:=lJ (P:=Pg) (t:=36) (l:=ac x) (r:=[]) (by kernel_rfl) (qeJ.trans (LH x).symm)
 rwa[va1]at this
theorem bT(x:aa)(r:List PVal):bm Pg 36 ([.int .i64 x.Op,.str x.Name,.int .i64 x.N,sl ac x.Kids]++r)=some (.agg (ac x)):=by
 rw[<-aJ];exact lJ (by kernel_rfl) (qeJ.trans (LH x).symm)
theorem dj(x:aa):PVal.agg [.int .i64 x.Op,.str x.Name,.int .i64 x.N,sl ac x.Kids]=.agg (ac x):=by rw[aJ]
theorem sP:dw Pg 36 []=some (.agg (ac (⟨0,([]:ag),0,([]:List aa)⟩:aa))):=by
 simp only[aJ]
 kernel_rfl
theorem sO:rZ Pg 36 [] [(3,36)]:=by
 exact⟨[.int .i64 0,.str ([]:ag),.int .i64 0,.val gh],by kernel_rfl,(aI rfl trivial)⟩
theorem kj(x0:Int)(x1:ag):dw Pg 36 [(0,.int .i64 x0),(1,.str x1)]=some (.agg (ac (⟨x0,x1,0,([]:List aa)⟩:aa))):=by
 simp only[aJ]
 kernel_rfl
theorem kh(x0:Int)(x1:ag):rZ Pg 36 [(0,.int .i64 x0),(1,.str x1)] [(3,36)]:=by
 exact⟨[.int .i64 x0,.str x1,.int .i64 0,.val gh],by kernel_rfl,(aI rfl trivial)⟩
theorem EK(x0:Int)(x1:ag)(x2:Int):dw Pg 36 [(0,.int .i64 x0),(1,.str x1),(2,.int .i64 x2)]=some (.agg (ac (⟨x0,x1,x2,([]:List aa)⟩:aa))):=by
 simp only[aJ]
 kernel_rfl
theorem EI(x0:Int)(x1:ag)(x2:Int):rZ Pg 36 [(0,.int .i64 x0),(1,.str x1),(2,.int .i64 x2)] [(3,36)]:=by
 exact⟨[.int .i64 x0,.str x1,.int .i64 x2,.val gh],by kernel_rfl,(aI rfl trivial)⟩
theorem Lv(x0:Int)(x1:ag)(x2:Int)(x3:(List aa)):dw Pg 36 [(0,.int .i64 x0),(1,.str x1),(2,.int .i64 x2),(3,sl ac x3)]=some (.agg (ac (⟨x0,x1,x2,x3⟩:aa))):=by
 simp only[aJ]
 kernel_rfl
theorem ri(x0:Int)(x2:Int):dw Pg 36 [(0,.int .i64 x0),(2,.int .i64 x2)]=some (.agg (ac (⟨x0,([]:ag),x2,([]:List aa)⟩:aa))):=by
 simp only[aJ]
 kernel_rfl
theorem rh(x0:Int)(x2:Int):rZ Pg 36 [(0,.int .i64 x0),(2,.int .i64 x2)] [(3,36)]:=by
 exact⟨[.int .i64 x0,.str ([]:ag),.int .i64 x2,.val gh],by kernel_rfl,(aI rfl trivial)⟩
theorem JG(x0:Int)(x3:(List aa)):dw Pg 36 [(0,.int .i64 x0),(3,sl ac x3)]=some (.agg (ac (⟨x0,([]:ag),0,x3⟩:aa))):=by
 simp only[aJ]
 kernel_rfl
theorem PL(x0:Int):dw Pg 36 [(0,.int .i64 x0)]=some (.agg (ac (⟨x0,([]:ag),0,([]:List aa)⟩:aa))):=by
 simp only[aJ]
 kernel_rfl
theorem PI(x0:Int):rZ Pg 36 [(0,.int .i64 x0)] [(3,36)]:=by
 exact⟨[.int .i64 x0,.str ([]:ag),.int .i64 0,.val gh],by kernel_rfl,(aI rfl trivial)⟩
theorem bE(x:aa):aF Pg 36 (.eptr (ac x)) 0=some (.eptr ((ac x).drop 0)):=by rw[aJ];kernel_rfl
theorem cp(x:aa):aF Pg 36 (.eptr (ac x)) 1=some (.eptr ((ac x).drop 1)):=by rw[aJ];kernel_rfl
theorem dD(x:aa):aF Pg 36 (.eptr (ac x)) 2=some (.eptr ((ac x).drop 2)):=by rw[aJ];kernel_rfl
theorem bA(x:aa):aF Pg 36 (.eptr (ac x)) 3=some (.eptr ((ac x).drop 3)):=by rw[aJ];kernel_rfl
theorem bF(x:aa):bm Pg 33 ((ac x).drop 0)=some (.int .i64 x.Op):=by rw[aJ];kernel_rfl
theorem cO(x:aa):bm Pg 9 ((ac x).drop 1)=some (.str x.Name):=by rw[aJ];kernel_rfl
theorem dU(x:aa):bm Pg 3 ((ac x).drop 2)=some (.int .i64 x.N):=by rw[aJ];kernel_rfl
theorem bC(x:aa):bm Pg 34 ((ac x).drop 3)=some (sl ac x.Kids):=by rw[aJ];kernel_rfl
inductive ae where
 |mk (Op:Int) (Name:ag) (Args:(List ae)) (Names:(List ag)) (Pred:aa) (Preds:(List aa))
def ae.Op:ae->Int
 |⟨x,_,_,_,_,_⟩=>x
def ae.Name:ae->ag
 |⟨_,x,_,_,_,_⟩=>x
def ae.Args:ae->(List ae)
 |⟨_,_,x,_,_,_⟩=>x
def ae.Names:ae->(List ag)
 |⟨_,_,_,x,_,_⟩=>x
def ae.Pred:ae->aa
 |⟨_,_,_,_,x,_⟩=>x
def ae.Preds:ae->(List aa)
 |⟨_,_,_,_,_,x⟩=>x
mutual
def af:ae->List PVal
 |⟨x0,x1,x2,x3,x4,x5⟩=>[.int .i64 x0,.str x1,.slice (y3 x2),sl cS x3]++(ac x4++([sl ac x5]))
def y3:List ae->List (List PVal)
 |[]=>[]
 |x::r=>af x::y3 r
end
theorem Qo:∀(l:List ae),y3 l=l.map af
 |[]=>by simp[y3]
 |x::r=>by simp[y3,Qo r]
mutual
theorem ak:∀(x:ae),iy 0 (af x)
 |⟨x0,x1,x2,x3,x4,x5⟩=>by rw[af];exact sQ.2 (aI ((aI trivial (aI trivial (aI (S8 x2) (aI (aj dQ x3) trivial))))) (sQ.2 (aI (ah x4) ((aI (aj ah x5) trivial)))))
theorem S8:∀(l:List ae),vX 0 (y3 l)
 |[]=>by simp[y3,vX]
 |x::r=>by rw[y3];exact⟨ak x,S8 r⟩
end
theorem bu:∀(x:ae),af x=[.int .i64 x.Op,.str x.Name,sl af x.Args,sl cS x.Names,.int .i64 x.Pred.Op,.str x.Pred.Name,.int .i64 x.Pred.N,sl ac x.Pred.Kids,sl ac x.Preds]
 |⟨x0,x1,x2,x3,x4,x5⟩=>by
  simp only[af,Qo,aJ,vaG,vaC]
  rfl
abbrev jC(x:ae):PVal:=.agg (af x)
theorem F9(x:ae):(af x).length=9:=by rw[bu];rfl
theorem bD(x:ae):bK (.agg (af x))=some (af x):=rfl
theorem eO(x:ae):bK (jC x)=some (af x):=rfl
theorem ey(x:ae):bK (.agg (af x))=some [.int .i64 x.Op,.str x.Name,sl af x.Args,sl cS x.Names,.int .i64 x.Pred.Op,.str x.Pred.Name,.int .i64 x.Pred.N,sl ac x.Pred.Kids,sl ac x.Preds]:=by rw[bu];rfl
theorem qbp(x:ae):∀q∈af x,q.one=true:=by
 intro q hq
 rw[bu]at hq
 simp only[vaw,vaH,or_false]at hq
 rcases hq with rfl|rfl|rfl|rfl|rfl|rfl|rfl|rfl|rfl<;>rfl
theorem qcw:Pg.cellsOf 38=9:=by kernel_rfl
theorem aV(x:ae):bm Pg 38 (af x)=some (.agg (af x)):=by
 have:=lJ (P:=Pg) (t:=38) (l:=af x) (r:=[]) (by kernel_rfl) (qcw.trans (F9 x).symm)
 rwa[va1]at this
theorem cU(x:ae)(r:List PVal):bm Pg 38 ([.int .i64 x.Op,.str x.Name,sl af x.Args,sl cS x.Names,.int .i64 x.Pred.Op,.str x.Pred.Name,.int .i64 x.Pred.N,sl ac x.Pred.Kids,sl ac x.Preds]++r)=some (.agg (af x)):=by
 rw[<-bu];exact lJ (by kernel_rfl) (qcw.trans (F9 x).symm)
theorem hX(x:ae):PVal.agg [.int .i64 x.Op,.str x.Name,sl af x.Args,sl cS x.Names,.int .i64 x.Pred.Op,.str x.Pred.Name,.int .i64 x.Pred.N,sl ac x.Pred.Kids,sl ac x.Preds]=.agg (af x):=by rw[bu]
theorem JH(x0:Int)(x1:ag):dw Pg 38 [(0,.int .i64 x0),(1,.str x1)]=some (.agg (af (⟨x0,x1,([]:List ae),([]:List ag),(⟨0,([]:ag),0,([]:List aa)⟩:aa),([]:List aa)⟩:ae))):=by
 simp only[bu]
 kernel_rfl
theorem JD(x0:Int)(x1:ag):rZ Pg 38 [(0,.int .i64 x0),(1,.str x1)] [(2,38),(3,9),(7,36),(8,36)]:=by
 exact⟨[.int .i64 x0,.str x1,.val gh,.val gh,.int .i64 0,.str ([]:ag),.int .i64 0,.val gh,.val gh],by kernel_rfl,(aI rfl (aI rfl (aI rfl (aI rfl trivial))))⟩
theorem H4(x0:Int)(x1:ag)(x3:(List ag))(x4:aa)(x5:(List aa)):dw Pg 38 [(0,.int .i64 x0),(1,.str x1),(3,sl cS x3),(4,.agg (ac x4)),(5,sl ac x5)]=some (.agg (af (⟨x0,x1,([]:List ae),x3,x4,x5⟩:ae))):=by
 simp only[bu,aJ]
 kernel_rfl
theorem H3(x0:Int)(x1:ag)(x3:(List ag))(x4:aa)(x5:(List aa)):rZ Pg 38 [(0,.int .i64 x0),(1,.str x1),(3,sl cS x3),(4,.agg (ac x4)),(5,sl ac x5)] [(2,38)]:=by
 simp only[aJ]
 exact⟨[.int .i64 x0,.str x1,.val gh,sl cS x3,.int .i64 x4.Op,.str x4.Name,.int .i64 x4.N,sl ac x4.Kids,sl ac x5],by kernel_rfl,(aI rfl trivial)⟩
theorem PM(x0:Int)(x1:ag)(x4:aa):dw Pg 38 [(0,.int .i64 x0),(1,.str x1),(4,.agg (ac x4))]=some (.agg (af (⟨x0,x1,([]:List ae),([]:List ag),x4,([]:List aa)⟩:ae))):=by
 simp only[bu,aJ]
 kernel_rfl
theorem PJ(x0:Int)(x1:ag)(x4:aa):rZ Pg 38 [(0,.int .i64 x0),(1,.str x1),(4,.agg (ac x4))] [(2,38),(3,9),(8,36)]:=by
 simp only[aJ]
 exact⟨[.int .i64 x0,.str x1,.val gh,.val gh,.int .i64 x4.Op,.str x4.Name,.int .i64 x4.N,sl ac x4.Kids,.val gh],by kernel_rfl,(aI rfl (aI rfl (aI rfl trivial)))⟩
theorem EL(x0:Int)(x3:(List ag))(x2:(List ae)):dw Pg 38 [(0,.int .i64 x0),(3,sl cS x3),(2,sl af x2)]=some (.agg (af (⟨x0,([]:ag),x2,x3,(⟨0,([]:ag),0,([]:List aa)⟩:aa),([]:List aa)⟩:ae))):=by
 simp only[bu]
 kernel_rfl
theorem EJ(x0:Int)(x3:(List ag))(x2:(List ae)):rZ Pg 38 [(0,.int .i64 x0),(3,sl cS x3),(2,sl af x2)] [(7,36),(8,36)]:=by
 exact⟨[.int .i64 x0,.str ([]:ag),sl af x2,sl cS x3,.int .i64 0,.str ([]:ag),.int .i64 0,.val gh,.val gh],by kernel_rfl,(aI rfl (aI rfl trivial))⟩
theorem UO(x0:Int)(x4:aa):dw Pg 38 [(0,.int .i64 x0),(4,.agg (ac x4))]=some (.agg (af (⟨x0,([]:ag),([]:List ae),([]:List ag),x4,([]:List aa)⟩:ae))):=by
 simp only[bu,aJ]
 kernel_rfl
theorem UM(x0:Int)(x4:aa):rZ Pg 38 [(0,.int .i64 x0),(4,.agg (ac x4))] [(2,38),(3,9),(8,36)]:=by
 simp only[aJ]
 exact⟨[.int .i64 x0,.str ([]:ag),.val gh,.val gh,.int .i64 x4.Op,.str x4.Name,.int .i64 x4.N,sl ac x4.Kids,.val gh],by kernel_rfl,(aI rfl (aI rfl (aI rfl trivial)))⟩
theorem Yr(x0:Int):dw Pg 38 [(0,.int .i64 x0)]=some (.agg (af (⟨x0,([]:ag),([]:List ae),([]:List ag),(⟨0,([]:ag),0,([]:List aa)⟩:aa),([]:List aa)⟩:ae))):=by
 simp only[bu]
 kernel_rfl
theorem Yp(x0:Int):rZ Pg 38 [(0,.int .i64 x0)] [(2,38),(3,9),(7,36),(8,36)]:=by
 exact⟨[.int .i64 x0,.str ([]:ag),.val gh,.val gh,.int .i64 0,.str ([]:ag),.int .i64 0,.val gh,.val gh],by kernel_rfl,(aI rfl (aI rfl (aI rfl (aI rfl trivial))))⟩
theorem Dg(x0:Int)(x1:ag)(b3 n3:Nat)(x4:aa)(x5:(List aa)):dw Pg 38 [(0,.int .i64 x0),(1,.str x1),(3,.bsl b3 0 n3),(4,.agg (ac x4)),(5,sl ac x5)]=some (.agg [.int .i64 x0,.str x1,sl af ([]:List ae),.bsl b3 0 n3,.int .i64 x4.Op,.str x4.Name,.int .i64 x4.N,sl ac x4.Kids,sl ac x5]):=by
 simp only[aJ]
 kernel_rfl
theorem De(x0:Int)(x1:ag)(b3 n3:Nat)(x4:aa)(x5:(List aa)):rZ Pg 38 [(0,.int .i64 x0),(1,.str x1),(3,.bsl b3 0 n3),(4,.agg (ac x4)),(5,sl ac x5)] [(2,38)]:=by
 simp only[aJ]
 exact⟨[.int .i64 x0,.str x1,.val gh,.bsl b3 0 n3,.int .i64 x4.Op,.str x4.Name,.int .i64 x4.N,sl ac x4.Kids,sl ac x5],by kernel_rfl,(aI rfl trivial)⟩
theorem aC(x:ae):aF Pg 38 (.eptr (af x)) 0=some (.eptr ((af x).drop 0)):=by rw[bu];kernel_rfl
theorem cq(x:ae):aF Pg 38 (.eptr (af x)) 1=some (.eptr ((af x).drop 1)):=by rw[bu];kernel_rfl
theorem aK(x:ae):aF Pg 38 (.eptr (af x)) 2=some (.eptr ((af x).drop 2)):=by rw[bu];kernel_rfl
theorem aO(x:ae):aF Pg 38 (.eptr (af x)) 3=some (.eptr ((af x).drop 3)):=by rw[bu];kernel_rfl
theorem dE(x:ae):aF Pg 38 (.eptr (af x)) 4=some (.eptr ((af x).drop 4)):=by rw[bu];kernel_rfl
theorem dq(x:ae):aF Pg 38 (.eptr (af x)) 5=some (.eptr ((af x).drop 8)):=by rw[bu];kernel_rfl
theorem aD(x:ae):bm Pg 30 ((af x).drop 0)=some (.int .i64 x.Op):=by rw[bu];kernel_rfl
theorem cP(x:ae):bm Pg 9 ((af x).drop 1)=some (.str x.Name):=by rw[bu];kernel_rfl
theorem aL(x:ae):bm Pg 31 ((af x).drop 2)=some (sl af x.Args):=by rw[bu];kernel_rfl
theorem aP(x:ae):bm Pg 32 ((af x).drop 3)=some (sl cS x.Names):=by rw[bu];kernel_rfl
theorem dF(x:ae):bm Pg 36 ((af x).drop 4)=some (.agg (ac x.Pred)):=by
 rw[bu,aJ];kernel_rfl
theorem dt(x:ae):bm Pg 34 ((af x).drop 8)=some (sl ac x.Preds):=by rw[bu];kernel_rfl
theorem To(x:ae)(r:List PVal):bm Pg 38 (af x++r)=some (.agg (af x)):=lJ (by kernel_rfl) (qcw.trans (F9 x).symm)
structure ee where
 Name:ag
 Names:(List ag)
 Fields:(List ae)
def ec(x:ee):List PVal:=[.str x.Name,sl cS x.Names,sl af x.Fields]
theorem U0(x:ee):ec x=[.str x.Name,sl cS x.Names,sl af x.Fields]:=rfl
theorem F1(x:ee):iy 0 (ec x):=(aI trivial (aI (aj dQ x.Names) (aI (aj ak x.Fields) trivial)))
theorem qc5(x:ee):(ec x).length=3:=by rw[U0];rfl
theorem qdj(x:ee):∀q∈ec x,q.one=true:=by
 intro q hq
 rw[U0]at hq
 simp only[vaw,vaH,or_false]at hq
 rcases hq with rfl|rfl|rfl<;>rfl
theorem qir:Pg.cellsOf 73=3:=by kernel_rfl
theorem U1(x:ee):aF Pg 73 (.eptr (ec x)) 1=some (.eptr ((ec x).drop 1)):=by kernel_rfl
theorem U2(x:ee):aF Pg 73 (.eptr (ec x)) 2=some (.eptr ((ec x).drop 2)):=by kernel_rfl
theorem Vk(x:ee):bm Pg 32 ((ec x).drop 1)=some (sl cS x.Names):=by kernel_rfl
theorem Vl(x:ee):bm Pg 31 ((ec x).drop 2)=some (sl af x.Fields):=by kernel_rfl
structure d8 where
 Name:ag
 Vars:(List ag)
 Preds:(List cG)
 Cons:(List ee)
def cH(x:d8):List PVal:=[.str x.Name,sl cS x.Vars,sl bH x.Preds,sl ec x.Cons]
theorem ui(x:d8):cH x=[.str x.Name,sl cS x.Vars,sl bH x.Preds,sl ec x.Cons]:=rfl
theorem ub(x:d8):iy 0 (cH x):=(aI trivial (aI (aj dQ x.Vars) (aI (aj lT x.Preds) (aI (aj F1 x.Cons) trivial))))
theorem LG(x:d8):(cH x).length=4:=by rw[ui];rfl
theorem AP(x:d8):bK (.agg (cH x))=some [.str x.Name,sl cS x.Vars,sl bH x.Preds,sl ec x.Cons]:=by rw[ui];rfl
theorem qbk(x:d8):∀q∈cH x,q.one=true:=by
 intro q hq
 rw[ui]at hq
 simp only[vaw,vaH,or_false]at hq
 rcases hq with rfl|rfl|rfl|rfl<;>rfl
theorem qeL:Pg.cellsOf 71=4:=by kernel_rfl
theorem Xe(x:d8):bm Pg 71 (cH x)=some (.agg (cH x)):=by
 have:=lJ (P:=Pg) (t:=71) (l:=cH x) (r:=[]) (by kernel_rfl) (qeL.trans (LG x).symm)
 rwa[va1]at this
theorem qa9(x:d8)(r:List PVal):bm Pg 71 ([.str x.Name,sl cS x.Vars,sl bH x.Preds,sl ec x.Cons]++r)=some (.agg (cH x)):=by
 rw[<-ui];exact lJ (by kernel_rfl) (qeL.trans (LG x).symm)
theorem Gj(x:d8):PVal.agg [.str x.Name,sl cS x.Vars,sl bH x.Preds,sl ec x.Cons]=.agg (cH x):=by rw[ui]
theorem PK:dw Pg 71 []=some (.agg (cH (⟨([]:ag),([]:List ag),([]:List cG),([]:List ee)⟩:d8))):=by
 kernel_rfl
theorem PH:rZ Pg 71 [] [(1,9),(2,102),(3,73)]:=by
 exact⟨[.str ([]:ag),.val gh,.val gh,.val gh],by kernel_rfl,(aI rfl (aI rfl (aI rfl trivial)))⟩
theorem Hb(x:d8):aF Pg 71 (.eptr (cH x)) 0=some (.eptr ((cH x).drop 0)):=by kernel_rfl
theorem Si(x:d8):aF Pg 71 (.eptr (cH x)) 1=some (.eptr ((cH x).drop 1)):=by kernel_rfl
theorem Sj(x:d8):aF Pg 71 (.eptr (cH x)) 2=some (.eptr ((cH x).drop 2)):=by kernel_rfl
theorem zV(x:d8):aF Pg 71 (.eptr (cH x)) 3=some (.eptr ((cH x).drop 3)):=by kernel_rfl
theorem J0(x:d8):bm Pg 9 ((cH x).drop 0)=some (.str x.Name):=by kernel_rfl
theorem Sx(x:d8):bm Pg 32 ((cH x).drop 1)=some (sl cS x.Vars):=by kernel_rfl
theorem Sy(x:d8):bm Pg 60 ((cH x).drop 2)=some (sl bH x.Preds):=by kernel_rfl
theorem z6(x:d8):bm Pg 69 ((cH x).drop 3)=some (sl ec x.Cons):=by kernel_rfl
structure tP where
 Name:ag
 Type_:ae
def ew(x:tP):List PVal:=[.str x.Name]++(af x.Type_)
theorem sS(x:tP):ew x=[.str x.Name,.int .i64 x.Type_.Op,.str x.Type_.Name,sl af x.Type_.Args,sl cS x.Type_.Names,.int .i64 x.Type_.Pred.Op,.str x.Type_.Pred.Name,.int .i64 x.Type_.Pred.N,sl ac x.Type_.Pred.Kids,sl ac x.Type_.Preds]:=by
 unfold ew
 simp only[bu,vaG,vaC]
theorem PP(x:tP):iy 0 (ew x):=by rw[sS];exact(aI trivial (aI trivial (aI trivial (aI (aj ak x.Type_.Args) (aI (aj dQ x.Type_.Names) (aI trivial (aI trivial (aI trivial (aI (aj ah x.Type_.Pred.Kids) (aI (aj ah x.Type_.Preds) trivial))))))))))
theorem W8(x:tP):(ew x).length=10:=by rw[sS];rfl
theorem Xn(x:tP):∀q∈ew x,q.one=true:=by
 intro q hq
 rw[sS]at hq
 simp only[vaw,vaH,or_false]at hq
 rcases hq with rfl|rfl|rfl|rfl|rfl|rfl|rfl|rfl|rfl|rfl<;>rfl
theorem qit:Pg.cellsOf 79=10:=by kernel_rfl
theorem NQ(x:tP):aF Pg 79 (.eptr (ew x)) 1=some (.eptr ((ew x).drop 1)):=by rw[sS];kernel_rfl
theorem NS(x:tP):bm Pg 38 ((ew x).drop 1)=some (.agg (af x.Type_)):=by
 rw[sS,bu];kernel_rfl
structure rV where
 Name:ag
 Var:ag
 Methods:(List tP)
def fC(x:rV):List PVal:=[.str x.Name,.str x.Var,sl ew x.Methods]
theorem Ly(x:rV):fC x=[.str x.Name,.str x.Var,sl ew x.Methods]:=rfl
theorem Lw(x:rV):iy 0 (fC x):=(aI trivial (aI trivial (aI (aj PP x.Methods) trivial)))
theorem YV(x:rV):(fC x).length=3:=by rw[Ly];rfl
theorem Y1(x:rV):∀q∈fC x,q.one=true:=by
 intro q hq
 rw[Ly]at hq
 simp only[vaw,vaH,or_false]at hq
 rcases hq with rfl|rfl|rfl<;>rfl
theorem qis:Pg.cellsOf 77=3:=by kernel_rfl
theorem EV(x:rV):aF Pg 77 (.eptr (fC x)) 2=some (.eptr ((fC x).drop 2)):=by kernel_rfl
theorem EZ(x:rV):bm Pg 75 ((fC x).drop 2)=some (sl ew x.Methods):=by kernel_rfl
structure Fw where
 Class:ag
 Var:ag
deriving DecidableEq
def iv(x:Fw):List PVal:=[.str x.Class,.str x.Var]
theorem P2(x:Fw):iv x=[.str x.Class,.str x.Var]:=rfl
theorem PQ(x:Fw):iy 0 (iv x):=(aI trivial (aI trivial trivial))
theorem qa7(x:Fw):(iv x).length=2:=by rw[P2];rfl
theorem qbm(x:Fw):∀q∈iv x,q.one=true:=by
 intro q hq
 rw[P2]at hq
 simp only[vaw,vaH,or_false]at hq
 rcases hq with rfl|rfl<;>rfl
theorem qfK:Pg.cellsOf 247=2:=by kernel_rfl
structure qc where
 Name:ag
 Type_:ae
def d5(x:qc):List PVal:=[.str x.Name]++(af x.Type_)
theorem qi(x:qc):d5 x=[.str x.Name,.int .i64 x.Type_.Op,.str x.Type_.Name,sl af x.Type_.Args,sl cS x.Type_.Names,.int .i64 x.Type_.Pred.Op,.str x.Type_.Pred.Name,.int .i64 x.Type_.Pred.N,sl ac x.Type_.Pred.Kids,sl ac x.Type_.Preds]:=by
 unfold d5
 simp only[bu,vaG,vaC]
theorem Lx(x:qc):iy 0 (d5 x):=by rw[qi];exact(aI trivial (aI trivial (aI trivial (aI (aj ak x.Type_.Args) (aI (aj dQ x.Type_.Names) (aI trivial (aI trivial (aI trivial (aI (aj ah x.Type_.Pred.Kids) (aI (aj ah x.Type_.Preds) trivial))))))))))
theorem YW(x:qc):(d5 x).length=10:=by rw[qi];rfl
theorem Y2(x:qc):∀q∈d5 x,q.one=true:=by
 intro q hq
 rw[qi]at hq
 simp only[vaw,vaH,or_false]at hq
 rcases hq with rfl|rfl|rfl|rfl|rfl|rfl|rfl|rfl|rfl|rfl<;>rfl
theorem qfH:Pg.cellsOf 125=10:=by kernel_rfl
theorem C0(x:qc):aF Pg 125 (.eptr (d5 x)) 0=some (.eptr ((d5 x).drop 0)):=by rw[qi];kernel_rfl
theorem C1(x:qc):aF Pg 125 (.eptr (d5 x)) 1=some (.eptr ((d5 x).drop 1)):=by rw[qi];kernel_rfl
theorem Hh(x:qc):bm Pg 9 ((d5 x).drop 0)=some (.str x.Name):=by rw[qi];kernel_rfl
theorem E0(x:qc):bm Pg 38 ((d5 x).drop 1)=some (.agg (af x.Type_)):=by
 rw[qi,bu];kernel_rfl
mutual
inductive bX where
 |mk (Op:Int) (Name:ag) (N:Int) (Kids:(List bX)) (Params:(List qc)) (Alts:(List uw)) (Types:(List ae))
inductive uw where
 |mk (Con:ag) (Names:(List ag)) (Body:bX)
end
def bX.Op:bX->Int
 |⟨x,_,_,_,_,_,_⟩=>x
def bX.Name:bX->ag
 |⟨_,x,_,_,_,_,_⟩=>x
def bX.N:bX->Int
 |⟨_,_,x,_,_,_,_⟩=>x
def bX.Kids:bX->(List bX)
 |⟨_,_,_,x,_,_,_⟩=>x
def bX.Params:bX->(List qc)
 |⟨_,_,_,_,x,_,_⟩=>x
def bX.Alts:bX->(List uw)
 |⟨_,_,_,_,_,x,_⟩=>x
def bX.Types:bX->(List ae)
 |⟨_,_,_,_,_,_,x⟩=>x
def uw.Con:uw->ag
 |⟨x,_,_⟩=>x
def uw.Names:uw->(List ag)
 |⟨_,x,_⟩=>x
def uw.Body:uw->bX
 |⟨_,_,x⟩=>x
mutual
def aZ:bX->List PVal
 |⟨x0,x1,x2,x3,x4,x5,x6⟩=>[.int .i64 x0,.str x1,.int .i64 x2,.slice (y0 x3),sl d5 x4,.slice (EY x5),sl af x6]
def fo:uw->List PVal
 |⟨x0,x1,x2⟩=>[.str x0,sl cS x1]++(aZ x2)
def y0:List bX->List (List PVal)
 |[]=>[]
 |x::r=>aZ x::y0 r
def EY:List uw->List (List PVal)
 |[]=>[]
 |x::r=>fo x::EY r
end
theorem Qm:∀(l:List bX),y0 l=l.map aZ
 |[]=>by simp[y0]
 |x::r=>by simp[y0,Qm r]
theorem Tm:∀(l:List uw),EY l=l.map fo
 |[]=>by simp[EY]
 |x::r=>by simp[EY,Tm r]
mutual
theorem AD:∀(x:bX),iy 0 (aZ x)
 |⟨x0,x1,x2,x3,x4,x5,x6⟩=>by rw[aZ];exact(aI trivial (aI trivial (aI trivial (aI (S6 x3) (aI (aj Lx x4) (aI (WO x5) (aI (aj ak x6) trivial)))))))
theorem UT:∀(x:uw),iy 0 (fo x)
 |⟨x0,x1,x2⟩=>by rw[fo];exact sQ.2 (aI ((aI trivial (aI (aj dQ x1) trivial))) (AD x2))
theorem S6:∀(l:List bX),vX 0 (y0 l)
 |[]=>by simp[y0,vX]
 |x::r=>by rw[y0];exact⟨AD x,S6 r⟩
theorem WO:∀(l:List uw),vX 0 (EY l)
 |[]=>by simp[EY,vX]
 |x::r=>by rw[EY];exact⟨UT x,WO r⟩
end
theorem ef:∀(x:bX),aZ x=[.int .i64 x.Op,.str x.Name,.int .i64 x.N,sl aZ x.Kids,sl d5 x.Params,sl fo x.Alts,sl af x.Types]
 |⟨x0,x1,x2,x3,x4,x5,x6⟩=>by
  simp only[aZ,Qm,Tm]
  rfl
theorem Tn(x:bX):(aZ x).length=7:=by rw[ef];rfl
theorem Xs(x:bX):bK (.agg (aZ x))=some (aZ x):=rfl
theorem qbl(x:bX):∀q∈aZ x,q.one=true:=by
 intro q hq
 rw[ef]at hq
 simp only[vaw,vaH,or_false]at hq
 rcases hq with rfl|rfl|rfl|rfl|rfl|rfl|rfl<;>rfl
theorem qgK:Pg.cellsOf 97=7:=by kernel_rfl
theorem qfI:Pg.cellsOf 127=9:=by kernel_rfl
theorem Xf(x:bX):bm Pg 97 (aZ x)=some (.agg (aZ x)):=by
 have:=lJ (P:=Pg) (t:=97) (l:=aZ x) (r:=[]) (by kernel_rfl) (qgK.trans (Tn x).symm)
 rwa[va1]at this
theorem Yq(x6:(List ae)):dw Pg 97 [(6,sl af x6)]=some (.agg (aZ (⟨0,([]:ag),0,([]:List bX),([]:List qc),([]:List uw),x6⟩:bX))):=by
 simp only[ef]
 kernel_rfl
theorem Yo(x6:(List ae)):rZ Pg 97 [(6,sl af x6)] [(3,97),(4,125),(5,127)]:=by
 exact⟨[.int .i64 0,.str ([]:ag),.int .i64 0,.val gh,.val gh,.val gh,sl af x6],by kernel_rfl,(aI rfl (aI rfl (aI rfl trivial)))⟩
theorem Hd(x:bX):aF Pg 97 (.eptr (aZ x)) 1=some (.eptr ((aZ x).drop 1)):=by rw[ef];kernel_rfl
theorem tG(x:bX):aF Pg 97 (.eptr (aZ x)) 3=some (.eptr ((aZ x).drop 3)):=by rw[ef];kernel_rfl
theorem lD(x:bX):aF Pg 97 (.eptr (aZ x)) 4=some (.eptr ((aZ x).drop 4)):=by rw[ef];kernel_rfl
theorem ji(x:bX):aF Pg 97 (.eptr (aZ x)) 5=some (.eptr ((aZ x).drop 5)):=by rw[ef];kernel_rfl
theorem He(x:bX):aF Pg 97 (.eptr (aZ x)) 6=some (.eptr ((aZ x).drop 6)):=by rw[ef];kernel_rfl
theorem J1(x:bX):bm Pg 9 ((aZ x).drop 1)=some (.str x.Name):=by rw[ef];kernel_rfl
theorem tJ(x:bX):bm Pg 93 ((aZ x).drop 3)=some (sl aZ x.Kids):=by rw[ef];kernel_rfl
theorem lF(x:bX):bm Pg 94 ((aZ x).drop 4)=some (sl d5 x.Params):=by rw[ef];kernel_rfl
theorem jk(x:bX):bm Pg 95 ((aZ x).drop 5)=some (sl fo x.Alts):=by rw[ef];kernel_rfl
theorem Hg(x:bX):bm Pg 31 ((aZ x).drop 6)=some (sl af x.Types):=by rw[ef];kernel_rfl
theorem tE:∀(x:uw),fo x=[.str x.Con,sl cS x.Names,.int .i64 x.Body.Op,.str x.Body.Name,.int .i64 x.Body.N,sl aZ x.Body.Kids,sl d5 x.Body.Params,sl fo x.Body.Alts,sl af x.Body.Types]
 |⟨x0,x1,x2⟩=>by
  simp only[fo,ef,vaG,vaC]
  rfl
theorem qc4(x:uw):(fo x).length=9:=by rw[tE];rfl
theorem qdi(x:uw):∀q∈fo x,q.one=true:=by
 intro q hq
 rw[tE]at hq
 simp only[vaw,vaH,or_false]at hq
 rcases hq with rfl|rfl|rfl|rfl|rfl|rfl|rfl|rfl|rfl<;>rfl
theorem Se(x:uw):aF Pg 127 (.eptr (fo x)) 0=some (.eptr ((fo x).drop 0)):=by rw[tE];kernel_rfl
theorem G9(x:uw):aF Pg 127 (.eptr (fo x)) 1=some (.eptr ((fo x).drop 1)):=by rw[tE];kernel_rfl
theorem Ha(x:uw):aF Pg 127 (.eptr (fo x)) 2=some (.eptr ((fo x).drop 2)):=by rw[tE];kernel_rfl
theorem Xb(x:uw):bm Pg 9 ((fo x).drop 0)=some (.str x.Con):=by rw[tE];kernel_rfl
theorem JY(x:uw):bm Pg 32 ((fo x).drop 1)=some (sl cS x.Names):=by rw[tE];kernel_rfl
theorem JZ(x:uw):bm Pg 97 ((fo x).drop 2)=some (.agg (aZ x.Body)):=by
 rw[tE,ef];kernel_rfl
structure SL where
 Name:ag
 Sort_:ag
deriving DecidableEq
def pR(x:SL):List PVal:=[.str x.Name,.str x.Sort_]
theorem UZ(x:SL):pR x=[.str x.Name,.str x.Sort_]:=rfl
theorem ZG(x:SL):iy 0 (pR x):=(aI trivial (aI trivial trivial))
theorem qc3(x:SL):(pR x).length=2:=by rw[UZ];rfl
theorem qdh(x:SL):∀q∈pR x,q.one=true:=by
 intro q hq
 rw[UZ]at hq
 simp only[vaw,vaH,or_false]at hq
 rcases hq with rfl|rfl<;>rfl
theorem qfL:Pg.cellsOf 248=2:=by kernel_rfl
structure ng where
 Name:ag
 Vars:(List cG)
 Hyp:aa
 Goal:aa
def db(x:ng):List PVal:=[.str x.Name,sl bH x.Vars]++(ac x.Hyp++(ac x.Goal))
theorem lC(x:ng):db x=[.str x.Name,sl bH x.Vars,.int .i64 x.Hyp.Op,.str x.Hyp.Name,.int .i64 x.Hyp.N,sl ac x.Hyp.Kids,.int .i64 x.Goal.Op,.str x.Goal.Name,.int .i64 x.Goal.N,sl ac x.Goal.Kids]:=by
 unfold db
 simp only[aJ,vaG,vaC]
theorem S4(x:ng):iy 0 (db x):=by rw[lC];exact(aI trivial (aI (aj lT x.Vars) (aI trivial (aI trivial (aI trivial (aI (aj ah x.Hyp.Kids) (aI trivial (aI trivial (aI trivial (aI (aj ah x.Goal.Kids) trivial))))))))))
theorem YU(x:ng):(db x).length=10:=by rw[lC];rfl
theorem Y0(x:ng):∀q∈db x,q.one=true:=by
 intro q hq
 rw[lC]at hq
 simp only[vaw,vaH,or_false]at hq
 rcases hq with rfl|rfl|rfl|rfl|rfl|rfl|rfl|rfl|rfl|rfl<;>rfl
theorem qfG:Pg.cellsOf 124=10:=by kernel_rfl
theorem NM(x:ng):aF Pg 124 (.eptr (db x)) 1=some (.eptr ((db x).drop 1)):=by rw[lC];kernel_rfl
theorem NN(x:ng):aF Pg 124 (.eptr (db x)) 2=some (.eptr ((db x).drop 2)):=by rw[lC];kernel_rfl
theorem NO(x:ng):aF Pg 124 (.eptr (db x)) 3=some (.eptr ((db x).drop 6)):=by rw[lC];kernel_rfl
theorem Qq(x:ng):bm Pg 60 ((db x).drop 1)=some (sl bH x.Vars):=by rw[lC];kernel_rfl
theorem Qr(x:ng):bm Pg 36 ((db x).drop 2)=some (.agg (ac x.Hyp)):=by
 rw[lC,aJ];kernel_rfl
theorem Qs(x:ng):bm Pg 36 ((db x).drop 6)=some (.agg (ac x.Goal)):=by
 rw[lC,aJ];kernel_rfl
structure qbT where
 Vars:(List ag)
 Needs:(List Fw)
 Abs:(List SL)
 Bounds:(List ng)
 Type_:ae
 Metric:(List aa)
def Cf(x:qbT):List PVal:=[sl cS x.Vars,sl iv x.Needs,sl pR x.Abs,sl db x.Bounds]++(af x.Type_++([sl ac x.Metric]))
theorem JL(x:qbT):Cf x=[sl cS x.Vars,sl iv x.Needs,sl pR x.Abs,sl db x.Bounds,.int .i64 x.Type_.Op,.str x.Type_.Name,sl af x.Type_.Args,sl cS x.Type_.Names,.int .i64 x.Type_.Pred.Op,.str x.Type_.Pred.Name,.int .i64 x.Type_.Pred.N,sl ac x.Type_.Pred.Kids,sl ac x.Type_.Preds,sl ac x.Metric]:=by
 unfold Cf
 simp only[bu,vaG,vaC]
theorem qdr(x:qbT):bK (.agg (Cf x))=some [sl cS x.Vars,sl iv x.Needs,sl pR x.Abs,sl db x.Bounds,.int .i64 x.Type_.Op,.str x.Type_.Name,sl af x.Type_.Args,sl cS x.Type_.Names,.int .i64 x.Type_.Pred.Op,.str x.Type_.Pred.Name,.int .i64 x.Type_.Pred.N,sl ac x.Type_.Pred.Kids,sl ac x.Type_.Preds,sl ac x.Metric]:=by rw[JL];rfl
structure sd where
 Name:ag
 Params:(List ag)
 Body:bX
 Mode:Int
 Typed:Bool
 Sig:qbT
def dG(x:sd):List PVal:=[.str x.Name,sl cS x.Params]++(aZ x.Body++([.int .i64 x.Mode,.bool x.Typed]++(Cf x.Sig)))
theorem pC(x:sd):dG x=[.str x.Name,sl cS x.Params,.int .i64 x.Body.Op,.str x.Body.Name,.int .i64 x.Body.N,sl aZ x.Body.Kids,sl d5 x.Body.Params,sl fo x.Body.Alts,sl af x.Body.Types,.int .i64 x.Mode,.bool x.Typed,sl cS x.Sig.Vars,sl iv x.Sig.Needs,sl pR x.Sig.Abs,sl db x.Sig.Bounds,.int .i64 x.Sig.Type_.Op,.str x.Sig.Type_.Name,sl af x.Sig.Type_.Args,sl cS x.Sig.Type_.Names,.int .i64 x.Sig.Type_.Pred.Op,.str x.Sig.Type_.Pred.Name,.int .i64 x.Sig.Type_.Pred.N,sl ac x.Sig.Type_.Pred.Kids,sl ac x.Sig.Type_.Preds,sl ac x.Sig.Metric]:=by
 unfold dG
 simp only[ef,JL,vaG,vaC]
theorem F2(x:sd):iy 0 (dG x):=by rw[pC];exact(aI trivial (aI (aj dQ x.Params) (aI trivial (aI trivial (aI trivial (aI (aj AD x.Body.Kids) (aI (aj Lx x.Body.Params) (aI (aj UT x.Body.Alts) (aI (aj ak x.Body.Types) (aI trivial (aI trivial (aI (aj dQ x.Sig.Vars) (aI (aj PQ x.Sig.Needs) (aI (aj ZG x.Sig.Abs) (aI (aj S4 x.Sig.Bounds) (aI trivial (aI trivial (aI (aj ak x.Sig.Type_.Args) (aI (aj dQ x.Sig.Type_.Names) (aI trivial (aI trivial (aI trivial (aI (aj ah x.Sig.Type_.Pred.Kids) (aI (aj ah x.Sig.Type_.Preds) (aI (aj ah x.Sig.Metric) trivial)))))))))))))))))))))))))
theorem qc6(x:sd):(dG x).length=25:=by rw[pC];rfl
theorem qdk(x:sd):∀q∈dG x,q.one=true:=by
 intro q hq
 rw[pC]at hq
 simp only[vaw,vaH,or_false]at hq
 rcases hq with rfl|rfl|rfl|rfl|rfl|rfl|rfl|rfl|rfl|rfl|rfl|rfl|rfl|rfl|rfl|rfl|rfl|rfl|rfl|rfl|rfl|rfl|rfl|rfl|rfl<;>rfl
theorem qfF:Pg.cellsOf 122=25:=by kernel_rfl
theorem Sk(x:sd):aF Pg 122 (.eptr (dG x)) 0=some (.eptr ((dG x).drop 0)):=by rw[pC];kernel_rfl
theorem Sl(x:sd):aF Pg 122 (.eptr (dG x)) 1=some (.eptr ((dG x).drop 1)):=by rw[pC];kernel_rfl
theorem Sm(x:sd):aF Pg 122 (.eptr (dG x)) 2=some (.eptr ((dG x).drop 2)):=by rw[pC];kernel_rfl
theorem Sn(x:sd):aF Pg 122 (.eptr (dG x)) 5=some (.eptr ((dG x).drop 11)):=by rw[pC];kernel_rfl
theorem Xc(x:sd):bm Pg 9 ((dG x).drop 0)=some (.str x.Name):=by rw[pC];kernel_rfl
theorem Vm(x:sd):bm Pg 32 ((dG x).drop 1)=some (sl cS x.Params):=by rw[pC];kernel_rfl
theorem Qu(x:sd):bm Pg 120 ((dG x).drop 11)=some (.agg (Cf x.Sig)):=by
 rw[pC,JL];kernel_rfl
theorem Vn(x:sd):bm Pg 97 ((dG x).drop 2)=some (.agg (aZ x.Body)):=by
 rw[pC,ef];kernel_rfl
structure eA where
 Class:ag
 Type_:ae
 Needs:(List Fw)
 Defs:(List sd)
def ca(x:eA):List PVal:=[.str x.Class]++(af x.Type_++([sl iv x.Needs,sl dG x.Defs]))
theorem fQ(x:eA):ca x=[.str x.Class,.int .i64 x.Type_.Op,.str x.Type_.Name,sl af x.Type_.Args,sl cS x.Type_.Names,.int .i64 x.Type_.Pred.Op,.str x.Type_.Pred.Name,.int .i64 x.Type_.Pred.N,sl ac x.Type_.Pred.Kids,sl ac x.Type_.Preds,sl iv x.Needs,sl dG x.Defs]:=by
 unfold ca
 simp only[bu,vaG,vaC]
theorem Cg(x:eA):iy 0 (ca x):=by rw[fQ];exact(aI trivial (aI trivial (aI trivial (aI (aj ak x.Type_.Args) (aI (aj dQ x.Type_.Names) (aI trivial (aI trivial (aI trivial (aI (aj ah x.Type_.Pred.Kids) (aI (aj ah x.Type_.Preds) (aI (aj PQ x.Needs) (aI (aj F2 x.Defs) trivial))))))))))))
theorem Su(x:eA):(ca x).length=12:=by rw[fQ];rfl
theorem SC(x:eA):∀q∈ca x,q.one=true:=by
 intro q hq
 rw[fQ]at hq
 simp only[vaw,vaH,or_false]at hq
 rcases hq with rfl|rfl|rfl|rfl|rfl|rfl|rfl|rfl|rfl|rfl|rfl|rfl<;>rfl
theorem qiu:Pg.cellsOf 82=12:=by kernel_rfl
theorem JM(x:eA):aF Pg 82 (.eptr (ca x)) 1=some (.eptr ((ca x).drop 1)):=by rw[fQ];kernel_rfl
theorem JN(x:eA):aF Pg 82 (.eptr (ca x)) 2=some (.eptr ((ca x).drop 10)):=by rw[fQ];kernel_rfl
theorem JO(x:eA):aF Pg 82 (.eptr (ca x)) 3=some (.eptr ((ca x).drop 11)):=by rw[fQ];kernel_rfl
theorem J2(x:eA):bm Pg 38 ((ca x).drop 1)=some (.agg (af x.Type_)):=by
 rw[fQ,bu];kernel_rfl
theorem Ii(x:eA):bm Pg 80 ((ca x).drop 10)=some (sl iv x.Needs):=by rw[fQ];kernel_rfl
theorem Ij(x:eA):bm Pg 27 ((ca x).drop 11)=some (sl dG x.Defs):=by rw[fQ];kernel_rfl
structure C7 where
 Con:ag
 Names:(List ag)
 Body:aa
def fP(x:C7):List PVal:=[.str x.Con,sl cS x.Names]++(ac x.Body)
theorem uh(x:C7):fP x=[.str x.Con,sl cS x.Names,.int .i64 x.Body.Op,.str x.Body.Name,.int .i64 x.Body.N,sl ac x.Body.Kids]:=by
 unfold fP
 simp only[aJ,vaG,vaC]
theorem WN(x:C7):iy 0 (fP x):=by rw[uh];exact(aI trivial (aI (aj dQ x.Names) (aI trivial (aI trivial (aI trivial (aI (aj ah x.Body.Kids) trivial))))))
theorem qa6(x:C7):(fP x).length=6:=by rw[uh];rfl
theorem qbi(x:C7):∀q∈fP x,q.one=true:=by
 intro q hq
 rw[uh]at hq
 simp only[vaw,vaH,or_false]at hq
 rcases hq with rfl|rfl|rfl|rfl|rfl|rfl<;>rfl
theorem qiw:Pg.cellsOf 88=6:=by kernel_rfl
theorem Sf(x:C7):aF Pg 88 (.eptr (fP x)) 1=some (.eptr ((fP x).drop 1)):=by rw[uh];kernel_rfl
theorem Sg(x:C7):aF Pg 88 (.eptr (fP x)) 2=some (.eptr ((fP x).drop 2)):=by rw[uh];kernel_rfl
theorem Sv(x:C7):bm Pg 32 ((fP x).drop 1)=some (sl cS x.Names):=by rw[uh];kernel_rfl
theorem Sw(x:C7):bm Pg 36 ((fP x).drop 2)=some (.agg (ac x.Body)):=by
 rw[uh,aJ];kernel_rfl
structure gP where
 Name:ag
 Data:ag
 Result:ag
 Cases:(List C7)
 Inv:aa
def dc(x:gP):List PVal:=[.str x.Name,.str x.Data,.str x.Result,sl fP x.Cases]++(ac x.Inv)
theorem j7(x:gP):dc x=[.str x.Name,.str x.Data,.str x.Result,sl fP x.Cases,.int .i64 x.Inv.Op,.str x.Inv.Name,.int .i64 x.Inv.N,sl ac x.Inv.Kids]:=by
 unfold dc
 simp only[aJ,vaG,vaC]
theorem EO(x:gP):iy 0 (dc x):=by rw[j7];exact(aI trivial (aI trivial (aI trivial (aI (aj WN x.Cases) (aI trivial (aI trivial (aI trivial (aI (aj ah x.Inv.Kids) trivial))))))))
theorem Vj(x:gP):(dc x).length=8:=by rw[j7];rfl
theorem Vu(x:gP):∀q∈dc x,q.one=true:=by
 intro q hq
 rw[j7]at hq
 simp only[vaw,vaH,or_false]at hq
 rcases hq with rfl|rfl|rfl|rfl|rfl|rfl|rfl|rfl<;>rfl
theorem qiv:Pg.cellsOf 86=8:=by kernel_rfl
theorem sT(x:gP):aF Pg 86 (.eptr (dc x)) 3=some (.eptr ((dc x).drop 3)):=by rw[j7];kernel_rfl
theorem Lz(x:gP):aF Pg 86 (.eptr (dc x)) 4=some (.eptr ((dc x).drop 4)):=by rw[j7];kernel_rfl
theorem sU(x:gP):bm Pg 84 ((dc x).drop 3)=some (sl fP x.Cases):=by rw[j7];kernel_rfl
theorem LJ(x:gP):bm Pg 36 ((dc x).drop 4)=some (.agg (ac x.Inv)):=by
 rw[j7,aJ];kernel_rfl
structure vD where
 Name:ag
 Vars:(List cG)
 Body:aa
def fw(x:vD):List PVal:=[.str x.Name,sl bH x.Vars]++(ac x.Body)
theorem uj(x:vD):fw x=[.str x.Name,sl bH x.Vars,.int .i64 x.Body.Op,.str x.Body.Name,.int .i64 x.Body.N,sl ac x.Body.Kids]:=by
 unfold fw
 simp only[aJ,vaG,vaC]
theorem PR(x:vD):iy 0 (fw x):=by rw[uj];exact(aI trivial (aI (aj lT x.Vars) (aI trivial (aI trivial (aI trivial (aI (aj ah x.Body.Kids) trivial))))))
theorem qa8(x:vD):(fw x).length=6:=by rw[uj];rfl
theorem qbo(x:vD):∀q∈fw x,q.one=true:=by
 intro q hq
 rw[uj]at hq
 simp only[vaw,vaH,or_false]at hq
 rcases hq with rfl|rfl|rfl|rfl|rfl|rfl<;>rfl
theorem qix:Pg.cellsOf 90=6:=by kernel_rfl
theorem So(x:vD):aF Pg 90 (.eptr (fw x)) 1=some (.eptr ((fw x).drop 1)):=by rw[uj];kernel_rfl
theorem Sp(x:vD):aF Pg 90 (.eptr (fw x)) 2=some (.eptr ((fw x).drop 2)):=by rw[uj];kernel_rfl
theorem Sz(x:vD):bm Pg 60 ((fw x).drop 1)=some (sl bH x.Vars):=by rw[uj];kernel_rfl
theorem SA(x:vD):bm Pg 36 ((fw x).drop 2)=some (.agg (ac x.Body)):=by
 rw[uj,aJ];kernel_rfl
structure aH where
 Datas:(List d8)
 Classes:(List rV)
 Instances:(List eA)
 Measures:(List gP)
 Quals:(List vD)
 Defs:(List sd)
def aB(x:aH):List PVal:=[sl cH x.Datas,sl fC x.Classes,sl ca x.Instances,sl dc x.Measures,sl fw x.Quals,sl dG x.Defs]
theorem xJ(x:aH):aB x=[sl cH x.Datas,sl fC x.Classes,sl ca x.Instances,sl dc x.Measures,sl fw x.Quals,sl dG x.Defs]:=rfl
theorem de(x:aH):iy 0 (aB x):=(aI (aj ub x.Datas) (aI (aj Lw x.Classes) (aI (aj Cg x.Instances) (aI (aj EO x.Measures) (aI (aj PR x.Quals) (aI (aj F2 x.Defs) trivial))))))
theorem W9(x:aH):(aB x).length=6:=by rw[xJ];rfl
theorem jm(x:aH):bK (.agg (aB x))=some (aB x):=rfl
theorem qkb:Pg.cellsOf 29=6:=by kernel_rfl
theorem jl(x:aH):bm Pg 29 (aB x)=some (.agg (aB x)):=by
 have:=lJ (P:=Pg) (t:=29) (l:=aB x) (r:=[]) (by kernel_rfl) (qkb.trans (W9 x).symm)
 rwa[va1]at this
theorem Ce:dw Pg 29 []=some (.agg (aB (⟨([]:List d8),([]:List rV),([]:List eA),([]:List gP),([]:List vD),([]:List sd)⟩:aH))):=by
 kernel_rfl
theorem Cc:rZ Pg 29 [] [(0,71),(1,77),(2,82),(3,86),(4,90),(5,122)]:=by
 exact⟨[.val gh,.val gh,.val gh,.val gh,.val gh,.val gh],by kernel_rfl,(aI rfl (aI rfl (aI rfl (aI rfl (aI rfl (aI rfl trivial))))))⟩
theorem dh(x:aH):aF Pg 29 (.eptr (aB x)) 0=some (.eptr ((aB x).drop 0)):=by kernel_rfl
theorem pD(x:aH):aF Pg 29 (.eptr (aB x)) 1=some (.eptr ((aB x).drop 1)):=by kernel_rfl
theorem kI(x:aH):aF Pg 29 (.eptr (aB x)) 2=some (.eptr ((aB x).drop 2)):=by kernel_rfl
theorem iJ(x:aH):aF Pg 29 (.eptr (aB x)) 3=some (.eptr ((aB x).drop 3)):=by kernel_rfl
theorem pE(x:aH):aF Pg 29 (.eptr (aB x)) 4=some (.eptr ((aB x).drop 4)):=by kernel_rfl
theorem CZ(x:aH):aF Pg 29 (.eptr (aB x)) 5=some (.eptr ((aB x).drop 5)):=by kernel_rfl
theorem di(x:aH):bm Pg 22 ((aB x).drop 0)=some (sl cH x.Datas):=by kernel_rfl
theorem pH(x:aH):bm Pg 23 ((aB x).drop 1)=some (sl fC x.Classes):=by kernel_rfl
theorem kO(x:aH):bm Pg 24 ((aB x).drop 2)=some (sl ca x.Instances):=by kernel_rfl
theorem iK(x:aH):bm Pg 25 ((aB x).drop 3)=some (sl dc x.Measures):=by kernel_rfl
theorem pI(x:aH):bm Pg 26 ((aB x).drop 4)=some (sl fw x.Quals):=by kernel_rfl
theorem C3(x:aH):bm Pg 27 ((aB x).drop 5)=some (sl dG x.Defs):=by kernel_rfl
structure aQ where
 A:ae
 B:ae
 Tag:Int
def aE(x:aQ):List PVal:=af x.A++(af x.B++([.int .i64 x.Tag]))
theorem co(x:aQ):aE x=[.int .i64 x.A.Op,.str x.A.Name,sl af x.A.Args,sl cS x.A.Names,.int .i64 x.A.Pred.Op,.str x.A.Pred.Name,.int .i64 x.A.Pred.N,sl ac x.A.Pred.Kids,sl ac x.A.Preds,.int .i64 x.B.Op,.str x.B.Name,sl af x.B.Args,sl cS x.B.Names,.int .i64 x.B.Pred.Op,.str x.B.Pred.Name,.int .i64 x.B.Pred.N,sl ac x.B.Pred.Kids,sl ac x.B.Preds,.int .i64 x.Tag]:=by
 unfold aE
 simp only[bu,vaG,vaC]
theorem dR(x:aQ):iy 0 (aE x):=by rw[co];exact(aI trivial (aI trivial (aI (aj ak x.A.Args) (aI (aj dQ x.A.Names) (aI trivial (aI trivial (aI trivial (aI (aj ah x.A.Pred.Kids) (aI (aj ah x.A.Preds) (aI trivial (aI trivial (aI (aj ak x.B.Args) (aI (aj dQ x.B.Names) (aI trivial (aI trivial (aI trivial (aI (aj ah x.B.Pred.Kids) (aI (aj ah x.B.Preds) (aI trivial trivial)))))))))))))))))))
theorem yi(x:aQ):(aE x).length=19:=by rw[co];rfl
theorem pn(x:aQ):bK (.agg (aE x))=some (aE x):=rfl
theorem qkc:Pg.cellsOf 40=19:=by kernel_rfl
theorem z7(x:aQ):bm Pg 40 (aE x)=some (.agg (aE x)):=by
 have:=lJ (P:=Pg) (t:=40) (l:=aE x) (r:=[]) (by kernel_rfl) (qkc.trans (yi x).symm)
 rwa[va1]at this
theorem ek(x:aQ):aF Pg 40 (.eptr (aE x)) 0=some (.eptr ((aE x).drop 0)):=by rw[co];kernel_rfl
theorem eo(x:aQ):aF Pg 40 (.eptr (aE x)) 1=some (.eptr ((aE x).drop 9)):=by rw[co];kernel_rfl
theorem j8(x:aQ):aF Pg 40 (.eptr (aE x)) 2=some (.eptr ((aE x).drop 18)):=by rw[co];kernel_rfl
theorem er(x:aQ):bm Pg 38 ((aE x).drop 0)=some (.agg (af x.A)):=by
 rw[co,bu];kernel_rfl
theorem ka(x:aQ):bm Pg 3 ((aE x).drop 18)=some (.int .i64 x.Tag):=by rw[co];kernel_rfl
theorem eu(x:aQ):bm Pg 38 ((aE x).drop 9)=some (.agg (af x.B)):=by
 rw[co,bu];kernel_rfl
inductive ai where
 |mk (Op:Int) (Name:ag) (Sort_:ag) (Pred:aa) (Tag:Int) (Kids:(List ai))
def ai.Op:ai->Int
 |⟨x,_,_,_,_,_⟩=>x
def ai.Name:ai->ag
 |⟨_,x,_,_,_,_⟩=>x
def ai.Sort_:ai->ag
 |⟨_,_,x,_,_,_⟩=>x
def ai.Pred:ai->aa
 |⟨_,_,_,x,_,_⟩=>x
def ai.Tag:ai->Int
 |⟨_,_,_,_,x,_⟩=>x
def ai.Kids:ai->(List ai)
 |⟨_,_,_,_,_,x⟩=>x
mutual
def aw:ai->List PVal
 |⟨x0,x1,x2,x3,x4,x5⟩=>[.int .i64 x0,.str x1,.str x2]++(ac x3++([.int .i64 x4,.slice (yZ x5)]))
def yZ:List ai->List (List PVal)
 |[]=>[]
 |x::r=>aw x::yZ r
end
theorem Ql:∀(l:List ai),yZ l=l.map aw
 |[]=>by simp[yZ]
 |x::r=>by simp[yZ,Ql r]
mutual
theorem ba:∀(x:ai),iy 0 (aw x)
 |⟨x0,x1,x2,x3,x4,x5⟩=>by rw[aw];exact sQ.2 (aI ((aI trivial (aI trivial (aI trivial trivial)))) (sQ.2 (aI (ah x3) ((aI trivial (aI (S5 x5) trivial))))))
theorem S5:∀(l:List ai),vX 0 (yZ l)
 |[]=>by simp[yZ,vX]
 |x::r=>by rw[yZ];exact⟨ba x,S5 r⟩
end
theorem cb:∀(x:ai),aw x=[.int .i64 x.Op,.str x.Name,.str x.Sort_,.int .i64 x.Pred.Op,.str x.Pred.Name,.int .i64 x.Pred.N,sl ac x.Pred.Kids,.int .i64 x.Tag,sl aw x.Kids]
 |⟨x0,x1,x2,x3,x4,x5⟩=>by
  simp only[aw,Ql,aJ,vaG,vaC]
  rfl
abbrev lZ(x:ai):PVal:=.agg (aw x)
theorem LF(x:ai):(aw x).length=9:=by rw[cb];rfl
theorem rz(x:ai):bK (.agg (aw x))=some (aw x):=rfl
theorem g9(x:ai):bK (lZ x)=some (aw x):=rfl
theorem cF(x:ai):bK (.agg (aw x))=some [.int .i64 x.Op,.str x.Name,.str x.Sort_,.int .i64 x.Pred.Op,.str x.Pred.Name,.int .i64 x.Pred.N,sl ac x.Pred.Kids,.int .i64 x.Tag,sl aw x.Kids]:=by rw[cb];rfl
theorem qbj(x:ai):∀q∈aw x,q.one=true:=by
 intro q hq
 rw[cb]at hq
 simp only[vaw,vaH,or_false]at hq
 rcases hq with rfl|rfl|rfl|rfl|rfl|rfl|rfl|rfl|rfl<;>rfl
theorem qeK:Pg.cellsOf 50=9:=by kernel_rfl
theorem iZ(x:ai):bm Pg 50 (aw x)=some (.agg (aw x)):=by
 have:=lJ (P:=Pg) (t:=50) (l:=aw x) (r:=[]) (by kernel_rfl) (qeK.trans (LF x).symm)
 rwa[va1]at this
theorem eM(x:ai)(r:List PVal):bm Pg 50 ([.int .i64 x.Op,.str x.Name,.str x.Sort_,.int .i64 x.Pred.Op,.str x.Pred.Name,.int .i64 x.Pred.N,sl ac x.Pred.Kids,.int .i64 x.Tag,sl aw x.Kids]++r)=some (.agg (aw x)):=by
 rw[<-cb];exact lJ (by kernel_rfl) (qeK.trans (LF x).symm)
theorem cM(x:ai):PVal.agg [.int .i64 x.Op,.str x.Name,.str x.Sort_,.int .i64 x.Pred.Op,.str x.Pred.Name,.int .i64 x.Pred.N,sl ac x.Pred.Kids,.int .i64 x.Tag,sl aw x.Kids]=.agg (aw x):=by rw[cb]
theorem Cd:dw Pg 50 []=some (.agg (aw (⟨0,([]:ag),([]:ag),(⟨0,([]:ag),0,([]:List aa)⟩:aa),0,([]:List ai)⟩:ai))):=by
 simp only[cb]
 kernel_rfl
theorem Cb:rZ Pg 50 [] [(6,36),(8,50)]:=by
 exact⟨[.int .i64 0,.str ([]:ag),.str ([]:ag),.int .i64 0,.str ([]:ag),.int .i64 0,.val gh,.int .i64 0,.val gh],by kernel_rfl,(aI rfl (aI rfl trivial))⟩
theorem ki(x0:Int)(x1:ag)(x2:ag)(x3:aa)(x5:(List ai)):dw Pg 50 [(0,.int .i64 x0),(1,.str x1),(2,.str x2),(3,.agg (ac x3)),(5,sl aw x5)]=some (.agg (aw (⟨x0,x1,x2,x3,0,x5⟩:ai))):=by
 simp only[cb,aJ]
 kernel_rfl
theorem xA(x0:Int)(x3:aa)(x4:Int):dw Pg 50 [(0,.int .i64 x0),(3,.agg (ac x3)),(4,.int .i64 x4)]=some (.agg (aw (⟨x0,([]:ag),([]:ag),x3,x4,([]:List ai)⟩:ai))):=by
 simp only[cb,aJ]
 kernel_rfl
theorem xy(x0:Int)(x3:aa)(x4:Int):rZ Pg 50 [(0,.int .i64 x0),(3,.agg (ac x3)),(4,.int .i64 x4)] [(8,50)]:=by
 simp only[aJ]
 exact⟨[.int .i64 x0,.str ([]:ag),.str ([]:ag),.int .i64 x3.Op,.str x3.Name,.int .i64 x3.N,sl ac x3.Kids,.int .i64 x4,.val gh],by kernel_rfl,(aI rfl trivial)⟩
theorem xz(x0:Int):dw Pg 50 [(0,.int .i64 x0)]=some (.agg (aw (⟨x0,([]:ag),([]:ag),(⟨0,([]:ag),0,([]:List aa)⟩:aa),0,([]:List ai)⟩:ai))):=by
 simp only[cb]
 kernel_rfl
theorem xx(x0:Int):rZ Pg 50 [(0,.int .i64 x0)] [(6,36),(8,50)]:=by
 exact⟨[.int .i64 x0,.str ([]:ag),.str ([]:ag),.int .i64 0,.str ([]:ag),.int .i64 0,.val gh,.int .i64 0,.val gh],by kernel_rfl,(aI rfl (aI rfl trivial))⟩
theorem oY(x:ai):aF Pg 50 (.eptr (aw x)) 0=some (.eptr ((aw x).drop 0)):=by rw[cb];kernel_rfl
theorem tF(x:ai):aF Pg 50 (.eptr (aw x)) 1=some (.eptr ((aw x).drop 1)):=by rw[cb];kernel_rfl
theorem zT(x:ai):aF Pg 50 (.eptr (aw x)) 2=some (.eptr ((aw x).drop 2)):=by rw[cb];kernel_rfl
theorem oZ(x:ai):aF Pg 50 (.eptr (aw x)) 3=some (.eptr ((aw x).drop 3)):=by rw[cb];kernel_rfl
theorem zU(x:ai):aF Pg 50 (.eptr (aw x)) 4=some (.eptr ((aw x).drop 7)):=by rw[cb];kernel_rfl
theorem jh(x:ai):aF Pg 50 (.eptr (aw x)) 5=some (.eptr ((aw x).drop 8)):=by rw[cb];kernel_rfl
theorem P3(x:ai):QL Pg 50 (.agg (aw x)) 5=some (sl aw x.Kids):=by rw[cb];kernel_rfl
theorem pf(x:ai):bm Pg 46 ((aw x).drop 0)=some (.int .i64 x.Op):=by rw[cb];kernel_rfl
theorem v7(x:ai):bm Pg 9 ((aw x).drop 1)=some (.str x.Name):=by rw[cb];kernel_rfl
theorem zZ(x:ai):bm Pg 47 ((aw x).drop 2)=some (.str x.Sort_):=by rw[cb];kernel_rfl
theorem pg(x:ai):bm Pg 36 ((aw x).drop 3)=some (.agg (ac x.Pred)):=by
 rw[cb,aJ];kernel_rfl
theorem Cu(x:ai):bm Pg 3 ((aw x).drop 7)=some (.int .i64 x.Tag):=by rw[cb];kernel_rfl
theorem jj(x:ai):bm Pg 48 ((aw x).drop 8)=some (sl aw x.Kids):=by rw[cb];kernel_rfl
structure aY where
 m:aH
 tag:Int
def aW(x:aY):List PVal:=aB x.m++([.int .i64 x.tag])
theorem e7(x:aY):aW x=[sl cH x.m.Datas,sl fC x.m.Classes,sl ca x.m.Instances,sl dc x.m.Measures,sl fw x.m.Quals,sl dG x.m.Defs,.int .i64 x.tag]:=by
 unfold aW
 simp only[xJ,vaG,vaC]
theorem dn(x:aY):iy 0 (aW x):=by rw[e7];exact(aI (aj ub x.m.Datas) (aI (aj Lw x.m.Classes) (aI (aj Cg x.m.Instances) (aI (aj EO x.m.Measures) (aI (aj PR x.m.Quals) (aI (aj F2 x.m.Defs) (aI trivial trivial)))))))
theorem Ih(x:aY):(aW x).length=7:=by rw[e7];rfl
theorem i6(x:aY):bK (.agg (aW x))=some (aW x):=rfl
theorem qil:Pg.cellsOf 105=7:=by kernel_rfl
theorem e9(x:aY):bm Pg 105 (aW x)=some (.agg (aW x)):=by
 have:=lJ (P:=Pg) (t:=105) (l:=aW x) (r:=[]) (by kernel_rfl) (qil.trans (Ih x).symm)
 rwa[va1]at this
theorem Df(x0:aH)(x1:Int):dw Pg 105 [(0,.agg (aB x0)),(1,.int .i64 x1)]=some (.agg (aW (⟨x0,x1⟩:aY))):=by
 simp only[e7,xJ]
 kernel_rfl
theorem AG(x:aY):aF Pg 105 (.eptr (aW x)) 0=some (.eptr ((aW x).drop 0)):=by rw[e7];kernel_rfl
theorem AH(x:aY):aF Pg 105 (.eptr (aW x)) 1=some (.eptr ((aW x).drop 6)):=by rw[e7];kernel_rfl
theorem Ct(x:aY):bm Pg 29 ((aW x).drop 0)=some (.agg (aB x.m)):=by
 rw[e7,xJ];kernel_rfl
theorem Dn(x:aY):bm Pg 3 ((aW x).drop 6)=some (.int .i64 x.tag):=by rw[e7];kernel_rfl
structure am where
 names:(List ag)
 by_:(List aa)
def az(x:am):List PVal:=[sl cS x.names,sl ac x.by_]
theorem da(x:am):az x=[sl cS x.names,sl ac x.by_]:=rfl
theorem bG(x:am):iy 0 (az x):=(aI (aj dQ x.names) (aI (aj ah x.by_) trivial))
theorem pe(x:am):(az x).length=2:=by rw[da];rfl
theorem dX(x:am):bK (.agg (az x))=some (az x):=rfl
theorem fR(x:am):bK (.agg (az x))=some [sl cS x.names,sl ac x.by_]:=by rw[da];rfl
theorem qfJ:Pg.cellsOf 173=2:=by kernel_rfl
theorem cE(x:am):bm Pg 173 (az x)=some (.agg (az x)):=by
 have:=lJ (P:=Pg) (t:=173) (l:=az x) (r:=[]) (by kernel_rfl) (qfJ.trans (pe x).symm)
 rwa[va1]at this
theorem cQ(x:am)(r:List PVal):bm Pg 173 ([sl cS x.names,sl ac x.by_]++r)=some (.agg (az x)):=by
 rw[<-da];exact lJ (by kernel_rfl) (qfJ.trans (pe x).symm)
theorem pr(x:am):PVal.agg [sl cS x.names,sl ac x.by_]=.agg (az x):=by rw[da]
theorem vW(x0:(List ag))(x1:(List aa)):dw Pg 173 [(0,sl cS x0),(1,sl ac x1)]=some (.agg (az (⟨x0,x1⟩:am))):=by
 kernel_rfl
theorem j9(x:am):aF Pg 173 (.eptr (az x)) 0=some (.eptr ((az x).drop 0)):=by kernel_rfl
theorem f0(x:am):aF Pg 173 (.eptr (az x)) 1=some (.eptr ((az x).drop 1)):=by kernel_rfl
theorem kL(x:am):bm Pg 32 ((az x).drop 0)=some (sl cS x.names):=by kernel_rfl
theorem gA(x:am):bm Pg 34 ((az x).drop 1)=some (sl ac x.by_):=by kernel_rfl
structure aM where
 Vars:(List cG)
 Hyps:(List aa)
 Head:aa
 Tag:Int
def aX(x:aM):List PVal:=[sl bH x.Vars,sl ac x.Hyps]++(ac x.Head++([.int .i64 x.Tag]))
theorem fJ(x:aM):aX x=[sl bH x.Vars,sl ac x.Hyps,.int .i64 x.Head.Op,.str x.Head.Name,.int .i64 x.Head.N,sl ac x.Head.Kids,.int .i64 x.Tag]:=by
 unfold aX
 simp only[aJ,vaG,vaC]
theorem fI(x:aM):iy 0 (aX x):=by rw[fJ];exact(aI (aj lT x.Vars) (aI (aj ah x.Hyps) (aI trivial (aI trivial (aI trivial (aI (aj ah x.Head.Kids) (aI trivial trivial)))))))
abbrev TW(x:aM):PVal:=.agg (aX x)
theorem Ms(x:aM):(aX x).length=7:=by rw[fJ];rfl
theorem Xr(x:aM):bK (TW x)=some (aX x):=rfl
theorem E9(x:aM):bK (.agg (aX x))=some [sl bH x.Vars,sl ac x.Hyps,.int .i64 x.Head.Op,.str x.Head.Name,.int .i64 x.Head.N,sl ac x.Head.Kids,.int .i64 x.Tag]:=by rw[fJ];rfl
theorem Xm(x:aM):∀q∈aX x,q.one=true:=by
 intro q hq
 rw[fJ]at hq
 simp only[vaw,vaH,or_false]at hq
 rcases hq with rfl|rfl|rfl|rfl|rfl|rfl|rfl<;>rfl
theorem qgJ:Pg.cellsOf 62=7:=by kernel_rfl
theorem Mt(x:aM)(r:List PVal):bm Pg 62 ([sl bH x.Vars,sl ac x.Hyps,.int .i64 x.Head.Op,.str x.Head.Name,.int .i64 x.Head.N,sl ac x.Head.Kids,.int .i64 x.Tag]++r)=some (.agg (aX x)):=by
 rw[<-fJ];exact lJ (by kernel_rfl) (qgJ.trans (Ms x).symm)
theorem UN:dw Pg 62 []=some (.agg (aX (⟨([]:List cG),([]:List aa),(⟨0,([]:ag),0,([]:List aa)⟩:aa),0⟩:aM))):=by
 simp only[fJ]
 kernel_rfl
theorem UL:rZ Pg 62 [] [(0,102),(1,36),(5,36)]:=by
 exact⟨[.val gh,.val gh,.int .i64 0,.str ([]:ag),.int .i64 0,.val gh,.int .i64 0],by kernel_rfl,(aI rfl (aI rfl (aI rfl trivial)))⟩
theorem Lu(x0:(List cG))(x2:aa)(x3:Int):dw Pg 62 [(0,sl bH x0),(2,.agg (ac x2)),(3,.int .i64 x3)]=some (.agg (aX (⟨x0,([]:List aa),x2,x3⟩:aM))):=by
 simp only[fJ,aJ]
 kernel_rfl
theorem Lt(x0:(List cG))(x2:aa)(x3:Int):rZ Pg 62 [(0,sl bH x0),(2,.agg (ac x2)),(3,.int .i64 x3)] [(1,36)]:=by
 simp only[aJ]
 exact⟨[sl bH x0,.val gh,.int .i64 x2.Op,.str x2.Name,.int .i64 x2.N,sl ac x2.Kids,.int .i64 x3],by kernel_rfl,(aI rfl trivial)⟩
theorem kH(x:aM):aF Pg 62 (.eptr (aX x)) 0=some (.eptr ((aX x).drop 0)):=by rw[fJ];kernel_rfl
theorem CY(x:aM):aF Pg 62 (.eptr (aX x)) 2=some (.eptr ((aX x).drop 2)):=by rw[fJ];kernel_rfl
theorem NP(x:aM):aF Pg 62 (.eptr (aX x)) 3=some (.eptr ((aX x).drop 6)):=by rw[fJ];kernel_rfl
theorem kM(x:aM):bm Pg 60 ((aX x).drop 0)=some (sl bH x.Vars):=by rw[fJ];kernel_rfl
theorem C2(x:aM):bm Pg 36 ((aX x).drop 2)=some (.agg (ac x.Head)):=by
 rw[fJ,aJ];kernel_rfl
theorem Qt(x:aM):bm Pg 3 ((aX x).drop 6)=some (.int .i64 x.Tag):=by rw[fJ];kernel_rfl
structure au where
 Names:(List ag)
 By:(List aa)
def aG(x:au):List PVal:=[sl cS x.Names,sl ac x.By]
theorem cZ(x:au):aG x=[sl cS x.Names,sl ac x.By]:=rfl
theorem d6(x:au):iy 0 (aG x):=(aI (aj dQ x.Names) (aI (aj ah x.By) trivial))
theorem v6(x:au):(aG x).length=2:=by rw[cZ];rfl
theorem im(x:au):bK (.agg (aG x))=some (aG x):=rfl
theorem lX(x:au):bK (.agg (aG x))=some [sl cS x.Names,sl ac x.By]:=by rw[cZ];rfl
theorem qim:Pg.cellsOf 168=2:=by kernel_rfl
theorem dV(x:au)(r:List PVal):bm Pg 168 ([sl cS x.Names,sl ac x.By]++r)=some (.agg (aG x)):=by
 rw[<-cZ];exact lJ (by kernel_rfl) (qim.trans (v6 x).symm)
theorem wj(x:au):PVal.agg [sl cS x.Names,sl ac x.By]=.agg (aG x):=by rw[cZ]
theorem kG:dw Pg 168 []=some (.agg (aG (⟨([]:List ag),([]:List aa)⟩:au))):=by
 kernel_rfl
theorem kF:rZ Pg 168 [] [(0,9),(1,36)]:=by
 exact⟨[.val gh,.val gh],by kernel_rfl,(aI rfl (aI rfl trivial))⟩
theorem rt(x:au):aF Pg 168 (.eptr (aG x)) 0=some (.eptr ((aG x).drop 0)):=by kernel_rfl
theorem dT(x:au):aF Pg 168 (.eptr (aG x)) 1=some (.eptr ((aG x).drop 1)):=by kernel_rfl
theorem rY(x:au):bm Pg 32 ((aG x).drop 0)=some (sl cS x.Names):=by kernel_rfl
theorem dY(x:au):bm Pg 34 ((aG x).drop 1)=some (sl ac x.By):=by kernel_rfl
theorem Ky:qg Pg 22 71 cH:=⟨underlying22,fun x=>(LG x).trans qeL.symm,by kernel_rfl,by rw[qeL];decide,by kernel_rfl,vaD (by kernel_rfl),qbk,ub⟩
theorem qfj:qg Pg 23 77 fC:=⟨underlying23,fun x=>(YV x).trans qis.symm,by kernel_rfl,by rw[qis];decide,by kernel_rfl,vaD (by kernel_rfl),Y1,Lw⟩
theorem qdW:qg Pg 24 82 ca:=⟨underlying24,fun x=>(Su x).trans qiu.symm,by kernel_rfl,by rw[qiu];decide,by kernel_rfl,vaD (by kernel_rfl),SC,Cg⟩
theorem qbO:qg Pg 25 86 dc:=⟨underlying25,fun x=>(Vj x).trans qiv.symm,by kernel_rfl,by rw[qiv];decide,by kernel_rfl,vaD (by kernel_rfl),Vu,EO⟩
theorem qfk:qg Pg 26 90 fw:=⟨underlying26,fun x=>(qa8 x).trans qix.symm,by kernel_rfl,by rw[qix];decide,by kernel_rfl,vaD (by kernel_rfl),qbo,PR⟩
theorem Zg:qg Pg 27 122 dG:=⟨underlying27,fun x=>(qc6 x).trans qfF.symm,by kernel_rfl,by rw[qfF];decide,by kernel_rfl,vaD (by kernel_rfl),qdk,F2⟩
theorem ck:qg Pg 31 38 af:=⟨underlying31,fun x=>(F9 x).trans qcw.symm,by kernel_rfl,by rw[qcw];decide,by kernel_rfl,vaD (by kernel_rfl),qbp,ak⟩
theorem qkQ:Pg.cellsOf 9=1:=by kernel_rfl
theorem bp:qg Pg 32 9 cS:=⟨underlying32,fun _=>qkQ.symm,by kernel_rfl,by rw[qkQ];decide,by kernel_rfl,vaD (by kernel_rfl),qki,dQ⟩
theorem bL:qg Pg 34 36 ac:=⟨underlying34,fun x=>(LH x).trans qeJ.symm,by kernel_rfl,by rw[qeJ];decide,by kernel_rfl,vaD (by kernel_rfl),qbn,ah⟩
theorem mX:qg Pg 48 50 aw:=⟨underlying48,fun x=>(LF x).trans qeK.symm,by kernel_rfl,by rw[qeK];decide,by kernel_rfl,vaD (by kernel_rfl),qbj,ba⟩
theorem N1:qg Pg 57 62 aX:=⟨underlying57,fun x=>(Ms x).trans qgJ.symm,by kernel_rfl,by rw[qgJ];decide,by kernel_rfl,vaD (by kernel_rfl),Xm,fI⟩
theorem IG:qg Pg 60 102 bH:=⟨underlying60,fun x=>(Xa x).trans qcv.symm,by kernel_rfl,by rw[qcv];decide,by kernel_rfl,vaD (by kernel_rfl),qdl,lT⟩
theorem qgY:qg Pg 69 73 ec:=⟨underlying69,fun x=>(qc5 x).trans qir.symm,by kernel_rfl,by rw[qir];decide,by kernel_rfl,vaD (by kernel_rfl),qdj,F1⟩
theorem qiP:qg Pg 75 79 ew:=⟨underlying75,fun x=>(W8 x).trans qit.symm,by kernel_rfl,by rw[qit];decide,by kernel_rfl,vaD (by kernel_rfl),Xn,PP⟩
theorem qiQ:qg Pg 80 247 iv:=⟨underlying80,fun x=>(qa7 x).trans qfK.symm,by kernel_rfl,by rw[qfK];decide,by kernel_rfl,vaD (by kernel_rfl),qbm,PQ⟩
theorem qgZ:qg Pg 84 88 fP:=⟨underlying84,fun x=>(qa6 x).trans qiw.symm,by kernel_rfl,by rw[qiw];decide,by kernel_rfl,vaD (by kernel_rfl),qbi,WN⟩
theorem qfl:qg Pg 93 97 aZ:=⟨underlying93,fun x=>(Tn x).trans qgK.symm,by kernel_rfl,by rw[qgK];decide,by kernel_rfl,vaD (by kernel_rfl),qbl,AD⟩
theorem qbP:qg Pg 94 125 d5:=⟨underlying94,fun x=>(YW x).trans qfH.symm,by kernel_rfl,by rw[qfH];decide,by kernel_rfl,vaD (by kernel_rfl),Y2,Lx⟩
theorem Zh:qg Pg 95 127 fo:=⟨underlying95,fun x=>(qc4 x).trans qfI.symm,by kernel_rfl,by rw[qfI];decide,by kernel_rfl,vaD (by kernel_rfl),qdi,UT⟩
theorem qiN:qg Pg 117 248 pR:=⟨underlying117,fun x=>(qc3 x).trans qfL.symm,by kernel_rfl,by rw[qfL];decide,by kernel_rfl,vaD (by kernel_rfl),qdh,ZG⟩
theorem qah:qg Pg 118 124 db:=⟨underlying118,fun x=>(YU x).trans qfG.symm,by kernel_rfl,by rw[qfG];decide,by kernel_rfl,vaD (by kernel_rfl),Y0,S4⟩
theorem qjr:Pg.cellsOf 5=1:=by kernel_rfl
theorem qiO:qg Pg 158 5 (cI .u8):=⟨underlying158,fun _=>qjr.symm,by kernel_rfl,by rw[qjr];decide,by kernel_rfl,vaD (by kernel_rfl),(qkh .u8),(qlE .u8)⟩
theorem Ba:(Pg.underlying 9).any qf1=true:=by kernel_rfl
theorem qk7:LY Pg 4=some (PVal.bool false):=by kernel_rfl
theorem hO:kb Pg 36=some [.int .i64 0,.str ([]:ag),.int .i64 0,sl ac ([]:List aa)]:=by kernel_rfl
theorem tc:kb Pg 38=some [.int .i64 0,.str ([]:ag),sl af ([]:List ae),sl cS ([]:List ag),.int .i64 0,.str ([]:ag),.int .i64 0,sl ac ([]:List aa),sl ac ([]:List aa)]:=by kernel_rfl
theorem td:kb Pg 50=some [.int .i64 0,.str ([]:ag),.str ([]:ag),.int .i64 0,.str ([]:ag),.int .i64 0,sl ac ([]:List aa),.int .i64 0,sl aw ([]:List ai)]:=by kernel_rfl
theorem Zd:kb Pg 71=some [.str ([]:ag),sl cS ([]:List ag),sl bH ([]:List cG),sl ec ([]:List ee)]:=by kernel_rfl
theorem qiI:kb Pg 102=some [.str ([]:ag),.str ([]:ag)]:=by kernel_rfl
theorem qiJ:kb Pg 120=some [sl cS ([]:List ag),sl iv ([]:List Fw),sl pR ([]:List SL),sl db ([]:List ng),.int .i64 0,.str ([]:ag),sl af ([]:List ae),sl cS ([]:List ag),.int .i64 0,.str ([]:ag),.int .i64 0,sl ac ([]:List aa),sl ac ([]:List aa),sl ac ([]:List aa)]:=by kernel_rfl
theorem qdL:kb Pg 168=some [sl cS ([]:List ag),sl ac ([]:List aa)]:=by kernel_rfl
theorem TG:kb Pg 173=some [sl cS ([]:List ag),sl ac ([]:List aa)]:=by kernel_rfl
def kK:List Int:=[1,10,100,1000,10000,100000,1000000,10000000,100000000,1000000000,10000000000,100000000000,1000000000000,10000000000000,100000000000000,1000000000000000,10000000000000000,100000000000000000,1000000000000000000,10000000000000000000]
theorem qio:Pg.cellsOf 197=20:=by kernel_rfl
theorem qin:Pg.cellsOf 185=1:=by kernel_rfl
def AL:List Int:=[0,1,28,2,29,14,24,3,30,22,20,15,25,17,4,8,31,27,13,23,21,19,16,7,26,12,18,6,11,5,10,9]
theorem qip:Pg.cellsOf 205=32:=by kernel_rfl
def AM:List Int:=[0,1,56,2,57,49,28,3,61,58,42,50,38,29,17,4,62,47,59,36,45,43,51,22,53,39,33,30,24,18,12,5,63,55,48,27,60,41,37,16,46,35,44,21,52,32,23,11,54,26,40,15,34,20,31,10,25,14,19,9,13,8,7,6]
theorem qiq:Pg.cellsOf 206=64:=by kernel_rfl
def GE:List (Nat×List PVal):=[(0,kK.map (PVal.int .u64)),(1,AL.map (PVal.int .u8)),(2,AM.map (PVal.int .u8))]
theorem cd(A:List Nat){m:Nat}{c:Code}{sc:List It}{F:Prop}{e0:Exit}{st0 st:aA}(h:PS sc F)(he:F=A5 Pg GE A m c sc st (FN e0 st0)):aU Pg GE m c (EX e0 st0) st:=nX mixed h he
theorem n9(A:List Nat){m:Nat}{c:Code}{sc:List It}{F:Prop}{σ X:Type}{S:σ->aA}{ex:X->Exit}{so:X->aA}{s:σ}{st:aA}(h:PS sc F)(he:F=A5 Pg GE A m c sc st (FN .normal (S s))):aU Pg GE m c (LQ S ex so (.inl s)) st:=qiD mixed h he
theorem f6(A:List Nat){m:Nat}{c:Code}{sc:List It}{F:Prop}{σ X:Type}{S:σ->aA}{ex:X->Exit}{so:X->aA}{x:X}{st:aA}(hn:ex x≠.normal)(h:PS sc F)(he:F=A5 Pg GE A m c sc st (FN (ex x) (so x))):aU Pg GE m c (LQ S ex so (.inr x)) st:=qiG mixed hn h he
theorem bN(A:List Nat){f:FuncId}{fn:Func}{c:Code}{args:List PVal}{r:PVal}{ro:List (Nat×TypeId)}(hcall:∀vs w,(callFunc f vs).run Pg w=.ok (.enter f vs) w)(hfn:Pg.funcs[f]? =some fn)(hb:fn.body=some c)(hcl:iy 0 args){sc:List It}{F:Prop}(h:PS sc F)(he:F=A5 Pg GE A 0 c sc ⟨args++List.replicate (fn.ntmps - args.length) .undef,[],[]⟩ (FR Pg fn.results.toList r ro)):CC Pg GE f args r ro:=C.evp mixed hcall hfn hb hcl h he
abbrev waA:=List ag
abbrev waB:=List aa
abbrev waC:=List ae
abbrev waD:=List ai
abbrev waE:=List aM
abbrev waF:=List cG
abbrev waG:=List ee
end Go.Proofs.YtbaamopmfmpfaaaGreatDoor
