/- PROVED: a part of the proof. Conditions: none. -/
import Derived.Test.YtankopenjcbeeaaGreatDoords10
import Derived.Test.YtankopenjcbeeaaGreatDoords8
import Derived.Test.YtankopenjcbeeaaGreatDoorProg
import Derived.Ground.SlgfProg
import Derived.Ground.SlgnProg
import Derived.Shelf.Lays
import Derived.Shelf.LaysM
import Derived.Shelf.SlGeneric
import Derived.Shelf.SlLaysE
import Derived.Shelf.SlLaysE0
import Derived.Shelf.SlLaysH
import Derived.Shelf.Strconv.Itoa3
import Derived.Shelf.Sort.Plain
import Derived.Shelf.Slices.In.SortNone
import Derived.Shelf.Slices.In.CompactS
import Derived.Test.YtankopenjcbeeaaGreatDoords9
import Derived.Test.YtankopenjcbeeaaGreatDoords4
import Derived.Maps.RangeRun
set_option linter.unusedSimpArgs false
set_option linter.unusedVariables false
noncomputable section
namespace Go.Proofs.YtankopenjcbeeaaGreatDoor
open Go Go.Proofs.Tryz
set_option linter.unusedVariables false
set_option maxRecDepth 100000
structure Yd(P:Program)(GE:List (Nat×List PVal))(l:Nat){S α:Type}(c:α->List PVal)(step:S->α->Option (Bool×S))(J:Bool->S->aP->World->Prop):Prop where
 base:∀b s Γ w,J b s Γ w->qk GE Γ w
 side:∀b s Γ w,J b s Γ w->∀Γ' bs' ow' w' a' st',SR P (oW GE Γ w) Γ' bs' ow' w' a' st'->J b s Γ' w'
 yield:∀s Γ w x v n r,J true s Γ w->VR Γ [] w (.agg (c x)) v->step s x=some r->YieldAt Fence.wide n P l #[v] w λe w'=>∃Γ',e=.returned (.bool r.1)/\Γ.Le w Γ' w'/\J r.1 r.2 Γ' w'
section
variable{S:Type}(step:S->ag->Option (Bool×S))
mutual
def PD:ag->S->Option (Bool×S)
 |⟨o,n,k,ks⟩,s=>(step s ⟨o,n,k,ks⟩).bind λr=>match r.1 with
  |false=>some (false,r.2)
  |true=>if ks.length<4611686018427387904 then RA ks r.2 else none
def RA:List ag->S->Option (Bool×S)
 |[],s=>some (true,s)
 |p::ps,s=>(PD p s).bind λr=>match r.1 with
  |false=>some (false,r.2)
  |true=>RA ps r.2
end
theorem T0(p:ag)(s:S):PD step p s=(step s p).bind λr=>match r.1 with
  |false=>some (false,r.2)
  |true=>if p.Kids.length<4611686018427387904 then RA step p.Kids r.2 else none:=by
 obtain⟨o,n,k,ks⟩:=p
 rw[PD];rfl
end
abbrev fV:Nat:=318
noncomputable def bV:Code:=f318.body.getD .skip
abbrev qcF:Code:=aC bV [false]
abbrev TY:Code:=aC bV [true,false,false]
abbrev qdw:Code:=aC bV [true,false,true,false,false]
abbrev qdx:Code:=aC bV [true,true,false,false]
abbrev vL:Code:=aC bV [true,true,false,true,false,false]
abbrev qdy:Code:=aC bV [true,true,false,true,false,false,false]
abbrev qcG:Code:=aC bV [true,true,false,true,false,false,true,true,false,false,false]
abbrev TZ:Code:=aC bV [true,true,false,true,false,false,true,true,false,false,true,false]
abbrev qdz:Code:=aC bV [true,true,false,true,false,false,true,true,false,false,true,true,false,false]
abbrev qdA:Code:=aC bV [true,true,false,true,false,false,true,true,true]
abbrev qdB:Code:=aC bV [true,true,true,false]
theorem W0:bV=.seq qcF (.seq (.seq TY (.cond (.tmp 10) (.seq qdw .ret) .skip)) (.seq (.seq qdx (.block 0 (.loop vL))) (.seq qdB .ret))):=by kernel_rfl
theorem XO:vL=.seq qdy (.seq (.cond (.tmp 15) .skip (.exit 0)) (.seq (.block 1 (.seq qcG (.seq TZ (.cond (.tmp 21) (.seq qdz .ret) .skip)))) qdA)):=by kernel_rfl
abbrev yv(l:Nat):PVal:=.val (.func (.yield l) #[] #[])
abbrev Nu(p:ag):List PVal:=[.int .i64 p.Op,.str p.Name,.int .i64 p.N,sl aa p.Kids]
theorem qc9(p:ag):eP 0 (Nu p):=by have:=aJ p;rwa[da]at this
abbrev qcH(p:ag)(l:Nat):ay:=aM 23 [(1,yv l),(2,.eptr (aa p))] [.dead] []
abbrev Us(l:Nat)(ks:List ag)(i:Int):ay:=aM 23 [(1,yv l),(12,sl aa ks),(13,.int .i64 (ks.length:Int)),(14,.int .i64 i)] [.dead] []
abbrev qcI(l:Nat)(ks:List ag)(i:Int)(x:ag):ay:=aM 23 [(1,yv l),(6,.eptr (aa x)),(12,sl aa ks),(13,.int .i64 (ks.length:Int)),(14,.int .i64 i)] [.dead,.dead] []
theorem qfa(p:ag)(l:Nat):cC Pg GE 0 qcF (EX .normal (qcH p l)) (aM 23 [(0,.agg (aa p)),(1,yv l)] [] []):=by
 have z:=qe8 (mt p) rfl<|eF .normal (aM 23 [(1,yv l),(2,.bptr 0 0)] [.cells (Nu p) []] [])
 have h1:cC Pg GE 0 qcF (EX .normal (aM 23 [(1,yv l),(2,.bptr 0 0)] [.cells (Nu p) []] [])) (aM 23 [(0,.agg (aa p)),(1,yv l)] [] []):=dX (A:=[]) mixed z (by kernel_rfl)
 have z2:=qds 0 [Nu p] [1,2] [] (qdf (m:=0) (b:=0) rfl (Nu p) rfl) (qdg 0 (qc9 p)) (qdh (l:=Nu p) (r:=Nu p) rfl)<|en (fr (aM 23 [(1,yv l),(2,.eptr (Nu p))] [.dead] []))
 have h2:=h1.thenW (st2:=aM 23 [(1,yv l),(2,.eptr (Nu p))] [.dead] []) (qdi z2 (by kernel_rfl))
 unfold qcH
 rw[da]
 rw[da]at h2
 exact h2
theorem qfb(p:ag)(l:Nat):b8 Pg GE [] (gf TY) (λst=>FG st (aM 23 [(1,yv l),(2,.eptr (aa p)),(7,yv l),(8,.agg (aa p))] [.dead] [])) ((gf TY).toList.take 2) 0 (qcH p l):=by
 have z:=sv (co p)<|en (fr (aM 23 [(1,yv l),(2,.eptr (aa p)),(7,yv l),(8,.agg (aa p))] [.dead] []))
 exact F7 z (by kernel_rfl)
theorem qcJ(p:ag)(l:Nat)(b:Bool):b8 Pg GE [] (gf TY) (λst=>FG st (aM 23 [(1,yv l),(2,.eptr (aa p)),(10,.bool (!b))] [.dead] [])) ((gf TY).toList.drop 3) 0 (aM 23 [(1,yv l),(2,.eptr (aa p)),(7,yv l),(8,.agg (aa p)),(9,.bool b)] [.dead] []):=by
 have z:=en (fr (aM 23 [(1,yv l),(2,.eptr (aa p)),(10,.bool (!b))] [.dead] []))
 exact F7 z (by kernel_rfl)
abbrev vE(H:List ax)(b:Bool):ay:=aM 23 [(4,.bool b)] H []
theorem qfc(p:ag)(l:Nat):cC Pg GE 0 (.seq qdw .ret) (EX .ret (vE [.dead] false)) (aM 23 [(1,yv l),(2,.eptr (aa p)),(10,.bool true)] [.dead] []):=by
 have z:=eF .ret (vE [.dead] false)
 exact dX (A:=[]) mixed z (by kernel_rfl)
theorem qfd(p:ag)(l:Nat):cC Pg GE 0 qdx (EX .normal (Us l p.Kids 0)) (aM 23 [(1,yv l),(2,.eptr (aa p)),(10,.bool false)] [.dead] []):=by
 have z:=sv (Lm p)<|sv (Lq p)<|qdt (fl.ln p.Kids)<|eF .normal (Us l p.Kids 0)
 exact dX (A:=[]) mixed z (by kernel_rfl)
abbrev V6(l:Nat)(ks:List ag)(i:Int):ay:=aM 23 [(1,yv l),(12,sl aa ks),(13,.int .i64 (ks.length:Int)),(14,.int .i64 i),(15,.bool (decide (i<(ks.length:Int))))] [.dead] []
theorem qfe(l:Nat)(ks:List ag)(i:Int):cC Pg GE 0 qdy (EX .normal (V6 l ks i)) (Us l ks i):=by
 have z:=eF .normal (V6 l ks i)
 exact dX (A:=[]) mixed z (by kernel_rfl)
theorem qff(l:Nat)(ks:List ag)(i:Int)(x:ag)(hx:dw ks i=some x):cC Pg GE 0 qcG (EX .normal (qcI l ks i x)) (V6 l ks i):=by
 have z:=sv (fl.ia (k:=.i64) hx)<|sv (co x)<|sx PA<|sx (mt x)<|eF .normal (aM 23 [(1,yv l),(6,.bptr 1 0),(12,sl aa ks),(13,.int .i64 (ks.length:Int)),(14,.int .i64 i)] [.dead,.cells (Nu x) []] [])
 have h1:cC Pg GE 0 qcG (EX .normal (aM 23 [(1,yv l),(6,.bptr 1 0),(12,sl aa ks),(13,.int .i64 (ks.length:Int)),(14,.int .i64 i)] [.dead,.cells (Nu x) []] [])) (V6 l ks i):=dX (A:=[]) mixed z (by kernel_rfl)
 have z2:=qds 1 [Nu x] [1,6,12,13,14] [] (qdf (m:=0) (b:=1) rfl (Nu x) rfl) (qdg 1 (qc9 x)) (qdh (l:=Nu x) (r:=Nu x) rfl)<|sf (qeZ 1 (p:=sl aa ks) (ak aJ ks))<|en (fr (aM 23 [(1,yv l),(6,.eptr (Nu x)),(12,sl aa ks),(13,.int .i64 (ks.length:Int)),(14,.int .i64 i)] [.dead,.dead] []))
 have h2:=h1.thenW (st2:=aM 23 [(1,yv l),(6,.eptr (Nu x)),(12,sl aa ks),(13,.int .i64 (ks.length:Int)),(14,.int .i64 i)] [.dead,.dead] []) (qdi z2 (by kernel_rfl))
 unfold qcI
 rw[da]
 exact h2
theorem qfg(l:Nat)(ks:List ag)(i:Int)(x:ag):b8 Pg GE [] (gf TZ) (λst=>FG st (aM 23 [(1,yv l),(12,sl aa ks),(13,.int .i64 (ks.length:Int)),(14,.int .i64 i),(18,.agg (aa x)),(19,yv l)] [.dead,.dead] [])) ((gf TZ).toList.take 2) 0 (qcI l ks i x):=by
 have z:=sv (co x)<|en (fr (aM 23 [(1,yv l),(12,sl aa ks),(13,.int .i64 (ks.length:Int)),(14,.int .i64 i),(18,.agg (aa x)),(19,yv l)] [.dead,.dead] []))
 exact F7 z (by kernel_rfl)
abbrev qdC(l:Nat)(ks:List ag)(i:Int)(x:ag)(b:Bool):ay:=aM 23 [(1,yv l),(12,sl aa ks),(13,.int .i64 (ks.length:Int)),(14,.int .i64 i),(18,.agg (aa x)),(19,yv l),(20,.bool b)] [.dead,.dead] []
abbrev XR(l:Nat)(ks:List ag)(i:Int)(b:Bool):ay:=aM 23 [(1,yv l),(12,sl aa ks),(13,.int .i64 (ks.length:Int)),(14,.int .i64 i),(21,.bool (!b))] [.dead,.dead] []
theorem qcK(l:Nat)(ks:List ag)(i:Int)(x:ag)(b:Bool):b8 Pg GE [] (gf TZ) (λst=>FG st (XR l ks i b)) ((gf TZ).toList.drop 3) 0 (qdC l ks i x b):=by
 have z:=en (fr (XR l ks i b))
 exact F7 z (by kernel_rfl)
theorem qfh(l:Nat)(ks:List ag)(i:Int):cC Pg GE 0 (.seq qdz .ret) (EX .ret (vE [.dead,.dead] false)) (XR l ks i false):=by
 have z:=eF .ret (vE [.dead,.dead] false)
 exact dX (A:=[]) mixed z (by kernel_rfl)
theorem qfi(l:Nat)(ks:List ag)(i:Int):cC Pg GE 0 qdA (EX .normal (⟨(Us l ks (fh (i+1))).tmps,[.dead,.dead],[]⟩)) (XR l ks i true):=by
 have z:=eF .normal (⟨(Us l ks (fh (i+1))).tmps,[.dead,.dead],[]⟩)
 exact dX (A:=[]) mixed z (by kernel_rfl)
theorem qfj(l:Nat)(ks:List ag)(i:Int):cC Pg GE 0 (.seq qdB .ret) (EX .ret (vE [.dead] true)) (V6 l ks i):=by
 have z:=eF .ret (vE [.dead] true)
 exact dX (A:=[]) mixed z (by kernel_rfl)
open Go
theorem E1{n:Int}(h1: -9223372036854775808<=n)(h2:n<9223372036854775808):fh n=n:=VS h1 h2
theorem P3{α:Type}(l:List α)(i:Nat)(h:i<l.length):dw l (i:Int)=some l[i]:=by
 unfold dw
 rw[vaJ (by omega)]
 simp[h]
theorem NV(l:ac)(i:Nat)(h:i<l.length):uD l (i:Int)=some ((l[i].toNat:Int)):=by
 unfold uD;rw[P3 l i h];rfl
theorem Q5{σ X:Type}{body:σ->Option (σ⊕X)}{s s':σ}(h:body s=some (.inl s')):loop body s=loop body s':=by rw[P7,h]
theorem L2{σ X:Type}{body:σ->Option (σ⊕X)}{s:σ}{x:X}(h:body s=some (.inr x)):loop body s=some x:=by rw[P7,h]
def VF{S:Type}(J:Bool->S->aP->World->Prop)(Γ0:aP)(w0:World)(b:Bool)(s:S)(st:ay)(a:Array Value)(w:World):Prop:=∃Γ,J b s Γ w/\Γ0.Le w0 Γ w/\∃E bs ow,SR Pg E Γ bs ow w a st
structure Dd(st:ay)(k:Nat):Prop where
 c:eP 0 st.tmps
 b:st.boxes=List.replicate k .dead
 o:st.own=[]
structure R4(c:Code):Prop where
 eq:c=.region (Nt c) (gf c) false
 rg:List.range (gf c).size=[0,1]++2::([3]++[])
 p1:[0,1].map (λi=>(gf c)[i]?)=((gf c).toList.take 2).map some
 p2:((gf c).toList.take 2).all EB=true
 o:(gf c)[2]? =some (AL c 2)
 g:(AL c 2).guard=none
 q1:[3].map (λi=>(gf c)[i]?)=((gf c).toList.drop 3).map some
 q2:((gf c).toList.drop 3).all EB=true
theorem qcw:R4 TY:=⟨by kernel_rfl,by kernel_rfl,by kernel_rfl,by kernel_rfl,by kernel_rfl,by kernel_rfl,by kernel_rfl,by kernel_rfl⟩
theorem qcx:R4 TZ:=⟨by kernel_rfl,by kernel_rfl,by kernel_rfl,by kernel_rfl,by kernel_rfl,by kernel_rfl,by kernel_rfl,by kernel_rfl⟩
theorem VP:(AL TY 2).op=.call {callee:=.value (.tmp 7),args:=#[.tmp 8],argTypes:=LD (AL TY 2)}:=by kernel_rfl
theorem XP:(AL TY 2).dst=some 9:=by kernel_rfl
theorem VQ:(AL TZ 2).op=.call {callee:=.value (.func fV),args:=#[.tmp 18,.tmp 19],argTypes:=LD (AL TZ 2)}:=by kernel_rfl
theorem XQ:(AL TZ 2).dst=some 20:=by kernel_rfl
section
variable{S:Type}{step:S->ag->Option (Bool×S)}{J:Bool->S->aP->World->Prop}{l:Nat}{Γ0:aP}{w0:World}{b:Bool}{s:S}{st0 st1 stA stB:ay}{k kA kB:Nat}{a:Array Value}{w:World}{n:Nat}{ds:List Deferred}
theorem VF.again(hY:Yd Pg GE l aa step J)(hD:Dd st0 k)(h:VF J Γ0 w0 b s st0 a w):∃Γ,J b s Γ w/\Γ0.Le w0 Γ w/\SR Pg (oW GE Γ w) Γ (List.replicate k none) (λ_=>none) w a st0:=by
 obtain⟨Γ,hJ,hle,E,bs,ow,hS⟩:=h
 obtain⟨tm,H,own⟩:=st0
 have hb:H=_:=hD.b
 have ho:own=[]:=hD.o
 subst hb;subst ho
 exact⟨Γ,hJ,hle,hS.again hD.c (hY.base _ _ _ _ hJ) (.refl _ _) k⟩
theorem VF.redo(hY:Yd Pg GE l aa step J)(hD:Dd st0 k)(h:VF J Γ0 w0 b s st0 a w)(k':Nat):VF J Γ0 w0 b s ⟨st0.tmps,List.replicate k' .dead,[]⟩ a w:=by
 obtain⟨Γ,hJ,hle,hS⟩:=h.again hY hD
 exact⟨Γ,hJ,hle,_,_,_,hS.again hD.c (hY.base _ _ _ _ hJ) (.refl _ _) k'⟩
theorem VF.piece(hY:Yd Pg GE l aa step J){c:Code}{e:Exit}(hS:cC Pg GE 0 c (EX e st1) st0)(hD:Dd st0 k)(h:VF J Γ0 w0 b s st0 a w):c.wpIn Fence.wide n Pg (λe' a' w'=>e'=e/\a'.defers=ds/\VF J Γ0 w0 b s st1 a'.tmps w') ⟨a,ds⟩ w:=by
 obtain⟨Γ,hJ,hle,hR⟩:=h.again hY hD
 refine wpIn_mono (hS.wide (hY.base _ _ _ _ hJ) hR n ds) ?_
 rintro e' a' w' ⟨hd,Γ',bs',ow',st',h',rfl,rfl⟩
 exact⟨rfl,hd,Γ',hY.side _ _ _ _ hJ _ _ _ _ _ _ h',hle.trans h'.step.le,_,_,_,h'⟩
theorem VF.reg(hY:Yd Pg GE l aa step J){c:Code}(hR:R4 c)(hD:Dd st0 k)(hDB:Dd stB kB)(hpre:b8 Pg GE [] (gf c) (λst=>FG st stA) ((gf c).toList.take 2) 0 st0)(hsuf:b8 Pg GE [] (gf c) (λst=>FG st st1) ((gf c).toList.drop 3) 0 stB){r:Bool×S}
  (hcall:∀a w (next:Act->World->Prop) (Q:Exit->Act->World->Prop),VF J Γ0 w0 b s stA a w->(∀a' w',VF J Γ0 w0 r.1 r.2 stB a' w'->next ⟨a',ds⟩ w')->(AL c 2).wpIn Fence.wide n Pg ⟨a,ds⟩ w next Q)
  (h:VF J Γ0 w0 b s st0 a w):c.wpIn Fence.wide n Pg (λe' a' w'=>e'=.normal/\a'.defers=ds/\VF J Γ0 w0 r.1 r.2 st1 a'.tmps w') ⟨a,ds⟩ w:=by
 have key:(Code.region (Nt c) (gf c) false).wpIn Fence.wide n Pg (λe' a' w'=>e'=.normal/\a'.defers=ds/\VF J Γ0 w0 r.1 r.2 st1 a'.tmps w') ⟨a,ds⟩ w:=by
  refine wpIn_region ?_
  rw[hR.rg]
  obtain⟨Γ,hJ,hle,hS⟩:=h.again hY hD
  refine CD (A:=[]) (K:=λst=>FG st stA) (λΓ' bs' ow' a' w' st hS' hK=>?_) _ _ Γ _ _ a w st0 hR.p1 (pk hR.p2) hS hpre
  obtain⟨Γ2,bs2,ow2,hS2⟩:=FG.sr hS' hK
  refine Ey hR.o hR.g (hcall a' w' _ _ ⟨Γ2,hY.side _ _ _ _ hJ _ _ _ _ _ _ hS2,hle.trans hS2.step.le,_,_,_,hS2⟩ λa3 w3 h3=>?_)
  obtain⟨Γ3,hJ3,hle3,hS3⟩:=h3.again hY hDB
  refine CD (A:=[]) (K:=λst=>FG st st1) (λΓ' bs' ow' a' w' st hS' hK=>?_) _ _ Γ3 _ _ a3 w3 stB hR.q1 (pk hR.q2) hS3 hsuf
  obtain⟨Γ4,bs4,ow4,hS4⟩:=FG.sr hS' hK
  exact⟨rfl,rfl,Γ4,hY.side _ _ _ _ hJ3 _ _ _ _ _ _ hS4,hle3.trans hS4.step.le,_,_,_,hS4⟩
 rw[<-hR.eq]at key
 exact key
theorem VF.ev(h:VF J Γ0 w0 b s st0 a w){t:Nat}{x:Bool}(ht:st0.tmps.getD t .undef=.bool x):(Act.mk a ds).eval (.tmp t)=.bool x:=by
 obtain⟨Γ,hJ,hle,E,bs,ow,hS⟩:=h
 have h1:=hS.opv ds (.tmp t)
 have e1:opv E.GE st0.tmps (.tmp t)=.bool x:=ht
 rw[e1]at h1
 generalize (Act.mk a ds).eval (.tmp t)=v at h1
 cases h1
 rfl
theorem VF.put(hY:Yd Pg GE l aa step J)(hD:Dd stA kA){Γ Γ':aP}{w':World}{E:ko}{bs:bg}{ow:Nat->Option fR}(hS:SR Pg E Γ bs ow w a stA)(hle:Γ0.Le w0 Γ w)(hle':Γ.Le w Γ' w'){r:Bool×S}(hJ':J r.1 r.2 Γ' w'){d:Nat}(hB:stB=⟨stA.tmps.set d (.bool r.1),List.replicate kA .dead,[]⟩):VF J Γ0 w0 r.1 r.2 stB (a.setIfInBounds d (.bool r.1)) w':=by
 have hS':=(hS.again hD.c (hY.base _ _ _ _ hJ') hle' kA).set (d:=d) (p:=.bool r.1) (v:=.bool r.1) (.bool _)
 exact⟨Γ',hJ',hle.trans hle',_,_,_,hB▸hS'⟩
theorem VF.yieldc(hY:Yd Pg GE l aa step J)(hD:Dd stA kA){p:ag}{r:Bool×S}(hr:step s p=some r){o:Oper}{f x d:Nat}{tys:Array TypeId}(h7:stA.tmps.getD f .undef=yv l)(h8:stA.tmps.getD x .undef=.agg (aa p))
  (ho:o.op=.call {callee:=.value (.tmp f),args:=#[.tmp x],argTypes:=tys}) (hd:o.dst=some d) (hB:stB=⟨stA.tmps.set d (.bool r.1),List.replicate kA .dead,[]⟩)
  {next:Act->World->Prop} {Q:Exit->Act->World->Prop} (h:VF J Γ0 w0 true s stA a w) (hn:∀a' w',VF J Γ0 w0 r.1 r.2 stB a' w'->next ⟨a',ds⟩ w'):o.wpIn Fence.wide n Pg ⟨a,ds⟩ w next Q:=by
 obtain⟨Γ,hJ,hle,hS⟩:=h.again hY hD
 have h1:=hS.opv ds (.tmp f)
 have h2:=hS.opv ds (.tmp x)
 have e1:opv (oW GE Γ w).GE stA.tmps (.tmp f)=yv l:=h7
 have e2:opv (oW GE Γ w).GE stA.tmps (.tmp x)=.agg (aa p):=h8
 rw[e1]at h1;rw[e2]at h2
 have hev:(Act.mk a ds).eval (.tmp f)=.func (.yield l) #[] #[]:=by
  generalize (Act.mk a ds).eval (.tmp f)=v at h1
  cases h1;rfl
 refine PG ho hev (R:=λe w'=>∃Γ',e=.returned (.bool r.1)/\Γ.Le w Γ' w'/\J r.1 r.2 Γ' w') ?_ ?_
 ·have:=hY.yield s Γ w p _ (n - 1) r hJ (h2.clo (by simp only[PVal.cl];exact aJ p)) hr
  simpa using this
 ·rintro e w' ⟨Γ',rfl,hle',hJ'⟩
  refine⟨_,rfl,?_⟩
  rw[hd]
  exact hn _ _ (VF.put hY hD hS hle hle' hJ' hB)
def Wf(step:S->ag->Option (Bool×S))(J:Bool->S->aP->World->Prop)(l:Nat)(p:ag):Prop:=∀s r Γ w v n,PD step p s=some r->J true s Γ w->VR Γ [] w (.agg (aa p)) v->
 CallsIn Fence.wide n Pg fV #[v,.func (.yield l) #[] #[]] w λe w'=>∃Γ',e=.returned (.bool r.1)/\Γ.Le w Γ' w'/\J r.1 r.2 Γ' w'
theorem VF.visitc(hY:Yd Pg GE l aa step J)(hD:Dd stA kA){p:ag}(hp:Wf step J l p){r:Bool×S}(hr:PD step p s=some r){o:Oper}{x y d:Nat}{tys:Array TypeId}(h7:stA.tmps.getD y .undef=yv l)(h8:stA.tmps.getD x .undef=.agg (aa p))
  (ho:o.op=.call {callee:=.value (.func fV),args:=#[.tmp x,.tmp y],argTypes:=tys}) (hd:o.dst=some d) (hB:stB=⟨stA.tmps.set d (.bool r.1),List.replicate kA .dead,[]⟩)
  {next:Act->World->Prop} {Q:Exit->Act->World->Prop} (h:VF J Γ0 w0 true s stA a w) (hn:∀a' w',VF J Γ0 w0 r.1 r.2 stB a' w'->next ⟨a',ds⟩ w'):o.wpIn Fence.wide n Pg ⟨a,ds⟩ w next Q:=by
 obtain⟨Γ,hJ,hle,hS⟩:=h.again hY hD
 have h1:=hS.opv ds (.tmp y)
 have h2:=hS.opv ds (.tmp x)
 have e1:opv (oW GE Γ w).GE stA.tmps (.tmp y)=yv l:=h7
 have e2:opv (oW GE Γ w).GE stA.tmps (.tmp x)=.agg (aa p):=h8
 rw[e1]at h1;rw[e2]at h2
 have hev:(Act.mk a ds).eval (.tmp y)=.func (.yield l) #[] #[]:=by
  generalize (Act.mk a ds).eval (.tmp y)=v at h1
  cases h1;rfl
 refine QJ ho (g:=fV) (fs:=#[]) (cs:=#[]) rfl call318 (R:=λe w'=>∃Γ',e=.returned (.bool r.1)/\Γ.Le w Γ' w'/\J r.1 r.2 Γ' w') ?_ ?_
 ·have:=hp s r Γ w _ (n - 1) hr hJ (h2.clo (by simp only[PVal.cl];exact aJ p))
  simpa[hev]using this
 ·rintro e w' ⟨Γ',rfl,hle',hJ'⟩
  refine⟨_,rfl,?_⟩
  rw[hd]
  exact hn _ _ (VF.put hY hD hS hle hle' hJ' hB)
theorem VF.fin{x:Bool}{H:List ax}(h:VF J Γ0 w0 b s (vE H x) a w):(results f318 a).run Pg w=.ok (.bool x) w:=by
 obtain⟨Γ,hJ,hle,E,bs,ow,hS⟩:=h
 obtain⟨v,h1,h2,_⟩:=j5 hS (fn:=f318) (r:=.bool x) (by kernel_rfl)
 cases h2
 exact h1
theorem QP{N:Nat}{L:List (Nat×PVal)}(h:Vk 0 L)(k:Nat){H:List ax}(hH:H=List.replicate k .dead):Dd (aM N L H []) k:=⟨bk h,hH,rfl⟩
theorem QN(ks:List ag):(sl aa ks).cl 0:=ak aJ ks
theorem Uf(l:Nat)(ks:List ag)(i:Int):Dd (Us l ks i) 1:=QP (by exact aI vzz<|aI (QN ks)<|aI vzz<|aI vzz vzz) 1 rfl
theorem Ug(l:Nat)(ks:List ag)(i:Int):Dd (V6 l ks i) 1:=QP (by exact aI vzz<|aI (QN ks)<|aI vzz<|aI vzz<|aI vzz vzz) 1 rfl
theorem Uh(l:Nat)(ks:List ag)(i:Int)(b:Bool):Dd (XR l ks i b) 2:=QP (by exact aI vzz<|aI (QN ks)<|aI vzz<|aI vzz<|aI vzz vzz) 2 rfl
theorem PE(hY:Yd Pg GE l aa step J)(p:ag)(hk:∀x∈p.Kids,Wf step J l x):Wf step J l p:=by
 intro s r Γ w v n hv hJ hvr
 refine callsIn_of_wp func318 (c:=bV) rfl vzz ?_
 have h0:VF J Γ w true s (aM 23 [(0,.agg (aa p)),(1,yv l)] [] []) (#[v,.func (.yield l) #[] #[]]++Array.replicate 21 undef) w:=by
  refine⟨Γ,hJ,.refl _ _,_,_,_,(hY.base _ _ _ _ hJ).fresh 0 (tmps:=[.agg (aa p),yv l]++List.replicate 21 .undef) (by simp) λt q u hq hu=>?_⟩
  by_cases ht:t<2
  ·rw[vac (by simpa using ht)]at hq
   rw[vaH (by simpa using ht)]at hu
   match t,ht with
   |0,_=>simp at hq hu;subst hq;subst hu;exact hvr
   |1,_=>simp at hq hu;subst hq;subst hu;exact .val _
  ·rw[vae (by simpa using ht),vaE]at hq
   split at hq<;>cases hq
   exact .undef u
 show bV.wpIn Fence.wide n Pg _ ⟨_,[]⟩ w
 rw[T0]at hv
 obtain⟨q,hq,hv⟩:=KZ hv
 have hb:Pg.funcs.size=Pg.funcs.size:=rfl
 have hret:∀{b:Bool} {s:S} {x:Bool} {H:List ax} {a':Act} {w':World},a'.defers=[]->VF J Γ w b s (vE H x) a'.tmps w'->b=r.1->s=r.2->x=r.1->
   bodyPost Pg f318 (λe w'=>∃Γ',e=.returned (.bool r.1)/\Γ.Le w Γ' w'/\J r.1 r.2 Γ' w') .ret a' w':=by
  rintro b s x H a' w' hd h rfl rfl rfl
  refine⟨hd,.bool r.1,h.fin,?_⟩
  obtain⟨Γ',hJ',hle,_⟩:=h
  exact⟨Γ',rfl,hle,hJ'⟩
 rw[W0]
 refine wpIn_seq (wpIn_mono (VF.piece hY (qfa p l) (k:=0) (QP (by exact aI (aJ p)<|aI vzz vzz) 0 rfl) h0) ?_)
 rintro e ⟨a1,ds1⟩ w1 ⟨rfl,rfl,h1⟩
 have d2:(PVal.eptr (aa p)).cl 0:=by simp only[PVal.cl];exact aJ p
 have d3:(PVal.agg (aa p)).cl 0:=by simp only[PVal.cl];exact aJ p
 refine wpIn_seq (wpIn_seq (wpIn_mono (VF.reg hY qcw (k:=1) (kB:=1) (r:=q) (stB:=aM 23 [(1,yv l),(2,.eptr (aa p)),(7,yv l),(8,.agg (aa p)),(9,.bool q.1)] [.dead] []) (QP (by exact aI vzz<|aI d2 vzz) 1 rfl) (QP (by exact aI vzz<|aI d2<|aI vzz<|aI d3<|aI vzz vzz) 1 rfl) (qfb p l) (qcJ p l q.1)
  (λa w next Q h hn=>VF.yieldc hY (kA:=1) (QP (by exact aI vzz<|aI d2<|aI vzz<|aI d3 vzz) 1 rfl) hq (f:=7) (x:=8) (d:=9) rfl rfl VP XP rfl h hn) h1) ?_))
 rintro e ⟨a2,ds2⟩ w2 ⟨rfl,rfl,h2⟩
 refine wpIn_cond (h2.ev (t:=10) (x:=!q.1) rfl) ?_
 have dS2:∀b:Bool,Dd (aM 23 [(1,yv l),(2,.eptr (aa p)),(10,.bool b)] [.dead] []) 1:=λb=>QP (by exact aI vzz<|aI d2<|aI vzz vzz) 1 rfl
 obtain⟨q1,q2⟩:=q
 cases q1 with
 |false=>
  cases hv
  refine wpIn_mono (VF.piece hY (qfc p l) (dS2 true) h2) ?_
  rintro e ⟨a3,ds3⟩ w3 ⟨rfl,rfl,h3⟩
  exact hret rfl h3 rfl rfl rfl
 | true =>
  simp only at hv
  split at hv
  case isFalse=>cases hv
  rename_i hlen
  refine wpIn_skip ?_
  refine wpIn_seq (wpIn_seq (wpIn_mono (VF.piece hY (qfd p l) (dS2 false) h2) ?_))
  rintro e ⟨a3,ds3⟩ w3 ⟨rfl,rfl,h3⟩
  refine wpIn_block (wpIn_loop_ghost (λk a w'=>a.defers=[]/\∃(i:Nat) (s':S),k=p.Kids.length - i/\i<=p.Kids.length/\RA step (p.Kids.drop i) s'=some r/\VF J Γ w true s' (Us l p.Kids (i:Int)) a.tmps w') (p.Kids.length)
   ⟨rfl,0,q2,rfl,va6 _,hv,h3⟩ ?_)
  rintro k ⟨a4,ds4⟩ w4 ⟨hd4,i,s',rfl,hi,hvl,h4⟩
  simp only at hd4;subst hd4
  rw[XO]
  refine wpIn_seq (wpIn_mono (VF.piece hY (qfe l p.Kids i) (Uf _ _ _) h4) ?_)
  rintro e ⟨a5,ds5⟩ w5 ⟨rfl,rfl,h5⟩
  refine wpIn_seq (wpIn_cond (h5.ev (t:=15) (x:=decide ((i:Int)<(p.Kids.length:Int))) rfl) ?_)
  by_cases hlt:i<p.Kids.length
  ·rw[decide_eq_true (by omega)]
   refine wpIn_skip ?_
   have hdrop:p.Kids.drop i=p.Kids[i]::p.Kids.drop (i+1):=vbB hlt
   rw[hdrop,RA]at hvl
   obtain⟨q',hq',hvl⟩:=KZ hvl
   have hx:dw p.Kids (i:Int)=some p.Kids[i]:=P3 _ _ hlt
   generalize hxx:p.Kids[i]=x at *
   have hxm:x∈p.Kids:=hxx▸vbO hlt
   have e2:(PVal.eptr (aa x)).cl 0:=by simp only[PVal.cl];exact aJ x
   have e3:(PVal.agg (aa x)).cl 0:=by simp only[PVal.cl];exact aJ x
   refine wpIn_seq (wpIn_block (wpIn_seq (wpIn_mono (VF.piece hY (qff l p.Kids i x hx) (Ug _ _ _) h5) ?_)))
   rintro e ⟨a6,ds6⟩ w6 ⟨rfl,rfl,h6⟩
   refine wpIn_seq (wpIn_mono (VF.reg hY qcx (k:=2) (kB:=2) (r:=q') (stB:=qdC l p.Kids i x q'.1) (QP (by exact aI vzz<|aI e2<|aI (QN _)<|aI vzz<|aI vzz vzz) 2 rfl) (QP (by exact aI vzz<|aI (QN _)<|aI vzz<|aI vzz<|aI e3<|aI vzz<|aI vzz vzz) 2 rfl) (qfg l p.Kids i x) (qcK l p.Kids i x q'.1)
    (λa w next Q h hn=>VF.visitc hY (kA:=2) (QP (by exact aI vzz<|aI (QN _)<|aI vzz<|aI vzz<|aI e3<|aI vzz vzz) 2 rfl) (hk x hxm) hq' (y:=19) (x:=18) (d:=20) rfl rfl VQ XQ rfl h hn) h6) ?_)
   rintro e ⟨a7,ds7⟩ w7 ⟨rfl,rfl,h7⟩
   refine wpIn_cond (h7.ev (t:=21) (x:=!q'.1) rfl) ?_
   obtain⟨q1,q2⟩:=q'
   cases q1 with
   |false=>
    cases hvl
    refine wpIn_mono (VF.piece hY (qfh l p.Kids i) (Uh _ _ _ _) h7) ?_
    rintro e ⟨a8,ds8⟩ w8 ⟨rfl,rfl,h8⟩
    exact hret rfl h8 rfl rfl rfl
   |true=>
    refine wpIn_skip ?_
    refine wpIn_mono (VF.piece hY (qfi l p.Kids i) (Uh _ _ _ _) h7) ?_
    rintro e ⟨a8,ds8⟩ w8 ⟨rfl,rfl,h8⟩
    refine⟨p.Kids.length - (i+1),by omega,rfl,i+1,q2,rfl,hlt,hvl,?_⟩
    have e:fh ((i:Int)+1)=((i+1:Nat):Int):=by rw[E1 (by omega) (by omega)];omega
    rw[e]at h8
    exact VF.redo (st0:=⟨(Us l p.Kids ((i+1:Nat):Int)).tmps,[.dead,.dead],[]⟩) hY (k:=2) ⟨(Uf l p.Kids _).c,rfl,rfl⟩ h8 1
  ·rw[decide_eq_false (by omega)]
   refine wpIn_exit ?_
   have hi':i=p.Kids.length:=by omega
   rw[vco (by omega),RA]at hvl
   cases hvl
   refine wpIn_mono (VF.piece hY (qfj l p.Kids i) (Ug _ _ _) h5) ?_
   rintro e ⟨a6,ds6⟩ w6 ⟨rfl,rfl,h6⟩
   exact hret rfl h6 rfl rfl rfl
mutual
theorem Oo(hY:Yd Pg GE l aa step J):∀p:ag,Wf step J l p
 |⟨o,n,k,ks⟩=>PE hY ⟨o,n,k,ks⟩ (Mg hY ks)
theorem Mg(hY:Yd Pg GE l aa step J):∀ks:List ag,∀x∈ks,Wf step J l x
 |[],x,hx=>by simp at hx
 | y :: ks,x,hx => by
  rcases vaI.1 hx with h|h
  ·exact h▸Oo hY y
  ·exact Mg hY ks x h
end
end
end Go.Proofs.YtankopenjcbeeaaGreatDoor
namespace Go.Proofs
open Go.Shelf
noncomputable def Tryz.laysM171_ren : Go.Shelf.Ren := ⟨fun | 171 => 202 | 243 => 244 | 246 => 284 | 283 => 309 | 284 => 310 | 285 => 311 | 286 => 312 | 129 => 101 | 317 => 322 | 318 => 323 | 319 => 324 | 320 => 325 | 337 => 333 | 338 => 334 | n => n, fun | 3 => 3 | 9 => 9 | 2 => 2 | 4 => 4 | 171 => 272 | 0 => 0 | 53 => 152 | 37 => 104 | 5 => 5 | 173 => 274 | 212 => 287 | 51 => 78 | 20 => 20 | 213 => 288 | 46 => 129 | 232 => 293 | 233 => 294 | n => n, fun | 17 => 2 | 18 => 4 | 19 => 5 | n => n⟩
theorem Tryz.laysM171 : Go.Proofs.LaysM.n171 Tryz.prog Tryz.laysM171_ren := {
 mixed := by kernel_rfl
 f129 := Tryz.func101.trans (congrArg some (by kernel_rfl))
 f171 := Tryz.func202.trans (congrArg some (by kernel_rfl))
 f243 := Tryz.func244.trans (congrArg some (by kernel_rfl))
 f246 := Tryz.func284.trans (congrArg some (by kernel_rfl))
 f283 := Tryz.func309.trans (congrArg some (by kernel_rfl))
 f284 := Tryz.func310.trans (congrArg some (by kernel_rfl))
 f285 := Tryz.func311.trans (congrArg some (by kernel_rfl))
 f286 := Tryz.func312.trans (congrArg some (by kernel_rfl))
 f317 := Tryz.func322.trans (congrArg some (by kernel_rfl))
 f318 := Tryz.func323.trans (congrArg some (by kernel_rfl))
 f319 := Tryz.func324.trans (congrArg some (by kernel_rfl))
 f320 := Tryz.func325.trans (congrArg some (by kernel_rfl))
 f337 := Tryz.func333.trans (congrArg some (by kernel_rfl))
 f338 := Tryz.func334.trans (congrArg some (by kernel_rfl))
 t0 := Tryz.underlying0
 a0 := Tryz.isAgg0
 z0 := Tryz.sizeOf0
 v0 := Tryz.zeroValue0
 t2 := Tryz.underlying2
 a2 := Tryz.isAgg2
 z2 := Tryz.sizeOf2
 v2 := Tryz.zeroValue2
 t3 := Tryz.underlying3
 a3 := Tryz.isAgg3
 z3 := Tryz.sizeOf3
 v3 := Tryz.zeroValue3
 t4 := Tryz.underlying4
 a4 := Tryz.isAgg4
 z4 := Tryz.sizeOf4
 v4 := Tryz.zeroValue4
 t5 := Tryz.underlying5
 a5 := Tryz.isAgg5
 z5 := Tryz.sizeOf5
 v5 := Tryz.zeroValue5
 t9 := Tryz.underlying9
 a9 := Tryz.isAgg9
 z9 := Tryz.sizeOf9
 v9 := Tryz.zeroValue9
 t20 := Tryz.underlying20
 a20 := Tryz.isAgg20
 z20 := Tryz.sizeOf20
 v20 := Tryz.zeroValue20
 t37 := Tryz.underlying104
 a37 := Tryz.isAgg104
 z37 := Tryz.sizeOf104
 v37 := Tryz.zeroValue104
 t46 := Tryz.underlying129
 a46 := Tryz.isAgg129
 z46 := Tryz.sizeOf129
 v46 := Tryz.zeroValue129
 t51 := Tryz.underlying78
 a51 := Tryz.isAgg78
 z51 := Tryz.sizeOf78
 v51 := Tryz.zeroValue78
 t53 := Tryz.underlying152
 a53 := Tryz.isAgg152
 z53 := Tryz.sizeOf152
 v53 := Tryz.zeroValue152
 t171 := Tryz.underlying272
 a171 := Tryz.isAgg272
 z171 := Tryz.sizeOf272
 v171 := Tryz.zeroValue272
 t173 := Tryz.underlying274
 a173 := Tryz.isAgg274
 z173 := Tryz.sizeOf274
 v173 := Tryz.zeroValue274
 t212 := Tryz.underlying287
 a212 := Tryz.isAgg287
 z212 := Tryz.sizeOf287
 v212 := Tryz.zeroValue287
 t213 := Tryz.underlying288
 a213 := Tryz.isAgg288
 z213 := Tryz.sizeOf288
 t232 := Tryz.underlying293
 a232 := Tryz.isAgg293
 z232 := Tryz.sizeOf293
 v232 := Tryz.zeroValue293
 t233 := Tryz.underlying294
 a233 := Tryz.isAgg294
 z233 := Tryz.sizeOf294
 v233 := Tryz.zeroValue294
 g17 := by kernel_rfl
 g18 := by kernel_rfl
 g19 := by kernel_rfl
 i0 := by kernel_rfl
 i2 := by kernel_rfl
 i3 := by kernel_rfl
 i4 := by kernel_rfl
 i5 := by kernel_rfl
 i9 := by kernel_rfl
 i20 := by kernel_rfl
 i37 := by kernel_rfl
 i46 := by kernel_rfl
 i51 := by kernel_rfl
 i53 := by kernel_rfl
 i171 := by kernel_rfl
 i173 := by kernel_rfl
 i212 := by kernel_rfl
 i232 := by kernel_rfl
 i233 := by kernel_rfl
 m17 := by kernel_rfl
 m18 := by kernel_rfl
 m19 := by kernel_rfl }
noncomputable def Tryz.lays156_ren : Go.Shelf.Ren := ⟨fun | 156 => 273 | 165 => 306 | 166 => 67 | 169 => 68 | 240 => 85 | 241 => 321 | 276 => 118 | 277 => 332 | n => n, fun | 31 => 32 | 9 => 9 | 3 => 3 | 4 => 4 | 0 => 0 | 20 => 20 | 72 => 106 | 76 => 109 | 70 => 103 | 37 => 104 | 75 => 108 | 127 => 138 | 164 => 159 | 5 => 5 | 80 => 111 | n => n, fun | n => n⟩
theorem Tryz.lays156 : Go.Proofs.Lays.n156 Tryz.prog Tryz.lays156_ren := {
 mixed := by kernel_rfl
 f156 := Tryz.func273.trans (congrArg some (by kernel_rfl))
 f165 := Tryz.func306.trans (congrArg some (by kernel_rfl))
 f166 := Tryz.func67.trans (congrArg some (by kernel_rfl))
 f169 := Tryz.func68.trans (congrArg some (by kernel_rfl))
 f240 := Tryz.func85.trans (congrArg some (by kernel_rfl))
 f241 := Tryz.func321.trans (congrArg some (by kernel_rfl))
 f276 := Tryz.func118.trans (congrArg some (by kernel_rfl))
 f277 := Tryz.func332.trans (congrArg some (by kernel_rfl))
 t0 := Tryz.underlying0
 a0 := Tryz.isAgg0
 z0 := Tryz.sizeOf0
 v0 := Tryz.zeroValue0
 t3 := Tryz.underlying3
 a3 := Tryz.isAgg3
 z3 := Tryz.sizeOf3
 v3 := Tryz.zeroValue3
 t4 := Tryz.underlying4
 a4 := Tryz.isAgg4
 z4 := Tryz.sizeOf4
 v4 := Tryz.zeroValue4
 t9 := Tryz.underlying9
 a9 := Tryz.isAgg9
 z9 := Tryz.sizeOf9
 v9 := Tryz.zeroValue9
 t20 := Tryz.underlying20
 a20 := Tryz.isAgg20
 z20 := Tryz.sizeOf20
 v20 := Tryz.zeroValue20
 t31 := Tryz.underlying32
 a31 := Tryz.isAgg32
 z31 := Tryz.sizeOf32
 v31 := Tryz.zeroValue32
 t37 := Tryz.underlying104
 a37 := Tryz.isAgg104
 z37 := Tryz.sizeOf104
 v37 := Tryz.zeroValue104
 t70 := Tryz.underlying103
 a70 := Tryz.isAgg103
 z70 := Tryz.sizeOf103
 v70 := Tryz.zeroValue103
 t72 := Tryz.underlying106
 a72 := Tryz.isAgg106
 z72 := Tryz.sizeOf106
 v72 := Tryz.zeroValue106
 t75 := Tryz.underlying108
 a75 := Tryz.isAgg108
 z75 := Tryz.sizeOf108
 v75 := Tryz.zeroValue108
 t76 := Tryz.underlying109
 a76 := Tryz.isAgg109
 z76 := Tryz.sizeOf109
 v76 := Tryz.zeroValue109
 t127 := Tryz.underlying138
 a127 := Tryz.isAgg138
 z127 := Tryz.sizeOf138
 v127 := Tryz.zeroValue138
 t164 := Tryz.underlying159
 a164 := Tryz.isAgg159
 z164 := Tryz.sizeOf159
 v164 := Tryz.zeroValue159 }
noncomputable def Tryz.lays169_ren : Go.Shelf.Ren := ⟨fun | 169 => 68 | n => n, fun | 70 => 103 | 9 => 9 | 0 => 0 | 72 => 106 | 37 => 104 | 127 => 138 | 3 => 3 | 5 => 5 | n => n, fun | n => n⟩
theorem Tryz.lays169 : Go.Proofs.Lays.n169 Tryz.prog Tryz.lays169_ren := {
 mixed := by kernel_rfl
 f169 := Tryz.func68.trans (congrArg some (by kernel_rfl))
 t0 := Tryz.underlying0
 a0 := Tryz.isAgg0
 z0 := Tryz.sizeOf0
 v0 := Tryz.zeroValue0
 t3 := Tryz.underlying3
 a3 := Tryz.isAgg3
 z3 := Tryz.sizeOf3
 v3 := Tryz.zeroValue3
 t9 := Tryz.underlying9
 a9 := Tryz.isAgg9
 z9 := Tryz.sizeOf9
 v9 := Tryz.zeroValue9
 t37 := Tryz.underlying104
 a37 := Tryz.isAgg104
 z37 := Tryz.sizeOf104
 v37 := Tryz.zeroValue104
 t70 := Tryz.underlying103
 a70 := Tryz.isAgg103
 z70 := Tryz.sizeOf103
 v70 := Tryz.zeroValue103
 t72 := Tryz.underlying106
 a72 := Tryz.isAgg106
 z72 := Tryz.sizeOf106
 v72 := Tryz.zeroValue106
 t127 := Tryz.underlying138
 a127 := Tryz.isAgg138
 z127 := Tryz.sizeOf138
 v127 := Tryz.zeroValue138 }
noncomputable def Tryz.lays190_ren : Go.Shelf.Ren := ⟨fun | 190 => 52 | 125 => 75 | 258 => 74 | 128 => 100 | 129 => 101 | 302 => 91 | 303 => 92 | 304 => 93 | 305 => 94 | 306 => 95 | 307 => 96 | 308 => 97 | 309 => 98 | 310 => 99 | 333 => 132 | 329 => 133 | 330 => 134 | 334 => 135 | 335 => 136 | 336 => 137 | 344 => 185 | n => n, fun | 31 => 32 | 9 => 9 | 3 => 3 | 46 => 129 | 0 => 0 | 51 => 78 | 53 => 152 | 4 => 4 | 183 => 144 | 182 => 143 | 131 => 80 | 5 => 5 | 218 => 173 | 222 => 177 | 228 => 215 | 229 => 216 | n => n, fun | n => n⟩
theorem Tryz.lays190 : Go.Proofs.Lays.n190 Tryz.prog Tryz.lays190_ren := {
 mixed := by kernel_rfl
 f125 := Tryz.func75.trans (congrArg some (by kernel_rfl))
 f128 := Tryz.func100.trans (congrArg some (by kernel_rfl))
 f129 := Tryz.func101.trans (congrArg some (by kernel_rfl))
 f190 := Tryz.func52.trans (congrArg some (by kernel_rfl))
 f258 := Tryz.func74.trans (congrArg some (by kernel_rfl))
 f302 := Tryz.func91.trans (congrArg some (by kernel_rfl))
 f303 := Tryz.func92.trans (congrArg some (by kernel_rfl))
 f304 := Tryz.func93.trans (congrArg some (by kernel_rfl))
 f305 := Tryz.func94.trans (congrArg some (by kernel_rfl))
 f306 := Tryz.func95.trans (congrArg some (by kernel_rfl))
 f307 := Tryz.func96.trans (congrArg some (by kernel_rfl))
 f308 := Tryz.func97.trans (congrArg some (by kernel_rfl))
 f309 := Tryz.func98.trans (congrArg some (by kernel_rfl))
 f310 := Tryz.func99.trans (congrArg some (by kernel_rfl))
 f329 := Tryz.func133.trans (congrArg some (by kernel_rfl))
 f330 := Tryz.func134.trans (congrArg some (by kernel_rfl))
 f333 := Tryz.func132.trans (congrArg some (by kernel_rfl))
 f334 := Tryz.func135.trans (congrArg some (by kernel_rfl))
 f335 := Tryz.func136.trans (congrArg some (by kernel_rfl))
 f336 := Tryz.func137.trans (congrArg some (by kernel_rfl))
 f344 := Tryz.func185.trans (congrArg some (by kernel_rfl))
 t0 := Tryz.underlying0
 a0 := Tryz.isAgg0
 z0 := Tryz.sizeOf0
 v0 := Tryz.zeroValue0
 t3 := Tryz.underlying3
 a3 := Tryz.isAgg3
 z3 := Tryz.sizeOf3
 v3 := Tryz.zeroValue3
 t4 := Tryz.underlying4
 a4 := Tryz.isAgg4
 z4 := Tryz.sizeOf4
 v4 := Tryz.zeroValue4
 t5 := Tryz.underlying5
 a5 := Tryz.isAgg5
 z5 := Tryz.sizeOf5
 v5 := Tryz.zeroValue5
 t9 := Tryz.underlying9
 a9 := Tryz.isAgg9
 z9 := Tryz.sizeOf9
 v9 := Tryz.zeroValue9
 t31 := Tryz.underlying32
 a31 := Tryz.isAgg32
 z31 := Tryz.sizeOf32
 v31 := Tryz.zeroValue32
 t46 := Tryz.underlying129
 a46 := Tryz.isAgg129
 z46 := Tryz.sizeOf129
 v46 := Tryz.zeroValue129
 t51 := Tryz.underlying78
 a51 := Tryz.isAgg78
 z51 := Tryz.sizeOf78
 v51 := Tryz.zeroValue78
 t53 := Tryz.underlying152
 a53 := Tryz.isAgg152
 z53 := Tryz.sizeOf152
 v53 := Tryz.zeroValue152
 t131 := Tryz.underlying80
 a131 := Tryz.isAgg80
 z131 := Tryz.sizeOf80
 v131 := Tryz.zeroValue80
 t182 := Tryz.underlying143
 a182 := Tryz.isAgg143
 z182 := Tryz.sizeOf143
 v182 := Tryz.zeroValue143
 t183 := Tryz.underlying144
 a183 := Tryz.isAgg144
 z183 := Tryz.sizeOf144
 v183 := Tryz.zeroValue144
 t218 := Tryz.underlying173
 a218 := Tryz.isAgg173
 z218 := Tryz.sizeOf173
 v218 := Tryz.zeroValue173
 t222 := Tryz.underlying177
 a222 := Tryz.isAgg177
 z222 := Tryz.sizeOf177
 v222 := Tryz.zeroValue177
 t228 := Tryz.underlying215
 a228 := Tryz.isAgg215
 z228 := Tryz.sizeOf215
 v228 := Tryz.zeroValue215
 t229 := Tryz.underlying216
 a229 := Tryz.isAgg216
 z229 := Tryz.sizeOf216
 v229 := Tryz.zeroValue216 }
noncomputable def Tryz.lays194_ren : Go.Shelf.Ren := ⟨fun | 194 => 53 | n => n, fun | 31 => 32 | 9 => 9 | 3 => 3 | 4 => 4 | 0 => 0 | n => n, fun | n => n⟩
theorem Tryz.lays194 : Go.Proofs.Lays.n194 Tryz.prog Tryz.lays194_ren := {
 mixed := by kernel_rfl
 f194 := Tryz.func53.trans (congrArg some (by kernel_rfl))
 t0 := Tryz.underlying0
 a0 := Tryz.isAgg0
 z0 := Tryz.sizeOf0
 v0 := Tryz.zeroValue0
 t3 := Tryz.underlying3
 a3 := Tryz.isAgg3
 z3 := Tryz.sizeOf3
 v3 := Tryz.zeroValue3
 t4 := Tryz.underlying4
 a4 := Tryz.isAgg4
 z4 := Tryz.sizeOf4
 v4 := Tryz.zeroValue4
 t9 := Tryz.underlying9
 a9 := Tryz.isAgg9
 z9 := Tryz.sizeOf9
 v9 := Tryz.zeroValue9
 t31 := Tryz.underlying32
 a31 := Tryz.isAgg32
 z31 := Tryz.sizeOf32
 v31 := Tryz.zeroValue32 }
noncomputable def Tryz.lc130_ren : Go.Shelf.Ren := ⟨fun | 41 => 130 | n => n, fun | 22 => 32 | 23 => 9 | 4 => 4 | n => n, fun | n => n⟩
theorem Tryz.lc130 : Go.Proofs.SlLaysE0.n41 Tryz.prog Tryz.lc130_ren := {
 mixed := by kernel_rfl
 f41 := ⟨Tryz.f130.name, by decide, Tryz.func130.trans (congrArg some (by kernel_rfl))⟩
 t4 := Tryz.underlying4
 a4 := Tryz.isAgg4
 z4 := Tryz.sizeOf4
 v4 := Tryz.zeroValue4
 t22 := Tryz.underlying32
 a22 := Tryz.isAgg32
 z22 := Tryz.sizeOf32
 v22 := Tryz.zeroValue32 }
noncomputable def Tryz.ix90_ren : Go.Shelf.Ren := ⟨fun | 29 => 90 | n => n, fun | 22 => 32 | 23 => 9 | 3 => 3 | 0 => 0 | 4 => 4 | n => n, fun | n => n⟩
theorem Tryz.ix90 : Go.Proofs.SlLaysE.n29 Tryz.prog Tryz.ix90_ren := {
 mixed := by kernel_rfl
 f29 := ⟨Tryz.f90.name, by decide, Tryz.func90.trans (congrArg some (by kernel_rfl))⟩
 t0 := Tryz.underlying0
 a0 := Tryz.isAgg0
 z0 := Tryz.sizeOf0
 v0 := Tryz.zeroValue0
 t3 := Tryz.underlying3
 a3 := Tryz.isAgg3
 z3 := Tryz.sizeOf3
 v3 := Tryz.zeroValue3
 t4 := Tryz.underlying4
 a4 := Tryz.isAgg4
 z4 := Tryz.sizeOf4
 v4 := Tryz.zeroValue4
 t22 := Tryz.underlying32
 a22 := Tryz.isAgg32
 z22 := Tryz.sizeOf32
 v22 := Tryz.zeroValue32
 a23 := Tryz.isAgg9
 z23 := Tryz.sizeOf9 }
noncomputable def Tryz.df31_ren : Go.Shelf.Ren := ⟨fun | 10 => 31 | 6 => 51 | n => n, fun | 22 => 32 | 23 => 9 | 25 => 40 | 3 => 3 | 4 => 4 | 0 => 0 | n => n, fun | n => n⟩
theorem Tryz.df31 : Go.Proofs.SlLaysH.n10 Tryz.prog Tryz.df31_ren := {
 mixed := by kernel_rfl
 f6 := ⟨Tryz.f51.name, by decide, Tryz.func51.trans (congrArg some (by kernel_rfl))⟩
 f10 := ⟨Tryz.f31.name, by decide, Tryz.func31.trans (congrArg some (by kernel_rfl))⟩
 t0 := Tryz.underlying0
 a0 := Tryz.isAgg0
 z0 := Tryz.sizeOf0
 v0 := Tryz.zeroValue0
 t3 := Tryz.underlying3
 a3 := Tryz.isAgg3
 z3 := Tryz.sizeOf3
 v3 := Tryz.zeroValue3
 t4 := Tryz.underlying4
 a4 := Tryz.isAgg4
 z4 := Tryz.sizeOf4
 v4 := Tryz.zeroValue4
 t22 := Tryz.underlying32
 a22 := Tryz.isAgg32
 z22 := Tryz.sizeOf32
 v22 := Tryz.zeroValue32
 a23 := Tryz.isAgg9
 z23 := Tryz.sizeOf9
 t25 := Tryz.underlying40
 a25 := Tryz.isAgg40
 z25 := Tryz.sizeOf40
 v25 := Tryz.zeroValue40 }
end Go.Proofs
namespace Go.Proofs.YtankopenjcbeeaaGreatDoor
open Go Go.Proofs.Tryz
set_option maxRecDepth 100000
def NW(n:Int):Option ac:=if(decide (-9223372036854775808<=n)&&decide (n<=9223372036854775807))=true then some (Lib.itoa n)else none
theorem SI:iB=Lib.pow10Tab:=by kernel_rfl
theorem Jk{n:Int}{r:ac}(h:NW n=some r):CC Pg GE 202 [.int .i64 n] (.str r) []:=by
 rcases OB h with⟨b,h⟩|⟨b,h⟩
 ·obtain rfl:=lf h
  simp only[vaf,vap]at b
  refine CC.grownIS call202 λE Γ bs ow w a st hE hS=>?_
  have htab:Lib.TabIs Pg w "internal/strconv.uint64pow10" .u64 Lib.pow10Tab:=VM hS (g:=2) (by rw[hE,←SI];simp[GE]) (by kernel_rfl)
  refine(Any.strconv_Itoa Tryz.laysM171 n b.1 b.2 w htab).mono λe w' he=>?_
  obtain⟨rfl,k,os,rfl⟩:=he
  exact⟨rfl,.of_grow _ _ _⟩
 ·cases h
abbrev fB:Nat:=304
abbrev fW:Nat:=317
noncomputable def bW:Code:=f317.body.getD .skip
noncomputable def bB:Code:=f304.body.getD .skip
theorem QB(p:ag):CC Pg GE fB [.agg (aa p)] (.func (.func fW) [] [.eptr (aa p)]) []:=by
 have z:=se (fy p)<|en (aI (rP (.func (.func fW) [] [.eptr (aa p)]))<|(aI vzz (aI (show eP 0 (aa p)from aJ p) trivial)))
 exact C.evp (A:=[]) mixed call304 func304 (c:=bB) rfl (aI (aJ p) trivial) z (by kernel_rfl)
theorem W1:bW=.region (Nt bW) (gf bW) false:=by kernel_rfl
theorem W5:List.range (gf bW).size=[0,1]++2::([]:List Nat):=by kernel_rfl
theorem W3:[0,1].map (λi=>(gf bW)[i]?)=((gf bW).toList.take 2).map some:=by kernel_rfl
theorem W4:((gf bW).toList.take 2).all EB=true:=by kernel_rfl
theorem qbU:(gf bW)[2]? =some (AL bW 2):=by kernel_rfl
theorem qbT:(AL bW 2).guard=none:=by kernel_rfl
theorem W2:(AL bW 2).op=.call {callee:=.value (.func fV),args:=#[.tmp 3,.tmp 4],argTypes:=LD (AL bW 2)}:=by kernel_rfl
theorem qbS:(AL bW 2).dst=some 5:=by kernel_rfl
theorem Vg(p:ag)(l:Nat):b8 Pg GE [] (gf bW) (λst=>FG st (aM 6 [(3,.agg (aa p)),(4,yv l)] [] [])) ((gf bW).toList.take 2) 0 (aM 6 [(0,yv l),(1,.eptr (aa p))] [] []):=by
 have z:=sv (co p)<|en (fr (aM 6 [(3,.agg (aa p)),(4,yv l)] [] []))
 exact F7 z (by kernel_rfl)
section
variable{S:Type}{step:S->ag->Option (Bool×S)}{J:Bool->S->aP->World->Prop}{l:Nat}
theorem Vh(hY:Yd Pg GE l aa step J)(p:ag){s:S}{r:Bool×S}{Γ:aP}{w:World}{v:Value}{n:Nat}(hv:PD step p s=some r)(hJ:J true s Γ w)(hvr:VR Γ [] w (.eptr (aa p)) v):CallsIn Fence.wide n Pg fW #[.func (.yield l) #[] #[],v] w λe w'=>(∃u,e=.returned u)/\∃Γ',Γ.Le w Γ' w'/\J r.1 r.2 Γ' w':=by
 refine callsIn_of_wp func317 (c:=bW) rfl vzz ?_
 have h0:VF J Γ w true s (aM 6 [(0,yv l),(1,.eptr (aa p))] [] []) (#[.func (.yield l) #[] #[],v]++Array.replicate 4 undef) w:=by
  refine⟨Γ,hJ,.refl _ _,_,_,_,(hY.base _ _ _ _ hJ).fresh 0 (tmps:=[yv l,.eptr (aa p)]++List.replicate 4 .undef) (by simp) λt q u hq hu=>?_⟩
  by_cases ht:t<2
  ·rw[vac (by simpa using ht)]at hq
   rw[vaH (by simpa using ht)]at hu
   match t,ht with
   |0,_=>simp at hq hu;subst hq;subst hu;exact .val _
   |1,_=>simp at hq hu;subst hq;subst hu;exact hvr
  ·rw[vae (by simpa using ht),vaE]at hq
   split at hq<;>cases hq
   exact .undef u
 show bW.wpIn Fence.wide n Pg _ ⟨_,[]⟩ w
 have d2:(PVal.eptr (aa p)).cl 0:=aJ p
 have d3:(PVal.agg (aa p)).cl 0:=aJ p
 have key:(Code.region (Nt bW) (gf bW) false).wpIn Fence.wide n Pg (bodyPost Pg f317 λe w'=>(∃u,e=.returned u)/\∃Γ',Γ.Le w Γ' w'/\J r.1 r.2 Γ' w') ⟨#[.func (.yield l) #[] #[],v]++Array.replicate 4 undef,[]⟩ w:=by
  refine wpIn_region ?_
  rw[W5]
  obtain⟨Γ1,hJ1,hle1,hS⟩:=VF.again hY (k:=0) (QP (L:=[(0,yv l),(1,.eptr (aa p))]) (by exact aI vzz<|aI d2 vzz) 0 rfl) h0
  refine CD (A:=[]) (K:=λst=>FG st (aM 6 [(3,.agg (aa p)),(4,yv l)] [] [])) (λΓ' bs' ow' a' w' st hS' hK=>?_) _ _ Γ1 _ _ _ w _ W3 (pk W4) hS (Vg p l)
  obtain⟨Γ2,bs2,ow2,hS2⟩:=FG.sr hS' hK
  refine Ey qbU qbT (VF.visitc hY (kA:=0) (stB:=aM 6 [(3,.agg (aa p)),(4,yv l),(5,.bool r.1)] [] []) (QP (by exact aI d3<|aI vzz vzz) 0 rfl) (Oo hY p) hv (y:=4) (x:=3) (d:=5) rfl rfl W2 qbS rfl ⟨Γ2,hY.side _ _ _ _ hJ1 _ _ _ _ _ _ hS2,hle1.trans hS2.step.le,_,_,_,hS2⟩ λa3 w3 h3=>?_)
  obtain⟨Γ3,hJ3,hle3,E,bs3,ow3,hS3⟩:=h3
  obtain⟨u,e1,_⟩:=j5 hS3 (fn:=f317) (r:=.tuple []) (by kernel_rfl)
  exact⟨rfl,u,e1,⟨u,rfl⟩,Γ3,hle3,hJ3⟩
 rw[<-W1]at key
 exact key
end
theorem O0:sT Pg 130 9:=QL Tryz.lc130 rfl rfl (by kernel_rfl) call130
theorem uQ{l r:List ac}(h:Bb l=some r):CC Pg GE 130 [sl cS l] (sl cS r) [(0,9)]:=cz.cloneCC O0 h
set_option linter.unusedSimpArgs false
def iK(l:List ac):List ac:=l.mergeSort λx y=>decide (x<=y)
abbrev SZ(x y:ac):Prop:=Op.bytesLess x y=true
theorem He:∀(x:ac),Op.bytesLess x x=false
 |[]=>rfl
 |a::x=>by
  unfold Op.bytesLess
  rw[He x]
  simp[UInt8.lt_irrefl]
theorem A7:∀{x y z:ac},SZ x y->SZ y z->SZ x z
 |_,_,[],h1,h2=>by simp[SZ,Op.bytesLess]at h2
 |_,[],_::_,h1,h2=>by simp[SZ,Op.bytesLess]at h1
 |[],_::_,_::_,_,_=>rfl
 | a :: x,b :: y,c :: z,h1,h2 => by
  unfold SZ Op.bytesLess at h1 h2 ⊢
  simp only[va2,vap,vaf,va0]at h1 h2 ⊢
  rcases h1 with h1|⟨rfl,h1⟩
  ·rcases h2 with h2|⟨rfl,h2⟩
   ·exact .inl (UInt8.lt_trans h1 h2)
   ·exact .inl h1
  ·rcases h2 with h2|⟨rfl,h2⟩
   ·exact .inl h2
   ·exact .inr ⟨rfl,A7 h1 h2⟩
theorem Fd:∀{x y:ac},Op.bytesLess x y=false->Op.bytesLess y x=false->x=y
 |[],[],_,_=>rfl
 |[],_::_,h,_=>by simp[Op.bytesLess]at h
 |_::_,[],_,h=>by simp[Op.bytesLess]at h
 | a :: x,b :: y,h1,h2 => by
  unfold Op.bytesLess at h1 h2
  simp only[vct,vbG,Bool.and_eq_false_imp,va0]at h1 h2
  have hab:a=b:=by
   have k1:=UInt8.not_lt.1 h1.1
   have k2:=UInt8.not_lt.1 h2.1
   exact UInt8.le_antisymm k2 k1
  subst hab
  rw[Fd (h1.2 rfl) (h2.2 rfl)]
theorem T4:∀(x y:ac),Op.bytesLess x y=decide (x<y)
 |[],[]=>by simp[Op.bytesLess]
 |_::_,[]=>by simp[Op.bytesLess]
 |[],_::_=>by simp[Op.bytesLess]
 |a::x,b::y=>by
  unfold Op.bytesLess
  rw[T4 x y,Bool.eq_iff_iff]
  simp[List.cons_lt_cons_iff]
theorem P5(x y:ac):decide (x<=y)= !Op.bytesLess y x:=by
 rw[T4]
 rw[<-decide_not]
 rfl
theorem Np(l:List ac):(iK l).Pairwise λx y=>Op.bytesLess y x=false:=by
 have:=List.pairwise_mergeSort (le:=λx y:ac=>decide (x<=y)) (λa b c h1 h2=>by
  rw[P5]at h1 h2 ⊢
  simp only[vaQ]at h1 h2 ⊢
  cases h:Op.bytesLess c a with
  |false=>rfl
  | true =>
   exfalso
   by_cases hb:Op.bytesLess a b=true
   ·have:=A7 h hb
    unfold SZ at this
    rw[h2]at this
    cases this
   ·have:a=b:=Fd (by simpa using hb) h1
    subst this
    rw[h2]at h
    cases h) (λa b=>by
  rw[P5,P5]
  cases h:Op.bytesLess b a with
  |false=>rfl
  | true =>
   cases h':Op.bytesLess a b with
   |false=>rfl
   |true=>
    have:=A7 h h'
    unfold SZ at this
    rw[He]at this
    cases this) l
 refine List.Pairwise.imp ?_ this
 intro a b h
 rw[P5]at h
 simpa using h
def Pf(x:ac):List ac->List ac
 |[]=>[x]
 |y::r=>if Op.bytesLess y x=true then y::Pf x r else x::y::r
def rb:List ac->List ac
 |[]=>[]
 |x::r=>Pf x (rb r)
theorem Hp(x:ac):∀l,(Pf x l).Perm (x::l)
 |[]=>.refl _
 | y :: r => by
  unfold Pf
  split
  ·exact((Hp x r).cons y).trans (List.Perm.swap x y r)
  ·exact .refl _
theorem jO:∀l,(rb l).Perm l
 |[]=>.refl _
 |x::r=>(Hp x (rb r)).trans ((jO r).cons x)
abbrev S3(l:List ac):Prop:=l.Pairwise λx y=>Op.bytesLess y x=false
theorem Ig(x:ac):∀{l},S3 l->S3 (Pf x l)
 |[],_=>by simp[Pf,S3]
 | y :: r,h => by
  unfold S3 at h ⊢
  have h':=vbJ.1 h
  unfold Pf
  split
  ·rename_i hy
   rw[vbJ]
   refine⟨λz hz=>?_,Ig x h'.2⟩
   rcases vaI.1 ((Hp x r).mem_iff.1 hz)with rfl|hz
   ·cases hc:Op.bytesLess z y with
    |false=>rfl
    |true=>have:=A7 hy hc;unfold SZ at this;rw[He]at this;cases this
   ·exact h'.1 z hz
  ·rename_i hy
   have hy:Op.bytesLess y x=false:=by simpa using hy
   rw[vbJ]
   refine⟨λz hz=>?_,h⟩
   rcases vaI.1 hz with rfl|hz
   ·exact hy
   ·have hz:=h'.1 z hz
    cases hc:Op.bytesLess z x with
    |false=>rfl
    | true =>
     exfalso
     by_cases hxy:Op.bytesLess x y=true
     ·have:=A7 hc hxy
      unfold SZ at this
      rw[hz]at this;cases this
     ·have:x=y:=Fd (by simpa using hxy) hy
      subst this
      rw[hz]at hc;cases hc
theorem gd:∀l,S3 (rb l)
 |[]=>by simp[rb,S3]
 |x::r=>Ig x (gd r)
theorem ua:∀{a b:List ac},S3 a->S3 b->a.Perm b->a=b
 |[],b,_,_,h=>(List.Perm.nil_eq h)
 |x::a,[],_,_,h=>by have:=h.length_eq;simp at this
 | x :: a,y :: b,ha,hb,h => by
  unfold S3 at ha hb
  have ha':=vbJ.1 ha
  have hb':=vbJ.1 hb
  have hxy:x=y:=by
   rcases vaI.1 (h.mem_iff.1 (vcb:x∈x::a))with hx|hx
   ·exact hx
   ·rcases vaI.1 (h.mem_iff.2 (vcb:y∈y::b))with hy|hy
    ·exact hy.symm
    ·exact Fd (hb'.1 x hx) (ha'.1 y hy)
  subst hxy
  congr 1
  exact ua ha'.2 hb'.2 (List.Perm.cons_inv h)
theorem FE(l:List ac):rb l=iK l:=ua (gd l) (Np l) ((jO l).trans (List.mergeSort_perm l _).symm)
open Go Go.Sort Go.Proofs.Tryz
theorem FC{w:World}{b:Nat}{cur:Array Value}{e:TypeId}{l:List ac}(hh:w.heap[b]? =some (.cells cur e (0,0)))(ht:cur.toList.take l.length=l.map λs=>Value.string ⟨s.toArray⟩):Holds encStr w b 0 l.toArray:=by
 intro j hj
 have hj':j<l.length:=by simpa using hj
 rw[vaD]
 refine⟨?_,frozen_of_row w b j cur e hh⟩
 rw[cell_of_row w b j cur e _ hh]
 have h1:(cur.toList.take l.length)[j]? =(l.map λs=>Value.string ⟨s.toArray⟩)[j]?:=by rw[ht]
 rw[vao hj']at h1
 simp only[vaA,vah,vaa hj',van]at h1
 rw[h1,getElem!_pos _ j hj]
 simp[encStr]
theorem sS{w:World}{b n:Nat}{cur:Array Value}{e:TypeId}{os:Array Obj}(d l:List ac)(hh:w.heap[b]? =some (.cells cur e (0,0)))(hd:d.length<=cur.size)(hl:d.take l.length=l):(∀b',b'<w.heap.size->b'≠b->(grow (putRow encStr (Sort.ahead w n) b 0 d.toArray) os).heap[b']? =w.heap[b']?)/\w.heap.size<=(grow (putRow encStr (Sort.ahead w n) b 0 d.toArray) os).heap.size/\
   ∃cur',(grow (putRow encStr (Sort.ahead w n) b 0 d.toArray) os).heap[b]? =some (.cells cur' e (0,0))/\cur'.size=cur.size/\cur'.toList.take l.length=l.map λs=>Value.string ⟨s.toArray⟩:=by
 have hb:b<w.heap.size:=(vab.1 hh).1
 have hsz:(putRow encStr (Sort.ahead w n) b 0 d.toArray).heap.size=w.heap.size:=by simp[putRow,mapBlock,Sort.ahead]
 refine⟨λb' h1 h2=>?_,?_,putCells encStr 0 d.toArray cur,?_,by simp[putCells],?_⟩
 ·show((putRow encStr (Sort.ahead w n) b 0 d.toArray).heap++os)[b']? =_
  rw[vaH (by rw[hsz];exact h1)]
  show(w.heap.modify b (onCells _))[b']? =_
  rw[vba,vaM (λe=>h2 e.symm)]
 ·show _<=((putRow encStr (Sort.ahead w n) b 0 d.toArray).heap++os).size
  rw[Array.size_append,hsz];omega
 ·show((putRow encStr (Sort.ahead w n) b 0 d.toArray).heap++os)[b]? =_
  rw[vaH (by rw[hsz];exact hb)]
  show(w.heap.modify b (onCells _))[b]? =_
  rw[vba,vaJ rfl,hh]
  rfl
 ·have hll:l.length<=d.length:=by have h0:=vaS List.length hl;rw[vbb]at h0;omega
  refine vaL λi=>?_
  by_cases hi:i<l.length
  ·have hdl:i<d.length:=by omega
   have hdi:d[i]=l[i]:=by
    have h1:(d.take l.length)[i]? =l[i]?:=by rw[hl]
    rw[vao hi,vaa hdl,vaa hi]at h1
    exact vbf h1
   rw[vao hi]
   simp only[vaA,putCells,Array.getElem?_mapIdx,vah,vaa hi,van]
   have hc:cur[i]? =some (cur[i]'(by omega)):=vaC (by omega)
   rw[hc]
   simp only[van]
   rw[vaJ ⟨va6 _,by simp;omega⟩,Nat.sub_zero,getElem!_pos _ i (by simpa using hdl)]
   simp[encStr,hdi]
  ·rw[vav (by simp[putCells];omega),vav (by simp;omega)]
theorem iz(l:List ac):(iK l).length=l.length:=by unfold iK;exact List.length_mergeSort _
theorem RS{n:Nat}(h:n<=bF):n<4611686018427387904:=by unfold bF at h;omega
theorem Jo:RL Pg 52 9 (λs=>Value.string ⟨s.toArray⟩) iK (λ_ _ _=>.tuple #[]):={
 call:=call52
 row:=λw b cap cur l hh hc hl hm hla ht=>by
  have hlen:=RS hla
  refine(Any.slices_Sort_string Tryz.lays190 b 0 cap l w (FC hh ht) ((vab.1 hh).1) hlen).mono λr w' hr=>?_
  obtain⟨rfl,n,os,rfl⟩:=hr
  obtain⟨k1,k2,cur',k3,k4,k5⟩:=sS (n:=n) (os:=os) (iK l) (iK l) hh (by rw[iz];omega) vbZ
  exact⟨rfl,by rw[iz];exact hl,rfl,rfl,rfl,⟨k2,vbq _ _⟩,k1,cur',k3,by omega,k5⟩
 none:=λw=>⟨by simp[iK],Any.slices_Sort_string_none Tryz.lays190 Option.none 0 w⟩}
theorem Vo:Pg.cellsOf 9=1:=by kernel_rfl
theorem MC(l:List ac):(Lib.compact l++List.replicate (l.length - (Lib.compact l).length) []).take (Lib.compact l).length=Lib.compact l:=by simp
theorem NJ(l:List ac):(Lib.compact l).length<=l.length:=by
 unfold Lib.compact Lib.compactUpTo
 rw[vbd]
 exact vay (vbp _ _) (by simp)
theorem O4:RL Pg 53 9 (λs=>Value.string ⟨s.toArray⟩) Lib.compact (λx k c=>.slice x k c):={
 call:=call53
 row:=λw b cap cur l hh hc hl hm hla ht=>by
  have hlen:=RS hla
  refine(calls_of_every_depth λD=>AnyS.slices_Compact_string_in Tryz.lays194 D b 0 cap l w (FC hh ht) (by omega) hl).mono λr w' hr=>?_
  obtain⟨rfl,q,rfl⟩:=hr
  have hcl:=NJ l
  obtain⟨k1,k2,cur',k3,k4,k5⟩:=sS (n:=q) (os:=#[]) (Lib.compact l++List.replicate (l.length - (Lib.compact l).length) []) (Lib.compact l) hh (by simp;omega) (MC l)
  rw[grow_empty]at k1 k2 k3
  exact⟨rfl,by omega,rfl,rfl,rfl,⟨k2,vbq _ _⟩,k1,cur',k3,by omega,k5⟩
 none:=λw=>⟨by rfl,calls_of_every_depth λD=>AnyS.slices_Compact_string_empty_in Tryz.lays194 D Option.none 0 w⟩}
def By(a b:List ac):Option (List ac):=(app ([]:List ac) a).bind λl=>(app l b).bind λl2=>some (Lib.compact (rb l2))
noncomputable def OQ:Code:=f33.body.getD .skip
theorem TW(l:List ac)(h:l.length<=bF):cC Pg GE 0 (aC OQ [true,true,false]) (EX .normal (dL 15 5 (iK l) 9)) (dL 15 5 l 9):=
 cC.inplace (t:=5) (d1:=11) (d2:=12) Jo Vo h rfl rfl rfl rfl rfl rfl (by decide) (.inl ⟨rfl,iz l⟩)
theorem TX(l:List ac)(h:l.length<=bF):cC Pg GE 0 (aC OQ [true,true,true,false]) (EX .normal (dL 15 4 (Lib.compact l) 9)) (dL 15 5 l 9):=
 cC.inplace3 (t:=5) (d1:=13) (d2:=14) O4 Vo h rfl rfl rfl rfl rfl rfl (by decide) (λ_ _ _=>rfl) rfl rfl rfl (by decide) (by decide)
theorem Tf{α:Type}{l r z:List α}(h:app l r=some z):z.length<=bF:=by
 unfold app at h
 split at h
 ·cases h;simpa using ‹_›
 ·cases h
theorem J7{a b:List ac}{r:List ac}(h:By a b=some r):CC Pg GE 33 [sl cS a,sl cS b] (sl cS r) [(0,9)]:=by
 obtain⟨l,bl,h⟩:=KZ h
 obtain⟨l2,bl2,h⟩:=KZ h
 obtain rfl:=lf h
 rw[FE]
 have h2:=Tf bl2
 have h3:(iK l2).length<=bF:=by rw[iz];exact h2
 exact C.ev (A:=[8,10]) mixed call33 func33 (c:=OQ) rfl (aI (ak eU a)<|aI (ak eU b) trivial)
  [.v (sl cS ([]:List ac)),.v (sl cS l),.v (sl cS l2),.pa 0,.pc (dL 15 5 l2 9) .normal (dL 15 5 (iK l2) 9),.pa 0,.pc (dL 15 5 (iK l2) 9) .normal (dL 15 4 (Lib.compact (iK l2)) 9)]
  (Eq.mp (by kernel_rfl) (aI (cz.mk' (v:=PVal.str) VC ([]:List ac) 0 (by kernel_rfl))<|aI (cz.ap bl)<|aI (cz.ap bl2)<|aI (fr (dL 15 5 l2 9))<|aI (TW l2 h2)<|
   aI (fr (dL 15 5 (iK l2) 9))<|aI (TX (iK l2) h3)<|aI (rP (sl cS (Lib.compact (iK l2)))) (ak eU (Lib.compact (iK l2)))))
section
variable{P:Program}{E:ko}{Γ:aP}{bs:bg}{ow:Nat->Option fR}{w:World}{a:Array Value}{st:ay}
theorem SR.unown(h:SR P E Γ bs ow w a st){r s c:Nat}{m:Option Nat}{seen:Array Nat}(hr:w.heap[r]? =some (.mapIter m s seen c)):Γ r=none/\SR P E Γ bs (λb=>if b=r then none else ow b) w a st:=by
 have hg:Γ r=none:=by
  cases hx:Γ r with
  |none=>rfl
  |some n=>obtain⟨c',t,fr,h1,_⟩:=h.wi r n hx;rw[hr]at h1;cases h1
 have hne:∀{v:Value} {e:TypeId} {b:Nat},de P Γ w v e->v.ownBlock=some b->b≠r:=λ{v e b} ho hb hx=>by
  obtain⟨n,xs,_,o2⟩:=ho
  have:=o2 b hb
  rw[hx,hg]at this;cases this
 refine⟨hg,{h with
  on:=λb L hL=>?_
  ot:=λt k e he=>?_
  ob:=λi j e cs own b hB hj hb=>?_}⟩
 ·split at hL
  ·cases hL
  ·exact h.on b L hL
 ·obtain⟨u,v,h1,h2,h3,h4⟩:=h.ot t k e he
  exact⟨u,v,h1,h2,h3,λb hb=>by rw[vaM (hne h3 hb)];exact h4 b hb⟩
 ·obtain⟨v,h1,h3,h4⟩:=h.ob i j e cs own b hB hj hb
  exact⟨v,h1,h3,λb' hb'=>by rw[vaM (hne h3 hb')];exact h4 b' hb'⟩
theorem SR.asEntry(h:SR P E Γ bs ow w a st):SR P ⟨E.GE,Γ,w,aR bs ow⟩ Γ bs ow w a st:={h with
 bn:=λi b hb=>.inl (.inl ⟨i,hb⟩)
 on:=λb L hL=>⟨(h.on b L hL).1,.inl (.inr (by rw[hL];simp))⟩
 gx:=λg cs hg=>by
  obtain⟨k1,k2,k3,k4⟩:=h.gnow hg
  exact⟨k1,λhT=>hT.elim (λ⟨i,hi⟩=>k2 i g hi rfl) (λhx=>hx k3),k4⟩
 step:=.refl _ _ _ _}
theorem SR.rebaseE(h:SR P E Γ bs ow w a st){Γ':aP}{bs':bg}{ow':Nat->Option fR}{w':World}{a':Array Value}{st':ay}(h':SR P ⟨E.GE,Γ,w,aR bs ow⟩ Γ' bs' ow' w' a' st'):SR P E Γ' bs' ow' w' a' st':=by
 have hTE:∀b,aR bs ow b\/w.heap.size<=b->E.T b\/E.w.heap.size<=b:=λb hb=>by
  rcases hb with(⟨i,hi⟩|hb)|hb
  ·exact h.bn i b hi
  ·cases hL:ow b with
   |none=>exact absurd hL hb
   |some L=>exact(h.on b L hL).2
  ·exact .inr (vay h.step.size hb)
 exact{h' with
  bn:=λi b hb=>hTE b (h'.bn i b hb)
  on:=λb L hL=>⟨(h'.on b L hL).1,hTE b (h'.on b L hL).2⟩
  gx:=h.gx
  step:={
   os:=h'.step.os.trans h.step.os
   tape:=h'.step.tape.trans h.step.tape
   output:=h'.step.output.trans h.step.output
   size:=vay h.step.size h'.step.size
   drawn:=vay h.step.drawn h'.step.drawn
   keep:=λb hb hT=>by
    have hnT:¬aR bs ow b:=λhx=>(hTE b (.inl hx)).elim hT λhx=>absurd hb (vcB.2 hx)
    obtain⟨k1,k2⟩:=h.step.keep b hb hT
    obtain⟨q1,q2⟩:=h'.step.keep b (vau hb h.step.size) hnT
    exact⟨q1.trans k1,q2.trans k2⟩
   le:=h.step.le.trans h'.step.le}}
end
theorem cm{P:Program}{a:Act}{w w':World}{Q:Exit->Act->World->Prop}{ops:Array Oper}{L:List Nat}{i:Nat}{o:Oper}{v:Value}(hi:ops[i]? =some o)(hg:o.guard=none)(hrun:(execOp a.eval o).run P w=.ok (.value v) w')
  (h:wpOps P ops Q L (a.put o.dst v) w'):wpOps P ops Q (i::L) a w:=by
 rw[wpOps_cons]
 unfold wpOp
 rw[hi]
 simp only
 rw[vaJ (by simp[Region.wanted,hg])]
 refine .inl ?_
 unfold Oper.wp
 rw[hrun,Oper.upon_value]
 exact h
def kS(e:TypeId)(l:List ac)(iv:Value)(x:PVal):ay:=⟨[.undef,.undef,.undef,sl cS l,x,.undef,.undef,.undef,.undef,.val iv,.undef,.undef,.undef,.undef,.undef,.undef,.undef,.undef,.undef,.undef,.undef],[],[((3,0),e)]⟩
def fT(x:MapEntry):ac:=match x.key with
 |.string s=>s.data.toList
 |_=>[]
section
variable{P:Program}{GE:List (Nat×List PVal)}{E:ko}{e:TypeId}{es:Array MapEntry}{clock bm r:Nat}
abbrev AJ(r:Nat):Value:=.pointer (some ⟨r,0,none⟩)
structure ZT(es:Array MapEntry)(vis:List MapEntry):Prop where
 sub:∀x∈vis,x∈es.toList
 nd:(vis.map (·.born)).Nodup
structure E7(P:Program)(E:ko)(e:TypeId)(es:Array MapEntry)(clock bm r:Nat)(vis:List MapEntry)(x:PVal)(a:Act)(w:World):Prop where
 it:w.heap[r]? =some (.mapIter (some bm) clock (vis.map (·.born)).toArray clock)
 ex:∃Γ ow,SR P E Γ [] ow w a.tmps (kS e (vis.map fT) (AJ r) x)
theorem E7.map(hE:mj GE 0 E)(hbm:E.w.heap[bm]? =some (.map es clock)){vis:List MapEntry}{x:PVal}{a:Act}{w:World}(h:E7 P E e es clock bm r vis x a w):w.heap[bm]? =some (.map es clock):=by
 obtain⟨Γ,ow,hS⟩:=h.ex
 rw[(hS.step.keep bm (vab.1 hbm).1 (hE.nt rfl bm)).1];exact hbm
theorem E7.iv{vis:List MapEntry}{x:PVal}{a:Act}{w:World}(h:E7 P E e es clock bm r vis x a w):a.eval (.tmp 9)=AJ r:=by
 obtain⟨Γ,ow,hS⟩:=h.ex
 have h9:VR Γ [] w (.val (AJ r)) (a.eval (.tmp 9)):=hS.opv a.defers (.tmp 9)
 generalize a.eval (.tmp 9)=u at h9
 cases h9
 rfl
theorem E7.size{vis:List MapEntry}{x:PVal}{a:Act}{w:World}(h:E7 P E e es clock bm r vis x a w):a.tmps.size=21:=by
 obtain⟨Γ,ow,hS⟩:=h.ex
 exact hS.sz
theorem E7.put{vis:List MapEntry}{x:PVal}{a:Act}{w:World}(h:E7 P E e es clock bm r vis x a w){d:Nat}{v:Value}(hd:d=10\/d=11\/d=12\/d=13):E7 P E e es clock bm r vis x (a.put (some d) v) w:=by
 obtain⟨Γ,ow,hS⟩:=h.ex
 refine⟨h.it,Γ,ow,?_⟩
 have:=hS.set (d:=d) (p:=.undef) (v:=v) (.undef v)
 rcases hd with rfl|rfl|rfl|rfl<;>exact this
theorem N2(hE:mj GE 0 E)(hbm:E.w.heap[bm]? =some (.map es clock))(hb:Az es clock)(hr:E.w.heap.size<=r){ro:Option Nat}{i3:Nat}{o10 o11:Oper}
  (h1:o10.op=.next (.tmp 9) false) (h1d:o10.dst=some 10) (h1g:o10.guard=none) (h2:o11.op=.extract (.tmp 10) 0) (h2d:o11.dst=some 11) (h2g:o11.guard=none) {vis:List MapEntry} {x:PVal} {a:Act} {w:World} (h:E7 P E e es clock bm r vis x a w):
  CQ ro P (.region i3 #[o10,o11] false) (λq a' w'=>q=.normal/\a'.defers=a.defers/\((a'.eval (.tmp 11)=.bool false/\(leftOf es (vis.map (·.born)).toArray).size=0/\E7 P E e es clock bm r vis x a' w')\/
   (a'.eval (.tmp 11)=.bool true/\∃y∈(leftOf es (vis.map (·.born)).toArray).toList,(w'.heap[r]? =some (.mapIter (some bm) clock ((vis.map (·.born)).toArray.push y.born) clock)/\∃Γ ow,SR P E Γ [] ow w' a'.tmps (kS e (vis.map fT) (AJ r) x))))) a w:=by
 refine im (by simp[db,h1,h2]) (by rintro⟨_,_,hx,_⟩;cases hx) ?_
 show wpOps P #[o10,o11] _ [0,1] a w
 have hm:=h.map hE hbm
 have hsz:=h.size
 have hext:∀(v:Value) (w':World),(∃l:Array Value,∃b,v=.tuple l/\l[0]? =some (.bool b))->((execOp ((a.put o10.dst v).eval) o11).run P w'=.ok (.value (match v with|.tuple l=>l.getD 0 undef|_=>undef)) w'):=by
  rintro v w' ⟨l,b,rfl,hl⟩
  have:(a.put o10.dst (.tuple l)).eval (.tmp 10)=.tuple l:=by
   refine aV ?_
   rw[h1d]
   show(a.tmps.setIfInBounds 10 _)[10]? =_
   simp[hsz]
  simp[execOp,h2,this,Instr.extract,hl]
 rcases run_next_at (P:=P) w o10.type r bm clock clock _ es clock h.it hm hb.2 (vaj _)with⟨hz,hrun⟩|⟨y,hy,w1,hw1,hrun⟩
 ·refine cm (o:=o10) rfl h1g (v:=.tuple #[.bool false]) (w':=w) (by simp[execOp,h1,h.iv,hrun]) ?_
  refine cm (o:=o11) rfl h2g (hext _ _ ⟨_,_,rfl,rfl⟩) ?_
  refine⟨rfl,by rw[aT,aT],.inl ⟨?_,hz,?_⟩⟩
  ·refine aV ?_
   rw[h1d,h2d]
   show((a.tmps.setIfInBounds 10 _).setIfInBounds 11 _)[11]? =_
   simp[hsz]
  ·rw[h1d,h2d];exact(h.put (.inl rfl)).put (.inr (.inl rfl))
 ·refine cm (o:=o10) rfl h1g (v:=.tuple #[.bool true,y.key,y.val]) (w':=Go.ChangeMaps.setBlock w1 r (.mapIter (some bm) clock ((vis.map (·.born)).toArray.push y.born) clock)) (by simp[execOp,h1,h.iv,hrun]) ?_
  refine cm (o:=o11) rfl h2g (hext _ _ ⟨_,_,rfl,rfl⟩) ?_
  have hlt:r<w.heap.size:=(vab.1 h.it).1
  have hw1h:w1.heap=w.heap/\w1.os=w.os/\w1.tape=w.tape/\w1.output=w.output/\w.drawn<=w1.drawn:=by
   rcases hw1 with rfl|rfl
   ·exact⟨rfl,rfl,rfl,rfl,vaj _⟩
   ·exact⟨rfl,rfl,rfl,rfl,vb3 _⟩
  obtain⟨k1,k2,k3,k4,k5⟩:=hw1h
  refine⟨rfl,by rw[aT,aT],.inr ⟨?_,y,hy,?_,?_⟩⟩
  ·refine aV ?_
   rw[h1d,h2d]
   show((a.tmps.setIfInBounds 10 _).setIfInBounds 11 _)[11]? =_
   simp[hsz]
  ·show(w1.heap.setIfInBounds r _)[r]? =_
   rw[k1];simp[hlt]
  ·have h':=(h.put (v:=.tuple #[.bool true,y.key,y.val]) (.inl rfl)).put (d:=11) (v:=.bool true) (.inr (.inl rfl))
   obtain⟨Γ,ow,hS⟩:=h'.ex
   obtain⟨hg,hS⟩:=hS.unown h.it
   have hoth:∀b,b≠r->(Go.ChangeMaps.setBlock w1 r (.mapIter (some bm) clock ((vis.map (·.born)).toArray.push y.born) clock)).heap[b]? =w.heap[b]?:=λb hb=>by
    show(w1.heap.setIfInBounds r _)[b]? =_
    rw[k1,vaz (λx=>hb x.symm)]
   refine⟨Γ,λb=>if b=r then none else ow b,?_⟩
   rw[h1d,h2d]
   refine hS.world (λb=>b=r) (λb m hb hm0=>⟨m,hb,vaj _,λo _=>bj (hoth b λx=>by rw[x,hg]at hb;cases hb) o⟩) (λb m hb=>?_) k2 k3 k4 ?_ (λb _ hb=>⟨hoth b hb,rfl⟩) (λb hb=>by subst hb;exact .inr hr) (λi b hb=>by simp at hb) (λb L hL hx=>?_) (vD k5)
   ·obtain⟨c,t,fr,q1,q2⟩:=hS.wi b m hb
    exact⟨c,t,fr,(hoth b λx=>by rw[x,hg]at hb;cases hb).trans q1,q2⟩
   ·show _<=(w1.heap.setIfInBounds r _).size
    rw[k1];simp
   ·subst hx;simp at hL
theorem MF(hE:mj GE 0 E)(hbm:E.w.heap[bm]? =some (.map es clock))(hb:Az es clock){ro:Option Nat}{i4:Nat}{o12 o13 o4:Oper}
  (h1:o12.op=.entry (.tmp 9)) (h1d:o12.dst=some 12) (h1g:o12.guard=none) (h2:o13.op=.extract (.tmp 12) 0) (h2d:o13.dst=some 13) (h2g:o13.guard=none) (h3:o4.op=.assign (.tmp 13)) (h3d:o4.dst=some 4) (h3g:o4.guard=none)
  {vis:List MapEntry} {x:PVal} {y:MapEntry} (hy:y∈es.toList) (hk:y.key=.string ⟨(fT y).toArray⟩) {a:Act} {w:World} (hit:w.heap[r]? =some (.mapIter (some bm) clock ((vis.map (·.born)).toArray.push y.born) clock)) (h:∃Γ ow,SR P E Γ [] ow w a.tmps (kS e (vis.map fT) (AJ r) x)):
  CQ ro P (.region i4 #[o12,o13,o4] false) (λq a' w'=>q=.normal/\a'.defers=a.defers/\w'=w/\∃Γ ow,SR P E Γ [] ow w a'.tmps (kS e (vis.map fT) (AJ r) (.str (fT y)))) a w:=by
 refine im (by simp[db,h1,h2,h3]) (by rintro⟨_,_,hx,_⟩;cases hx) ?_
 show wpOps P #[o12,o13,o4] _ [0,1,2] a w
 obtain⟨Γ,ow,hS⟩:=h
 have hm:w.heap[bm]? =some (.map es clock):=by rw[(hS.step.keep bm (vab.1 hbm).1 (hE.nt rfl bm)).1];exact hbm
 have hsz:a.tmps.size=21:=hS.sz
 have h9:a.eval (.tmp 9)=AJ r:=by
  have h9:VR Γ [] w (.val (AJ r)) (a.eval (.tmp 9)):=hS.opv a.defers (.tmp 9)
  generalize a.eval (.tmp 9)=u at h9
  cases h9
  rfl
 have hrun:=run_entry_at (P:=P) w r bm clock _ es clock y hit hm hy hb.1
 refine cm (o:=o12) rfl h1g (v:=.tuple #[y.key,y.val]) (w':=w) (by simp[execOp,h1,h9,hrun]) ?_
 have e12:(a.put o12.dst (.tuple #[y.key,y.val])).eval (.tmp 12)=.tuple #[y.key,y.val]:=by
  refine aV ?_
  rw[h1d]
  show(a.tmps.setIfInBounds 12 _)[12]? =_
  simp[hsz]
 refine cm (o:=o13) rfl h2g (v:=y.key) (w':=w) (by simp[execOp,h2,e12,Instr.extract]) ?_
 have e13:((a.put o12.dst (.tuple #[y.key,y.val])).put o13.dst y.key).eval (.tmp 13)=y.key:=by
  refine aV ?_
  rw[h1d,h2d]
  show((a.tmps.setIfInBounds 12 _).setIfInBounds 13 _)[13]? =_
  simp[hsz]
 refine cm (o:=o4) rfl h3g (v:=y.key) (w':=w) (by simp[execOp,h3,e13]) ?_
 refine⟨rfl,by rw[aT,aT,aT],rfl,Γ,ow,?_⟩
 rw[h1d,h2d,h3d]
 have k1:=hS.set (d:=12) (p:=.undef) (v:=.tuple #[y.key,y.val]) (.undef _)
 have k2:=k1.set (d:=13) (p:=.undef) (v:=y.key) (.undef _)
 have k3:=k2.set (d:=4) (p:=.str (fT y)) (v:=y.key) (by rw[hk];exact .str _)
 exact k3
theorem NB:∀{l:List MapEntry},(l.map (·.born)).Nodup->∀{x y:MapEntry},x∈l->y∈l->x.born=y.born->x=y
 |[],_,x,y,hx,_,_=>by cases hx
 | z :: l,h,x,y,hx,hy,he => by
  rw[vaZ,vbv]at h
  rcases vaI.1 hx with hx1|hx1<;>rcases vaI.1 hy with hy1|hy1
  ·rw[hx1,hy1]
  ·exact absurd (vak.2 ⟨y,hy1,by rw[<-he,hx1]⟩) h.1
  ·exact absurd (vak.2 ⟨x,hx1,by rw[he,hy1]⟩) h.1
  ·exact NB h.2 hx1 hy1 he
theorem ip{α β:Type}(f:α->β):∀{l:List α},(l.map f).Nodup->l.Nodup
 |[],_=>by simp
 |x::l,h=>by
  rw[vaZ,vbv]at h
  exact vbv.2 ⟨λhx=>h.1 (vak.2 ⟨x,hx,rfl⟩),ip f h.2⟩
theorem NZ{vis:List MapEntry}{y:MapEntry}(hy:y∈(leftOf es (vis.map (·.born)).toArray).toList):y∈es.toList/\y.born∉vis.map (·.born):=by
 unfold leftOf at hy
 simp only[vcw,vaN,vaQ]at hy
 refine⟨hy.1,λhx=>?_⟩
 have:=hy.2
 rw[<-vcH]at this
 exact this (by simpa using hx)
theorem L0{vis:List MapEntry}(hb:Az es clock)(hv:ZT es vis)(hz:(leftOf es (vis.map (·.born)).toArray).size=0):vis.Perm es.toList:=by
 refine(vb8 (ip _ hv.nd) (ip _ hb.1)).2 λx=>⟨hv.sub x,λhx=>?_⟩
 have hin:x.born∈vis.map (·.born):=Classical.byContradiction λhn=>by
  have:x∈(leftOf es (vis.map (·.born)).toArray).toList:=by
   unfold leftOf
   simp only[vcw,vaN,vaQ]
   refine⟨hx,?_⟩
   rw[<-vcH]
   exact λhc=>hn (by simpa using hc)
  have h0:(leftOf es (vis.map (·.born)).toArray).toList.length=0:=by simpa using hz
  rw[List.length_eq_zero_iff.1 h0]at this
  cases this
 obtain⟨v,hvm,he⟩:=vak.1 hin
 rw[<-NB hb.1 (hv.sub v hvm) hx he]
 exact hvm
theorem QX(hE:mj GE 0 E)(hbm:E.w.heap[bm]? =some (.map es clock))(hb:Az es clock)(hr:E.w.heap.size<=r)(hk:∀y∈es.toList,y.key=.string ⟨(fT y).toArray⟩){ro:Option Nat}{i3 i4:Nat}{o10 o11 o12 o13 o4:Oper}{c5:Code}
  (h1:o10.op=.next (.tmp 9) false) (h1d:o10.dst=some 10) (h1g:o10.guard=none) (h2:o11.op=.extract (.tmp 10) 0) (h2d:o11.dst=some 11) (h2g:o11.guard=none)
  (h3:o12.op=.entry (.tmp 9)) (h3d:o12.dst=some 12) (h3g:o12.guard=none) (h4:o13.op=.extract (.tmp 12) 0) (h4d:o13.dst=some 13) (h4g:o13.guard=none) (h5:o4.op=.assign (.tmp 13)) (h5d:o4.dst=some 4) (h5g:o4.guard=none)
  (h6:∀(l:List ac) (s:ac),l.length<es.size->cC P GE 1000 c5 (EX .normal (kS e (l++[s]) (AJ r) .undef)) (kS e l (AJ r) (.str s))) {a:Act} {w:World} (h:E7 P E e es clock bm r [] .undef a w):
  CQ ro P (.loop (.seq (.region i3 #[o10,o11] false) (.seq (.cond (.tmp 11) .skip (.exit 0)) (.block 1 (.seq (.region i4 #[o12,o13,o4] false) c5)))))
   (λq a' w'=>q=.exit 0/\a'.defers=a.defers/\∃vis:List MapEntry,vis.Perm es.toList/\∃Γ ow,SR P E Γ [] ow w' a'.tmps (kS e (vis.map fT) (AJ r) .undef)) a w:=by
 refine sW (λk a' w'=>a'.defers=a.defers/\∃vis,ZT es vis/\vis.length+k=es.size+1/\E7 P E e es clock bm r vis .undef a' w') (es.size+1) ⟨rfl,[],⟨by simp,by simp⟩,by simp,h⟩ ?_
 rintro k a1 w1 ⟨hd1,vis,hv,hlen,hR⟩
 refine pD (ew (N2 hE hbm hb hr h1 h1d h1g h2 h2d h2g hR) λq a2 w2 hq=>?_)
 obtain⟨rfl,hd2,hc⟩:=hq
 show CQ ro P (.seq _ _) _ a2 w2
 rcases hc with⟨hf,hz,hR2⟩|⟨ht,y,hy,hit,hS⟩
 ·refine pD (Be hf (λhx=>by cases hx) λ_=>JH ?_)
  exact⟨rfl,hd2.trans hd1,vis,L0 hb hv hz,hR2.ex⟩
 ·obtain⟨hy1,hy2⟩:=NZ hy
  refine pD (Be ht (λ_=>JI ?_) λhx=>by cases hx)
  show CQ ro P (.block 1 _) _ a2 w2
  refine Cv (pD (ew (MF hE hbm hb h3 h3d h3g h4 h4d h4g h5 h5d h5g hy1 (hk y hy1) hit hS) λq a3 w3 hq=>?_))
  obtain⟨rfl,hd3,rfl,Γ,ow,hS3⟩:=hq
  show CQ ro P c5 _ a3 w3
  have hnd:((vis++[y]).map (·.born)).Nodup:=by
   rw[vbK,vbU]
   exact⟨hv.nd,by simp,λp hp q hq hpq=>by simp at hq;subst hq;subst hpq;exact hy2 hp⟩
  have hsub:∀x∈vis++[y],x∈es.toList:=λx hx=>by
   rcases vaG.1 hx with hx|hx
   ·exact hv.sub x hx
   ·rw[va5.1 hx];exact hy1
  have hle:vis.length<es.size:=by
   have:=(ip _ hnd).length_le_of_subset hsub
   simp at this
   omega
  obtain⟨hg,hS3⟩:=hS3.unown hit
  have hE':mj GE 1000 ⟨E.GE,Γ,w3,aR [] λb=>if b=r then none else ow b⟩:={
   ge:=hE.ge
   low:=λb n hb=>hS3.lt_of_ghost hb
   nt:=λh0=>by cases h0
   gl:=λg cs hg=>(hS3.gl g cs (by rw[hE.ge];exact hg))}
  have h7:=h6 (vis.map fT) (fT y) (by simpa using hle) ro _ [] a3 w3 hE' rfl ⟨Γ,[],_,hS3.asEntry,λi _=>rfl⟩
  refine ew h7 λq a4 w4 hq=>?_
  obtain⟨hd4,st,⟨Γ4,bs4,ow4,hS4,_⟩,rfl,rfl⟩:=hq
  have hb4:bs4=[]:=vag hS4.bl
  subst hb4
  show ∃n',n'<k/\_
  refine⟨k - 1,by omega,((hd4.trans hd3).trans hd2).trans hd1,vis++[y],⟨hsub,hnd⟩,by simp;omega,?_,Γ4,ow4,?_⟩
  ·have hrl:=(vab.1 hit).1
   rw[(hS4.step.keep r hrl λhT=>hT.elim (λ⟨i,hi⟩=>by simp at hi) (λhx=>hx (by simp))).1]
   simpa using hit
  ·have:=hS3.rebaseE hS4
   simpa using this
end
def pp(m:List (ac×Bool)):Option (List ac):=if decide (m.length<=bF)=true then some (rb (m.map λe=>e.1))else none
abbrev qeS:Nat:=63
noncomputable def R0:Code:=f63.body.getD .skip
def qdp:Code->Nat×Array Oper
 |.region id ops _=>(id,ops)
 |_=>(0,#[])
abbrev X5:Code:=aC R0 [false]
abbrev X6:Code:=aC R0 [true,false]
abbrev LA:Code:=aC R0 [true,true,false,false]
abbrev V3:Code:=aC R0 [true,true,false,true,false,false,false]
abbrev Uq:Code:=aC R0 [true,true,false,true,false,false,true,true,false,false]
abbrev qcy:Code:=aC R0 [true,true,false,true,false,false,true,true,false,true]
abbrev V4:Code:=aC R0 [true,true,true,false]
abbrev qdq:Code:=aC R0 [true,true,true,true,false]
abbrev cx(c:Code)(i:Nat):Oper:=((qdp c).2)[i]?.getD default
abbrev Hb(c:Code):Nat:=(qdp c).1
theorem Vf:R0=.seq (.region (Hb X5) #[cx X5 0] false) (.seq (.region (Hb X6) #[cx X6 0] false) (.seq (.seq (.region (Hb LA) #[cx LA 0,cx LA 1,cx LA 2,cx LA 3,cx LA 4] false)
  (.block 0 (.loop (.seq (.region (Hb V3) #[cx V3 0,cx V3 1] false) (.seq (.cond (.tmp 11) .skip (.exit 0)) (.block 1 (.seq (.region (Hb Uq) #[cx Uq 0,cx Uq 1,cx Uq 2] false) qcy)))))))
  (.seq (.region (Hb V4) #[cx V4 0,cx V4 1] false) (.seq qdq .ret)))):=by kernel_rfl
abbrev eS:TypeId:=9
theorem qe4(iv:Value)(l:List ac)(s:ac)(h:l.length+1<=bF):cC Pg GE 1000 qcy (EX .normal (kS eS (l++[s]) iv .undef)) (kS eS l iv (.str s)):=by
 have bl:app l [s]=some (l++[s]):=by unfold app;rw[vaJ (by simpa using h)]
 have z:=sv (cz.mk' (v:=PVal.str) VC ([s]:List ac) 1 (by kernel_rfl))<|sv (cz.ap bl)<|eF .normal (kS eS (l++[s]) iv .undef)
 exact dX (A:=[14]) mixed z (by kernel_rfl)
theorem qe5(l:List ac)(h:l.length<=bF):cC Pg GE 0 (.region (Hb V4) #[cx V4 0,cx V4 1] false) (EX .normal (dL 21 3 (iK l) eS)) (dL 21 3 l eS):=
 cC.inplace (t:=3) (d1:=18) (d2:=19) Jo Vo h rfl rfl rfl rfl rfl rfl (by decide) (.inl ⟨rfl,iz l⟩)
abbrev sE(l:List ac):ay:=aM 21 [(2,sl cS l)] [] [((2,0),eS)]
theorem qe6(l:List ac):cC Pg GE 0 (.seq qdq .ret) (EX .ret (sE l)) (dL 21 3 l eS):=by
 have z:=eF .ret (sE l)
 exact dX (A:=[20]) mixed z (by kernel_rfl)
theorem ce{a:Act}{d t:Nat}{v:Value}:(a.put (some d) v).tmps[t]? =if d=t then(if d<a.tmps.size then some v else none)else a.tmps[t]?:=by
 show(a.tmps.setIfInBounds d v)[t]? =_
 rw[vaR]
theorem bS{a:Act}{d:Nat}{v:Value}:(a.put (some d) v).tmps.size=a.tmps.size:=by
 show(a.tmps.setIfInBounds d v).size=_
 simp
theorem uo{a:Act}{w:World}{Q:Exit->Act->World->Prop}{id:Nat}{ops:Array Oper}(h:wpOps Pg ops Q (List.range ops.size) a w):(Code.region id ops false).wp Pg Q a w:=wp_region h
theorem qcB(m:List (ac×Bool)):gO Pg 84 (.bptr 0 0) [.cells [.mapr 1] [],.map (bA PVal.bool m)]=some (.mapr 1):=by kernel_rfl
theorem qcA:aH Pg 99 (.bptr 0 0) 0=some (.bptr 0 0):=by kernel_rfl
theorem qcC:Pg.underlying 84=some (.map 9 4):=by kernel_rfl
theorem DO{m:List (ac×Bool)}{r:List ac}(h:pp m=some r):C Pg GE qeS [.bptr 0 0] [] [.cells [.mapr 1] [],.map (bA PVal.bool m)] (sl cS r) [(0,eS)] [.cells [.mapr 1] [],.map (bA PVal.bool m)]:=by
 rcases OB h with⟨hl,h⟩|⟨_,h⟩
 rotate_left
 ·cases h
 obtain rfl:=lf h
 have hlen:m.length<=bF:=by simpa using hl
 refine⟨call63,λΓ bs ow w vs hS=>calls_of_wp func63 (c:=R0) rfl ?_⟩
 obtain⟨v,rfl⟩:∃v,vs=#[v]:=vbz.1 hS.sz
 have hvr:VR Γ bs w (.bptr 0 0) v:=hS.tm 0 _ _ rfl rfl
 have hv0:∃b0,v=.pointer (some ⟨b0,0,none⟩)/\bs[0]? =some (some b0):=by cases hvr with|bptr _ _ b0 hb0=>exact⟨b0,rfl,hb0⟩
 obtain⟨b0,rfl,hb0⟩:=hv0
 obtain⟨vm,hld,hvm⟩:=pl (P:=Pg) hS (t:=84) hvr (qcB m)
 have hvm0:∃bm,vm=.map (some bm)/\bs[1]? =some (some bm):=by cases hvm with|mapr _ bm hbm=>exact⟨bm,rfl,hbm⟩
 obtain⟨bm,rfl,hb1⟩:=hvm0
 obtain⟨_,hbml,es,clock,hmap,hsz,hent,hborn⟩:=hS.bx 1 bm _ hb1 rfl
 obtain⟨vf,hfa,hvf⟩:=nb (P:=Pg) hvr qcA
 have hvf0:vf=.pointer (some ⟨b0,0,none⟩):=by cases hvf with|bptr _ _ b hb=>rw[hb0]at hb;cases hb;rfl
 subst hvf0
 have hrg:=run_range_map (P:=Pg) w 84 9 4 bm es clock qcC hmap
 have hB:qk GE Γ w:=hS.base
 have hE:mj GE 0 (oW GE Γ w):=hB.good
 have hkey:∀(j:Nat) (x:MapEntry),es[j]? =some x->∃s u,m[j]? =some (s,u)/\x.key=.string ⟨s.toArray⟩:=λj x hx=>by
  have hj:j<m.length:=by have:=(vab.1 hx).1;rw[hsz]at this;simpa[bA]using this
  obtain⟨h1,_⟩:=hent j (.str m[j].1) (.bool m[j].2) x (by simp[bA,hj]) hx
  refine⟨m[j].1,m[j].2,by simp[hj],?_⟩
  generalize x.key=k at h1
  cases h1;rfl
 have hk:∀y∈es.toList,y.key=.string ⟨(fT y).toArray⟩:=λy hy=>by
  obtain⟨j,hj⟩:=vaW.1 hy
  obtain⟨s,u,_,h2⟩:=hkey j y (by simpa using hj)
  unfold fT
  rw[h2]
 have hks:es.toList.map fT=m.map λe=>e.1:=by
  refine vaL λj=>?_
  simp only[vah,vaA]
  cases hj:es[j]? with
  |none=>
   have h1:m.length<=j:=by have:=vbj.1 hj;rw[hsz]at this;simpa[bA]using this
   simp[h1]
  |some x=>
   obtain⟨s,u,h1,h2⟩:=hkey j x hj
   simp[h1,fT,h2]
 have hn:f63.ntmps=21:=by kernel_rfl
 refine(λ(key:∀A0:Act,A0.tmps.size=21->A0.tmps[0]? =some (.pointer (some ⟨b0,0,none⟩))->A0.defers=[]->R0.wp Pg _ A0 w)=>key _ ?_ ?_ rfl) ?_
 ·rw[hn];simp
 ·rw[hn];simp
 intro A0 z0 z1 z2
 rw[Vf]
 have d00:(cx X5 0).dst=some 2:=by kernel_rfl
 have d10:(cx X6 0).dst=some 3:=by kernel_rfl
 have o20:(cx LA 0).op=.move (.tmp 0):=by kernel_rfl
 have d20:(cx LA 0).dst=some 5:=by kernel_rfl
 have o21:(cx LA 1).op=.nilCheck (.tmp 5):=by kernel_rfl
 have d21:(cx LA 1).dst=some 6:=by kernel_rfl
 have o22:(cx LA 2).op=.fieldAddr 99 (.tmp 6) 0:=by kernel_rfl
 have d22:(cx LA 2).dst=some 7:=by kernel_rfl
 have o23:(cx LA 3).op=.load 84 (.tmp 7):=by kernel_rfl
 have d23:(cx LA 3).dst=some 8:=by kernel_rfl
 have o24:(cx LA 4).op=.range 84 (.tmp 8):=by kernel_rfl
 have d24:(cx LA 4).dst=some 9:=by kernel_rfl
 refine wp_seq (uo (cm (o:=cx X5 0) (by kernel_rfl) (by kernel_rfl) (v:=.slice none 0 0) (w':=w) (by kernel_rfl) ?_))
 rw[d00]
 show Code.wp Pg _ _ _ w
 refine wp_seq (uo (cm (o:=cx X6 0) (by kernel_rfl) (by kernel_rfl) (v:=.slice none 0 0) (w':=w) (by kernel_rfl) ?_))
 rw[d10]
 show Code.wp Pg _ _ _ w
 refine wp_seq (wp_seq (uo (cm (o:=cx LA 0) (by kernel_rfl) (by kernel_rfl) (v:=.pointer (some ⟨b0,0,none⟩)) (w':=w) ?_ ?_)))
 ·have:((A0.put (some 2) (.slice none 0 0)).put (some 3) (.slice none 0 0)).eval (.tmp 0)=.pointer (some ⟨b0,0,none⟩):=aV (by simp only[ce];exact z1)
  simp[execOp,o20,this]
 rw[d20]
 refine cm (o:=cx LA 1) (by kernel_rfl) (by kernel_rfl) (v:=.pointer (some ⟨b0,0,none⟩)) (w':=w) ?_ ?_
 ·have:(((A0.put (some 2) (.slice none 0 0)).put (some 3) (.slice none 0 0)).put (some 5) (.pointer (some ⟨b0,0,none⟩))).eval (.tmp 5)=.pointer (some ⟨b0,0,none⟩):=aV (by simp only[ce,bS,z0];rfl)
  simp[execOp,o21,this]
 rw[d21]
 refine cm (o:=cx LA 2) (by kernel_rfl) (by kernel_rfl) (v:=.pointer (some ⟨b0,0,none⟩)) (w':=w) ?_ ?_
 ·have:((((A0.put (some 2) (.slice none 0 0)).put (some 3) (.slice none 0 0)).put (some 5) (.pointer (some ⟨b0,0,none⟩))).put (some 6) (.pointer (some ⟨b0,0,none⟩))).eval (.tmp 6)=.pointer (some ⟨b0,0,none⟩):=aV (by simp only[ce,bS,z0];rfl)
  simp[execOp,o22,this,hfa]
 rw[d22]
 refine cm (o:=cx LA 3) (by kernel_rfl) (by kernel_rfl) (v:=.map (some bm)) (w':=w) ?_ ?_
 ·have:(((((A0.put (some 2) (.slice none 0 0)).put (some 3) (.slice none 0 0)).put (some 5) (.pointer (some ⟨b0,0,none⟩))).put (some 6) (.pointer (some ⟨b0,0,none⟩))).put (some 7) (.pointer (some ⟨b0,0,none⟩))).eval (.tmp 7)=.pointer (some ⟨b0,0,none⟩):=aV (by simp only[ce,bS,z0];rfl)
  simp[execOp,o23,this,hld]
 rw[d23]
 refine cm (o:=cx LA 4) (by kernel_rfl) (by kernel_rfl) (v:=AJ w.heap.size) (w':=w.alloc (.mapIter (some bm) clock #[] clock)) ?_ ?_
 ·have:((((((A0.put (some 2) (.slice none 0 0)).put (some 3) (.slice none 0 0)).put (some 5) (.pointer (some ⟨b0,0,none⟩))).put (some 6) (.pointer (some ⟨b0,0,none⟩))).put (some 7) (.pointer (some ⟨b0,0,none⟩))).put (some 8) (.map (some bm))).eval (.tmp 8)=.map (some bm):=aV (by simp only[ce,bS,z0];rfl)
  simp[execOp,o24,this,hrg]
 rw[d24]
 generalize hA1:((((((A0.put (some 2) (.slice none 0 0)).put (some 3) (.slice none 0 0)).put (some 5) (.pointer (some ⟨b0,0,none⟩))).put (some 6) (.pointer (some ⟨b0,0,none⟩))).put (some 7) (.pointer (some ⟨b0,0,none⟩))).put (some 8) (.map (some bm))).put (some 9) (AJ w.heap.size)=A1
 have y0:A1.tmps.size=21:=by rw[<-hA1];simp[bS,z0]
 have y3:A1.tmps[3]? =some (.slice none 0 0):=by rw[<-hA1];simp only[ce,bS,z0];rfl
 have y9:A1.tmps[9]? =some (AJ w.heap.size):=by rw[<-hA1];simp only[ce,bS,z0];rfl
 have y2:A1.defers=[]:=by rw[<-hA1];simp only[aT];exact z2
 clear hA1
 have h0:SR Pg (oW GE Γ w) Γ [] (λ_=>none) w A1.tmps ⟨(kS eS [] (AJ w.heap.size) .undef).tmps,[],[]⟩:=by
  refine hB.fresh 0 y0 λt p v hp hv=>?_
  by_cases h3:t=3
  ·subst h3
   rw[y3]at hv
   cases hp;cases hv
   exact .sliceNil
  ·by_cases h9:t=9
   ·subst h9
    rw[y9]at hv
    cases hp;cases hv
    exact .val _
   ·have:p=.undef:=by
     have ht:t<21:=by have:=ah hp;simpa[kS]using this
     clear hv
     rcases(show t=0\/t=1\/t=2\/t=4\/t=5\/t=6\/t=7\/t=8\/t=10\/t=11\/t=12\/t=13\/t=14\/t=15\/t=16\/t=17\/t=18\/t=19\/t=20 by omega)with h|h|h|h|h|h|h|h|h|h|h|h|h|h|h|h|h|h|h<;>subst h<;>cases hp<;>rfl
    rw[this]
    exact .undef v
 have h1:SR Pg (oW GE Γ w) Γ [] (λ_=>none) w A1.tmps (kS eS [] (AJ w.heap.size) .undef):={h0 with
  ot:=λt k e he=>by
   simp[kS]at he
   obtain⟨⟨rfl,rfl⟩,rfl⟩:=he
   exact⟨_,_,y3,rfl,⟨0,[],World.ownsRow_nil _ _ _ _,λb hb=>by simp[Value.ownBlock]at hb⟩,λb hb=>by simp[Value.ownBlock]at hb⟩
  ob:=λi j e cs own b hB=>by simp[kS]at hB}
 obtain⟨h2,_⟩:=h1.allocO (.mapIter (some bm) clock #[] clock)
 have hR:E7 Pg (oW GE Γ w) eS es clock bm w.heap.size [] .undef A1 (w.alloc (.mapIter (some bm) clock #[] clock)):=⟨World.alloc_heap_new w _,Γ,_,h2⟩
 have hel:es.size<=bF:=by rw[hsz];simpa[bA]using hlen
 have hlp:=QX (P:=Pg) (GE:=GE) (E:=oW GE Γ w) (e:=eS) (ro:=none) (i3:=Hb V3) (i4:=Hb Uq) (o10:=cx V3 0) (o11:=cx V3 1) (o12:=cx Uq 0) (o13:=cx Uq 1) (o4:=cx Uq 2) (c5:=qcy) hE hmap hborn (vaj _) hk
  (by kernel_rfl) (by kernel_rfl) (by kernel_rfl) (by kernel_rfl) (by kernel_rfl) (by kernel_rfl) (by kernel_rfl) (by kernel_rfl) (by kernel_rfl) (by kernel_rfl) (by kernel_rfl) (by kernel_rfl) (by kernel_rfl) (by kernel_rfl) (by kernel_rfl)
  (λl s hls=>qe4 (AJ w.heap.size) l s (by omega)) hR
 show Code.wp Pg _ _ A1 _
 refine wp_block (wp_mono hlp λq A2 w2 hq=>?_)
 obtain⟨rfl,hd2,vis,hperm,Γ2,ow2,hS2⟩:=hq
 show Code.wp Pg _ _ A2 w2
 have hS2:SR Pg (oW GE Γ w) Γ2 [] ow2 w2 A2.tmps (dL 21 3 (vis.map fT) eS):=hS2.forgetT (tm:=(dL 21 3 (vis.map fT) eS).tmps) rfl
 have hvl:(vis.map fT).length<=bF:=by rw[vbd,hperm.length_eq];simpa using hel
 have hwp6:=qe5 (vis.map fT) hvl none (oW GE Γ w) [] A2 w2 hE rfl ⟨Γ2,[],ow2,hS2,λi hi=>absurd hi (vaw _)⟩
 refine wp_seq (wp_mono hwp6 λq A3 w3 hq=>?_)
 obtain⟨hd3,st3,⟨Γ3,bs3,ow3,hS3,_⟩,rfl,rfl⟩:=hq
 show Code.wp Pg _ _ A3 w3
 have hwp7:=qe6 (iK (vis.map fT)) none (oW GE Γ w) [] A3 w3 hE rfl ⟨Γ3,bs3,ow3,hS3,λi hi=>absurd hi (vaw _)⟩
 refine wp_mono hwp7 λq A4 w4 hq=>?_
 obtain⟨hd4,st4,⟨Γ4,bs4,ow4,hS4,_⟩,rfl,rfl⟩:=hq
 have hsort:iK (vis.map fT)=rb (m.map λe=>e.1):=by
  rw[<-FE]
  refine ua (gd _) (gd _) (((jO _).trans ?_).trans (jO _).symm)
  rw[<-hks]
  exact hperm.map fT
 rw[hsort]at hS4
 obtain⟨vr,e1,e2,e3⟩:=j5 hS4 (fn:=f63) (r:=sl cS (rb (m.map λe=>e.1))) (by kernel_rfl)
 have hf:=hS4.finish (H':=[]) (src:=cJ f63.results.toList) (ro:=[(0,eS)]) e2 (ak eU _) trivial (λx hx=>by
  simp only[va5]at hx
  subst hx
  exact⟨va5.2 rfl,λu v'=>e3 0 u v' vzz⟩) (λx hx y hy _=>by
  simp only[va5]at hx hy
  rw[hx,hy])
 have hbs4:bs4.take (List.length ([]:List ax))=[]:=by simp
 rw[hbs4]at hf
 refine⟨((((hd4.trans hd3).trans hd2)).trans y2:A4.defers=[]),vr,e1,vr,Γ4,Ik 0 (s8 (cJ f63.results.toList) [(0,eS)] ow4) ow,rfl,?_⟩
 have hT:∀b,¬(oW GE Γ w).T b:=λb hb=>hb
 have hw:=hS.aside hf
 have hr:VR Γ4 bs w4 (sl cS (rb (m.map λe=>e.1))) vr:=e2.clo (ak eU _)
 have:=hw.setResult (d:=0) (ro:=[(0,eS)]) (by simp) hr (owC:=s8 (cJ f63.results.toList) [(0,eS)] ow4) (λk e hm=>?_) (λb t k hb=>?_)
 ·exact this
 ·obtain⟨u,v',h1,h2,h3,h4⟩:=hf.ot 0 k e (vak.2 ⟨(k,e),hm,rfl⟩)
  simp at h1;subst h1
  exact⟨v',h2,h3,h4⟩
 ·obtain⟨k1,k2⟩:=hf.on b _ hb
  have hge:w.heap.size<=b:=k2.resolve_left (hT b)
  refine⟨?_,k1,.inr (vay hS.step.size hge)⟩
  cases hL:ow b with
  |none=>rfl
  |some L=>have:=(hS.on b L hL).1;omega
end Go.Proofs.YtankopenjcbeeaaGreatDoor
