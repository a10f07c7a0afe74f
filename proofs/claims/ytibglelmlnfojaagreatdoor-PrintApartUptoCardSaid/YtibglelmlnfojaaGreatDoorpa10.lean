/- PROVED: a part of the proof. Conditions: none. -/
import Derived.Test.YtibglelmlnfojaaGreatDoorpa9
import Derived.Test.YtibglelmlnfojaaGreatDoorProg
import Derived.Shelf.Lays
import Derived.Shelf.LaysM
import Derived.Test.YtibglelmlnfojaaGreatDoorpa7
import Derived.Shelf.Strconv.Itoa3
import Derived.Shelf.Strings.OnBuilder
set_option linter.unusedSimpArgs false
set_option linter.unusedVariables false
noncomputable section
namespace Go.Proofs.YtibglelmlnfojaaGreatDoor
open Go Go.Proofs.Tryz
set_option linter.unusedVariables false
set_option maxRecDepth 100000
structure Yd(P:Program)(GE:List (Nat×List PVal))(l:Nat){S α:Type}(c:α->List PVal)(step:S->α->Option (Bool×S))(J:Bool->S->bp->World->Prop):Prop where
 base:∀b s Γ w,J b s Γ w->Qw GE Γ w
 side:∀b s Γ w,J b s Γ w->∀Γ' bs' ow' w' a' st',SR P (QE GE Γ w) Γ' bs' ow' w' a' st'->J b s Γ' w'
 yield:∀s Γ w x v n r,J true s Γ w->VR Γ [] w (.agg (c x)) v->step s x=some r->YieldAt Fence.wide n P l #[v] w λe w'=>∃Γ',e=.returned (.bool r.1)/\Γ.Le w Γ' w'/\J r.1 r.2 Γ' w'
section
variable{S:Type}(step:S->aa->Option (Bool×S))
mutual
def Oy:aa->S->Option (Bool×S)
 |⟨o,n,k,ks⟩,s=>(step s ⟨o,n,k,ks⟩).bind λr=>match r.1 with
  |false=>some (false,r.2)
  |true=>if ks.length<4611686018427387904 then Bb ks r.2 else none
def Bb:List aa->S->Option (Bool×S)
 |[],s=>some (true,s)
 |p::ps,s=>(Oy p s).bind λr=>match r.1 with
  |false=>some (false,r.2)
  |true=>Bb ps r.2
end
theorem Si(p:aa)(s:S):Oy step p s=(step s p).bind λr=>match r.1 with
  |false=>some (false,r.2)
  |true=>if p.Kids.length<4611686018427387904 then Bb step p.Kids r.2 else none:=by
 obtain⟨o,n,k,ks⟩:=p
 rw[Oy];rfl
end
abbrev fV:Nat:=245
noncomputable def bV:Code:=f245.body.getD .skip
abbrev qjo:Code:=gf bV [false]
abbrev qcL:Code:=gf bV [true,false,false]
abbrev qjZ:Code:=gf bV [true,false,true,false,false]
abbrev qj0:Code:=gf bV [true,true,false,false]
abbrev vL:Code:=gf bV [true,true,false,true,false,false]
abbrev qj1:Code:=gf bV [true,true,false,true,false,false,false]
abbrev qjp:Code:=gf bV [true,true,false,true,false,false,true,true,false,false,false]
abbrev qcM:Code:=gf bV [true,true,false,true,false,false,true,true,false,false,true,false]
abbrev qj2:Code:=gf bV [true,true,false,true,false,false,true,true,false,false,true,true,false,false]
abbrev qj3:Code:=gf bV [true,true,false,true,false,false,true,true,true]
abbrev qj4:Code:=gf bV [true,true,true,false]
theorem qfo:bV=.seq qjo (.seq (.seq qcL (.cond (.tmp 10) (.seq qjZ .ret) .skip)) (.seq (.seq qj0 (.block 0 (.loop vL))) (.seq qj4 .ret))):=by kernel_rfl
theorem qgb:vL=.seq qj1 (.seq (.cond (.tmp 15) .skip (.exit 0)) (.seq (.block 1 (.seq qjp (.seq qcM (.cond (.tmp 21) (.seq qj2 .ret) .skip)))) qj3)):=by kernel_rfl
abbrev yv(l:Nat):PVal:=.val (.func (.yield l) #[] #[])
abbrev Sr(p:aa):List PVal:=[.int .i64 p.Op,.str p.Name,.int .i64 p.N,sl ac p.Kids]
theorem qjN(p:aa):iG 0 (Sr p):=by have:=bv p;rwa[bU]at this
abbrev qjq(p:aa)(l:Nat):aF:=aZ 23 [(1,yv l),(2,.eptr (ac p))] [.dead] []
abbrev qdp(l:Nat)(ks:List aa)(i:Int):aF:=aZ 23 [(1,yv l),(12,sl ac ks),(13,.int .i64 (ks.length:Int)),(14,.int .i64 i)] [.dead] []
abbrev qjr(l:Nat)(ks:List aa)(i:Int)(x:aa):aF:=aZ 23 [(1,yv l),(6,.eptr (ac x)),(12,sl ac ks),(13,.int .i64 (ks.length:Int)),(14,.int .i64 i)] [.dead,.dead] []
theorem qlP(p:aa)(l:Nat):d6 Pg GE 0 qjo (EX .normal (qjq p l)) (aZ 23 [(0,.agg (ac p)),(1,yv l)] [] []):=by
 have z:=qlN (jK p) rfl<|eF .normal (aZ 23 [(1,yv l),(2,.bptr 0 0)] [.cells (Sr p) []] [])
 have h1:d6 Pg GE 0 qjo (EX .normal (aZ 23 [(1,yv l),(2,.bptr 0 0)] [.cells (Sr p) []] [])) (aZ 23 [(0,.agg (ac p)),(1,yv l)] [] []):=j9 (A:=[]) mixed z (by kernel_rfl)
 have z2:=qjX 0 [Sr p] [1,2] [] (qjO (m:=0) (b:=0) rfl (Sr p) rfl) (qjP 0 (qjN p)) (qjQ (l:=Sr p) (r:=Sr p) rfl)<|en (fr (aZ 23 [(1,yv l),(2,.eptr (Sr p))] [.dead] []))
 have h2:=h1.thenW (st2:=aZ 23 [(1,yv l),(2,.eptr (Sr p))] [.dead] []) (qjR z2 (by kernel_rfl))
 unfold qjq
 rw[bU]
 rw[bU]at h2
 exact h2
theorem qlQ(p:aa)(l:Nat):cD Pg GE [] (ny qcL) (λst=>FG st (aZ 23 [(1,yv l),(2,.eptr (ac p)),(7,yv l),(8,.agg (ac p))] [.dead] [])) ((ny qcL).toList.take 2) 0 (qjq p l):=by
 have z:=sv (bC p)<|en (fr (aZ 23 [(1,yv l),(2,.eptr (ac p)),(7,yv l),(8,.agg (ac p))] [.dead] []))
 exact IP z (by kernel_rfl)
theorem qjs(p:aa)(l:Nat)(b:Bool):cD Pg GE [] (ny qcL) (λst=>FG st (aZ 23 [(1,yv l),(2,.eptr (ac p)),(10,.bool (!b))] [.dead] [])) ((ny qcL).toList.drop 3) 0 (aZ 23 [(1,yv l),(2,.eptr (ac p)),(7,yv l),(8,.agg (ac p)),(9,.bool b)] [.dead] []):=by
 have z:=en (fr (aZ 23 [(1,yv l),(2,.eptr (ac p)),(10,.bool (!b))] [.dead] []))
 exact IP z (by kernel_rfl)
abbrev vE(H:List aB)(b:Bool):aF:=aZ 23 [(4,.bool b)] H []
theorem qlR(p:aa)(l:Nat):d6 Pg GE 0 (.seq qjZ .ret) (EX .ret (vE [.dead] false)) (aZ 23 [(1,yv l),(2,.eptr (ac p)),(10,.bool true)] [.dead] []):=by
 have z:=eF .ret (vE [.dead] false)
 exact j9 (A:=[]) mixed z (by kernel_rfl)
theorem qlS(p:aa)(l:Nat):d6 Pg GE 0 qj0 (EX .normal (qdp l p.Kids 0)) (aZ 23 [(1,yv l),(2,.eptr (ac p)),(10,.bool false)] [.dead] []):=by
 have z:=sv (O2 p)<|sv (O5 p)<|qlM (eL.ln p.Kids)<|eF .normal (qdp l p.Kids 0)
 exact j9 (A:=[]) mixed z (by kernel_rfl)
abbrev qeQ(l:Nat)(ks:List aa)(i:Int):aF:=aZ 23 [(1,yv l),(12,sl ac ks),(13,.int .i64 (ks.length:Int)),(14,.int .i64 i),(15,.bool (decide (i<(ks.length:Int))))] [.dead] []
theorem qlT(l:Nat)(ks:List aa)(i:Int):d6 Pg GE 0 qj1 (EX .normal (qeQ l ks i)) (qdp l ks i):=by
 have z:=eF .normal (qeQ l ks i)
 exact j9 (A:=[]) mixed z (by kernel_rfl)
theorem qlU(l:Nat)(ks:List aa)(i:Int)(x:aa)(hx:dh ks i=some x):d6 Pg GE 0 qjp (EX .normal (qjr l ks i x)) (qeQ l ks i):=by
 have z:=sv (eL.ia (k:=.i64) hx)<|sv (bC x)<|sx N7<|sx (jK x)<|eF .normal (aZ 23 [(1,yv l),(6,.bptr 1 0),(12,sl ac ks),(13,.int .i64 (ks.length:Int)),(14,.int .i64 i)] [.dead,.cells (Sr x) []] [])
 have h1:d6 Pg GE 0 qjp (EX .normal (aZ 23 [(1,yv l),(6,.bptr 1 0),(12,sl ac ks),(13,.int .i64 (ks.length:Int)),(14,.int .i64 i)] [.dead,.cells (Sr x) []] [])) (qeQ l ks i):=j9 (A:=[]) mixed z (by kernel_rfl)
 have z2:=qjX 1 [Sr x] [1,6,12,13,14] [] (qjO (m:=0) (b:=1) rfl (Sr x) rfl) (qjP 1 (qjN x)) (qjQ (l:=Sr x) (r:=Sr x) rfl)<|sf (qlE 1 (p:=sl ac ks) (aU bv ks))<|en (fr (aZ 23 [(1,yv l),(6,.eptr (Sr x)),(12,sl ac ks),(13,.int .i64 (ks.length:Int)),(14,.int .i64 i)] [.dead,.dead] []))
 have h2:=h1.thenW (st2:=aZ 23 [(1,yv l),(6,.eptr (Sr x)),(12,sl ac ks),(13,.int .i64 (ks.length:Int)),(14,.int .i64 i)] [.dead,.dead] []) (qjR z2 (by kernel_rfl))
 unfold qjr
 rw[bU]
 exact h2
theorem qlV(l:Nat)(ks:List aa)(i:Int)(x:aa):cD Pg GE [] (ny qcM) (λst=>FG st (aZ 23 [(1,yv l),(12,sl ac ks),(13,.int .i64 (ks.length:Int)),(14,.int .i64 i),(18,.agg (ac x)),(19,yv l)] [.dead,.dead] [])) ((ny qcM).toList.take 2) 0 (qjr l ks i x):=by
 have z:=sv (bC x)<|en (fr (aZ 23 [(1,yv l),(12,sl ac ks),(13,.int .i64 (ks.length:Int)),(14,.int .i64 i),(18,.agg (ac x)),(19,yv l)] [.dead,.dead] []))
 exact IP z (by kernel_rfl)
abbrev qj5(l:Nat)(ks:List aa)(i:Int)(x:aa)(b:Bool):aF:=aZ 23 [(1,yv l),(12,sl ac ks),(13,.int .i64 (ks.length:Int)),(14,.int .i64 i),(18,.agg (ac x)),(19,yv l),(20,.bool b)] [.dead,.dead] []
abbrev qge(l:Nat)(ks:List aa)(i:Int)(b:Bool):aF:=aZ 23 [(1,yv l),(12,sl ac ks),(13,.int .i64 (ks.length:Int)),(14,.int .i64 i),(21,.bool (!b))] [.dead,.dead] []
theorem qjt(l:Nat)(ks:List aa)(i:Int)(x:aa)(b:Bool):cD Pg GE [] (ny qcM) (λst=>FG st (qge l ks i b)) ((ny qcM).toList.drop 3) 0 (qj5 l ks i x b):=by
 have z:=en (fr (qge l ks i b))
 exact IP z (by kernel_rfl)
theorem qlW(l:Nat)(ks:List aa)(i:Int):d6 Pg GE 0 (.seq qj2 .ret) (EX .ret (vE [.dead,.dead] false)) (qge l ks i false):=by
 have z:=eF .ret (vE [.dead,.dead] false)
 exact j9 (A:=[]) mixed z (by kernel_rfl)
theorem qlX(l:Nat)(ks:List aa)(i:Int):d6 Pg GE 0 qj3 (EX .normal (⟨(qdp l ks (dU (i+1))).tmps,[.dead,.dead],[]⟩)) (qge l ks i true):=by
 have z:=eF .normal (⟨(qdp l ks (dU (i+1))).tmps,[.dead,.dead],[]⟩)
 exact j9 (A:=[]) mixed z (by kernel_rfl)
theorem qlY(l:Nat)(ks:List aa)(i:Int):d6 Pg GE 0 (.seq qj4 .ret) (EX .ret (vE [.dead] true)) (qeQ l ks i):=by
 have z:=eF .ret (vE [.dead] true)
 exact j9 (A:=[]) mixed z (by kernel_rfl)
def VF{S:Type}(J:Bool->S->bp->World->Prop)(Γ0:bp)(w0:World)(b:Bool)(s:S)(st:aF)(a:Array Value)(w:World):Prop:=∃Γ,J b s Γ w/\Γ0.Le w0 Γ w/\∃E bs ow,SR Pg E Γ bs ow w a st
structure Dd(st:aF)(k:Nat):Prop where
 c:iG 0 st.tmps
 b:st.boxes=List.replicate k .dead
 o:st.own=[]
structure R4(c:Code):Prop where
 eq:c=.region (qgn c) (ny c) false
 rg:List.range (ny c).size=[0,1]++2::([3]++[])
 p1:[0,1].map (λi=>(ny c)[i]?)=((ny c).toList.take 2).map some
 p2:((ny c).toList.take 2).all NU=true
 o:(ny c)[2]? =some (V6 c 2)
 g:(V6 c 2).guard=none
 q1:[3].map (λi=>(ny c)[i]?)=((ny c).toList.drop 3).map some
 q2:((ny c).toList.drop 3).all NU=true
theorem qjk:R4 qcL:=⟨by kernel_rfl,by kernel_rfl,by kernel_rfl,by kernel_rfl,by kernel_rfl,by kernel_rfl,by kernel_rfl,by kernel_rfl⟩
theorem qjl:R4 qcM:=⟨by kernel_rfl,by kernel_rfl,by kernel_rfl,by kernel_rfl,by kernel_rfl,by kernel_rfl,by kernel_rfl,by kernel_rfl⟩
theorem qeF:(V6 qcL 2).op=.call {callee:=.value (.tmp 7),args:=#[.tmp 8],argTypes:=qeE (V6 qcL 2)}:=by kernel_rfl
theorem qgc:(V6 qcL 2).dst=some 9:=by kernel_rfl
theorem qeG:(V6 qcM 2).op=.call {callee:=.value (.func fV),args:=#[.tmp 18,.tmp 19],argTypes:=qeE (V6 qcM 2)}:=by kernel_rfl
theorem qgd:(V6 qcM 2).dst=some 20:=by kernel_rfl
section
variable{S:Type}{step:S->aa->Option (Bool×S)}{J:Bool->S->bp->World->Prop}{l:Nat}{Γ0:bp}{w0:World}{b:Bool}{s:S}{st0 st1 stA stB:aF}{k kA kB:Nat}{a:Array Value}{w:World}{n:Nat}{ds:List Deferred}
theorem VF.again(hY:Yd Pg GE l ac step J)(hD:Dd st0 k)(h:VF J Γ0 w0 b s st0 a w):∃Γ,J b s Γ w/\Γ0.Le w0 Γ w/\SR Pg (QE GE Γ w) Γ (List.replicate k none) (λ_=>none) w a st0:=by
 obtain⟨Γ,hJ,hle,E,bs,ow,hS⟩:=h
 obtain⟨tm,H,own⟩:=st0
 have hb:H=_:=hD.b
 have ho:own=[]:=hD.o
 subst hb;subst ho
 exact⟨Γ,hJ,hle,hS.again hD.c (hY.base _ _ _ _ hJ) (.refl _ _) k⟩
theorem VF.redo(hY:Yd Pg GE l ac step J)(hD:Dd st0 k)(h:VF J Γ0 w0 b s st0 a w)(k':Nat):VF J Γ0 w0 b s ⟨st0.tmps,List.replicate k' .dead,[]⟩ a w:=by
 obtain⟨Γ,hJ,hle,hS⟩:=h.again hY hD
 exact⟨Γ,hJ,hle,_,_,_,hS.again hD.c (hY.base _ _ _ _ hJ) (.refl _ _) k'⟩
theorem VF.piece(hY:Yd Pg GE l ac step J){c:Code}{e:Exit}(hS:d6 Pg GE 0 c (EX e st1) st0)(hD:Dd st0 k)(h:VF J Γ0 w0 b s st0 a w):c.wpIn Fence.wide n Pg (λe' a' w'=>e'=e/\a'.defers=ds/\VF J Γ0 w0 b s st1 a'.tmps w') ⟨a,ds⟩ w:=by
 obtain⟨Γ,hJ,hle,hR⟩:=h.again hY hD
 refine wpIn_mono (hS.wide (hY.base _ _ _ _ hJ) hR n ds) ?_
 rintro e' a' w' ⟨hd,Γ',bs',ow',st',h',rfl,rfl⟩
 exact⟨rfl,hd,Γ',hY.side _ _ _ _ hJ _ _ _ _ _ _ h',hle.trans h'.step.le,_,_,_,h'⟩
theorem VF.reg(hY:Yd Pg GE l ac step J){c:Code}(hR:R4 c)(hD:Dd st0 k)(hDB:Dd stB kB)(hpre:cD Pg GE [] (ny c) (λst=>FG st stA) ((ny c).toList.take 2) 0 st0)(hsuf:cD Pg GE [] (ny c) (λst=>FG st st1) ((ny c).toList.drop 3) 0 stB){r:Bool×S}
  (hcall:∀a w (next:Act->World->Prop) (Q:Exit->Act->World->Prop),VF J Γ0 w0 b s stA a w->(∀a' w',VF J Γ0 w0 r.1 r.2 stB a' w'->next ⟨a',ds⟩ w')->(V6 c 2).wpIn Fence.wide n Pg ⟨a,ds⟩ w next Q)
  (h:VF J Γ0 w0 b s st0 a w):c.wpIn Fence.wide n Pg (λe' a' w'=>e'=.normal/\a'.defers=ds/\VF J Γ0 w0 r.1 r.2 st1 a'.tmps w') ⟨a,ds⟩ w:=by
 have key:(Code.region (qgn c) (ny c) false).wpIn Fence.wide n Pg (λe' a' w'=>e'=.normal/\a'.defers=ds/\VF J Γ0 w0 r.1 r.2 st1 a'.tmps w') ⟨a,ds⟩ w:=by
  refine wpIn_region ?_
  rw[hR.rg]
  obtain⟨Γ,hJ,hle,hS⟩:=h.again hY hD
  refine E9 (A:=[]) (K:=λst=>FG st stA) (λΓ' bs' ow' a' w' st hS' hK=>?_) _ _ Γ _ _ a w st0 hR.p1 (Kj hR.p2) hS hpre
  obtain⟨Γ2,bs2,ow2,hS2⟩:=FG.sr hS' hK
  refine GZ hR.o hR.g (hcall a' w' _ _ ⟨Γ2,hY.side _ _ _ _ hJ _ _ _ _ _ _ hS2,hle.trans hS2.step.le,_,_,_,hS2⟩ λa3 w3 h3=>?_)
  obtain⟨Γ3,hJ3,hle3,hS3⟩:=h3.again hY hDB
  refine E9 (A:=[]) (K:=λst=>FG st st1) (λΓ' bs' ow' a' w' st hS' hK=>?_) _ _ Γ3 _ _ a3 w3 stB hR.q1 (Kj hR.q2) hS3 hsuf
  obtain⟨Γ4,bs4,ow4,hS4⟩:=FG.sr hS' hK
  exact⟨rfl,rfl,Γ4,hY.side _ _ _ _ hJ3 _ _ _ _ _ _ hS4,hle3.trans hS4.step.le,_,_,_,hS4⟩
 rw[<-hR.eq]at key
 exact key
theorem VF.ev(h:VF J Γ0 w0 b s st0 a w){t:Nat}{x:Bool}(ht:st0.tmps.getD t .undef=.bool x):(Act.mk a ds).eval (.tmp t)=.bool x:=by
 obtain⟨Γ,hJ,hle,E,bs,ow,hS⟩:=h
 have h1:=hS.opv ds (.tmp t)
 have e1:opv E.GE st0.tmps (.tmp t)=.bool x:=ht
 rw[e1]at h1
 generalize (Act.mk a ds).eval (.tmp t)=v at h1
 cases h1
 rfl
theorem VF.put(hY:Yd Pg GE l ac step J)(hD:Dd stA kA){Γ Γ':bp}{w':World}{E:tS}{bs:bG}{ow:Nat->Option mh}(hS:SR Pg E Γ bs ow w a stA)(hle:Γ0.Le w0 Γ w)(hle':Γ.Le w Γ' w'){r:Bool×S}(hJ':J r.1 r.2 Γ' w'){d:Nat}(hB:stB=⟨stA.tmps.set d (.bool r.1),List.replicate kA .dead,[]⟩):VF J Γ0 w0 r.1 r.2 stB (a.setIfInBounds d (.bool r.1)) w':=by
 have hS':=(hS.again hD.c (hY.base _ _ _ _ hJ') hle' kA).set (d:=d) (p:=.bool r.1) (v:=.bool r.1) (.bool _)
 exact⟨Γ',hJ',hle.trans hle',_,_,_,hB▸hS'⟩
theorem VF.yieldc(hY:Yd Pg GE l ac step J)(hD:Dd stA kA){p:aa}{r:Bool×S}(hr:step s p=some r){o:Oper}{f x d:Nat}{tys:Array TypeId}(h7:stA.tmps.getD f .undef=yv l)(h8:stA.tmps.getD x .undef=.agg (ac p))
  (ho:o.op=.call {callee:=.value (.tmp f),args:=#[.tmp x],argTypes:=tys}) (hd:o.dst=some d) (hB:stB=⟨stA.tmps.set d (.bool r.1),List.replicate kA .dead,[]⟩)
  {next:Act->World->Prop} {Q:Exit->Act->World->Prop} (h:VF J Γ0 w0 true s stA a w) (hn:∀a' w',VF J Γ0 w0 r.1 r.2 stB a' w'->next ⟨a',ds⟩ w'):o.wpIn Fence.wide n Pg ⟨a,ds⟩ w next Q:=by
 obtain⟨Γ,hJ,hle,hS⟩:=h.again hY hD
 have h1:=hS.opv ds (.tmp f)
 have h2:=hS.opv ds (.tmp x)
 have e1:opv (QE GE Γ w).GE stA.tmps (.tmp f)=yv l:=h7
 have e2:opv (QE GE Γ w).GE stA.tmps (.tmp x)=.agg (ac p):=h8
 rw[e1]at h1;rw[e2]at h2
 have hev:(Act.mk a ds).eval (.tmp f)=.func (.yield l) #[] #[]:=by
  generalize (Act.mk a ds).eval (.tmp f)=v at h1
  cases h1;rfl
 refine Vl ho hev (R:=λe w'=>∃Γ',e=.returned (.bool r.1)/\Γ.Le w Γ' w'/\J r.1 r.2 Γ' w') ?_ ?_
 ·have:=hY.yield s Γ w p _ (n - 1) r hJ (h2.clo (by simp only[PVal.cl];exact bv p)) hr
  simpa using this
 ·rintro e w' ⟨Γ',rfl,hle',hJ'⟩
  refine⟨_,rfl,?_⟩
  rw[hd]
  exact hn _ _ (VF.put hY hD hS hle hle' hJ' hB)
def qeY(step:S->aa->Option (Bool×S))(J:Bool->S->bp->World->Prop)(l:Nat)(p:aa):Prop:=∀s r Γ w v n,Oy step p s=some r->J true s Γ w->VR Γ [] w (.agg (ac p)) v->
 CallsIn Fence.wide n Pg fV #[v,.func (.yield l) #[] #[]] w λe w'=>∃Γ',e=.returned (.bool r.1)/\Γ.Le w Γ' w'/\J r.1 r.2 Γ' w'
theorem VF.visitc(hY:Yd Pg GE l ac step J)(hD:Dd stA kA){p:aa}(hp:qeY step J l p){r:Bool×S}(hr:Oy step p s=some r){o:Oper}{x y d:Nat}{tys:Array TypeId}(h7:stA.tmps.getD y .undef=yv l)(h8:stA.tmps.getD x .undef=.agg (ac p))
  (ho:o.op=.call {callee:=.value (.func fV),args:=#[.tmp x,.tmp y],argTypes:=tys}) (hd:o.dst=some d) (hB:stB=⟨stA.tmps.set d (.bool r.1),List.replicate kA .dead,[]⟩)
  {next:Act->World->Prop} {Q:Exit->Act->World->Prop} (h:VF J Γ0 w0 true s stA a w) (hn:∀a' w',VF J Γ0 w0 r.1 r.2 stB a' w'->next ⟨a',ds⟩ w'):o.wpIn Fence.wide n Pg ⟨a,ds⟩ w next Q:=by
 obtain⟨Γ,hJ,hle,hS⟩:=h.again hY hD
 have h1:=hS.opv ds (.tmp y)
 have h2:=hS.opv ds (.tmp x)
 have e1:opv (QE GE Γ w).GE stA.tmps (.tmp y)=yv l:=h7
 have e2:opv (QE GE Γ w).GE stA.tmps (.tmp x)=.agg (ac p):=h8
 rw[e1]at h1;rw[e2]at h2
 have hev:(Act.mk a ds).eval (.tmp y)=.func (.yield l) #[] #[]:=by
  generalize (Act.mk a ds).eval (.tmp y)=v at h1
  cases h1;rfl
 refine WW ho (g:=fV) (fs:=#[]) (cs:=#[]) rfl call245 (R:=λe w'=>∃Γ',e=.returned (.bool r.1)/\Γ.Le w Γ' w'/\J r.1 r.2 Γ' w') ?_ ?_
 ·have:=hp s r Γ w _ (n - 1) hr hJ (h2.clo (by simp only[PVal.cl];exact bv p))
  simpa[hev]using this
 ·rintro e w' ⟨Γ',rfl,hle',hJ'⟩
  refine⟨_,rfl,?_⟩
  rw[hd]
  exact hn _ _ (VF.put hY hD hS hle hle' hJ' hB)
theorem VF.fin{x:Bool}{H:List aB}(h:VF J Γ0 w0 b s (vE H x) a w):(results f245 a).run Pg w=.ok (.bool x) w:=by
 obtain⟨Γ,hJ,hle,E,bs,ow,hS⟩:=h
 obtain⟨v,h1,h2,_⟩:=xt hS (fn:=f245) (r:=.bool x) (by kernel_rfl)
 cases h2
 exact h1
theorem W3{N:Nat}{L:List (Nat×PVal)}(h:qd0 0 L)(k:Nat){H:List aB}(hH:H=List.replicate k .dead):Dd (aZ N L H []) k:=⟨bE h,hH,rfl⟩
theorem WX(ks:List aa):(sl ac ks).cl 0:=aU bv ks
theorem qcT(l:Nat)(ks:List aa)(i:Int):Dd (qdp l ks i) 1:=W3 (by exact aI vzz<|aI (WX ks)<|aI vzz<|aI vzz vzz) 1 rfl
theorem qcU(l:Nat)(ks:List aa)(i:Int):Dd (qeQ l ks i) 1:=W3 (by exact aI vzz<|aI (WX ks)<|aI vzz<|aI vzz<|aI vzz vzz) 1 rfl
theorem qcV(l:Nat)(ks:List aa)(i:Int)(b:Bool):Dd (qge l ks i b) 2:=W3 (by exact aI vzz<|aI (WX ks)<|aI vzz<|aI vzz<|aI vzz vzz) 2 rfl
theorem Vj(hY:Yd Pg GE l ac step J)(p:aa)(hk:∀x∈p.Kids,qeY step J l x):qeY step J l p:=by
 intro s r Γ w v n hv hJ hvr
 refine callsIn_of_wp func245 (c:=bV) rfl vzz ?_
 have h0:VF J Γ w true s (aZ 23 [(0,.agg (ac p)),(1,yv l)] [] []) (#[v,.func (.yield l) #[] #[]]++Array.replicate 21 undef) w:=by
  refine⟨Γ,hJ,.refl _ _,_,_,_,(hY.base _ _ _ _ hJ).fresh 0 (tmps:=[.agg (ac p),yv l]++List.replicate 21 .undef) (by simp) λt q u hq hu=>?_⟩
  by_cases ht:t<2
  ·rw[van (by simpa using ht)]at hq
   rw[va7 (by simpa using ht)]at hu
   match t,ht with
   |0,_=>simp at hq hu;subst hq;subst hu;exact hvr
   |1,_=>simp at hq hu;subst hq;subst hu;exact .val _
  ·rw[vav (by simpa using ht),va8]at hq
   split at hq<;>cases hq
   exact .undef u
 show bV.wpIn Fence.wide n Pg _ ⟨_,[]⟩ w
 rw[Si]at hv
 obtain⟨q,hq,hv⟩:=Gd hv
 have hb:Pg.funcs.size=Pg.funcs.size:=rfl
 have hret:∀{b:Bool} {s:S} {x:Bool} {H:List aB} {a':Act} {w':World},a'.defers=[]->VF J Γ w b s (vE H x) a'.tmps w'->b=r.1->s=r.2->x=r.1->
   bodyPost Pg f245 (λe w'=>∃Γ',e=.returned (.bool r.1)/\Γ.Le w Γ' w'/\J r.1 r.2 Γ' w') .ret a' w':=by
  rintro b s x H a' w' hd h rfl rfl rfl
  refine⟨hd,.bool r.1,h.fin,?_⟩
  obtain⟨Γ',hJ',hle,_⟩:=h
  exact⟨Γ',rfl,hle,hJ'⟩
 rw[qfo]
 refine wpIn_seq (wpIn_mono (VF.piece hY (qlP p l) (k:=0) (W3 (by exact aI (bv p)<|aI vzz vzz) 0 rfl) h0) ?_)
 rintro e ⟨a1,ds1⟩ w1 ⟨rfl,rfl,h1⟩
 have d2:(PVal.eptr (ac p)).cl 0:=by simp only[PVal.cl];exact bv p
 have d3:(PVal.agg (ac p)).cl 0:=by simp only[PVal.cl];exact bv p
 refine wpIn_seq (wpIn_seq (wpIn_mono (VF.reg hY qjk (k:=1) (kB:=1) (r:=q) (stB:=aZ 23 [(1,yv l),(2,.eptr (ac p)),(7,yv l),(8,.agg (ac p)),(9,.bool q.1)] [.dead] []) (W3 (by exact aI vzz<|aI d2 vzz) 1 rfl) (W3 (by exact aI vzz<|aI d2<|aI vzz<|aI d3<|aI vzz vzz) 1 rfl) (qlQ p l) (qjs p l q.1)
  (λa w next Q h hn=>VF.yieldc hY (kA:=1) (W3 (by exact aI vzz<|aI d2<|aI vzz<|aI d3 vzz) 1 rfl) hq (f:=7) (x:=8) (d:=9) rfl rfl qeF qgc rfl h hn) h1) ?_))
 rintro e ⟨a2,ds2⟩ w2 ⟨rfl,rfl,h2⟩
 refine wpIn_cond (h2.ev (t:=10) (x:=!q.1) rfl) ?_
 have dS2:∀b:Bool,Dd (aZ 23 [(1,yv l),(2,.eptr (ac p)),(10,.bool b)] [.dead] []) 1:=λb=>W3 (by exact aI vzz<|aI d2<|aI vzz vzz) 1 rfl
 obtain⟨q1,q2⟩:=q
 cases q1 with
 |false=>
  cases hv
  refine wpIn_mono (VF.piece hY (qlR p l) (dS2 true) h2) ?_
  rintro e ⟨a3,ds3⟩ w3 ⟨rfl,rfl,h3⟩
  exact hret rfl h3 rfl rfl rfl
 | true =>
  simp only at hv
  split at hv
  case isFalse=>cases hv
  rename_i hlen
  refine wpIn_skip ?_
  refine wpIn_seq (wpIn_seq (wpIn_mono (VF.piece hY (qlS p l) (dS2 false) h2) ?_))
  rintro e ⟨a3,ds3⟩ w3 ⟨rfl,rfl,h3⟩
  refine wpIn_block (wpIn_loop_ghost (λk a w'=>a.defers=[]/\∃(i:Nat) (s':S),k=p.Kids.length - i/\i<=p.Kids.length/\Bb step (p.Kids.drop i) s'=some r/\VF J Γ w true s' (qdp l p.Kids (i:Int)) a.tmps w') (p.Kids.length)
   ⟨rfl,0,q2,rfl,vaX _,hv,h3⟩ ?_)
  rintro k ⟨a4,ds4⟩ w4 ⟨hd4,i,s',rfl,hi,hvl,h4⟩
  simp only at hd4;subst hd4
  rw[qgb]
  refine wpIn_seq (wpIn_mono (VF.piece hY (qlT l p.Kids i) (qcT _ _ _) h4) ?_)
  rintro e ⟨a5,ds5⟩ w5 ⟨rfl,rfl,h5⟩
  refine wpIn_seq (wpIn_cond (h5.ev (t:=15) (x:=decide ((i:Int)<(p.Kids.length:Int))) rfl) ?_)
  by_cases hlt:i<p.Kids.length
  ·rw[vaP (by omega)]
   refine wpIn_skip ?_
   have hdrop:p.Kids.drop i=p.Kids[i]::p.Kids.drop (i+1):=vaI hlt
   rw[hdrop,Bb]at hvl
   obtain⟨q',hq',hvl⟩:=Gd hvl
   have hx:dh p.Kids (i:Int)=some p.Kids[i]:=aM _ _ hlt
   generalize hxx:p.Kids[i]=x at *
   have hxm:x∈p.Kids:=hxx▸vah hlt
   have e2:(PVal.eptr (ac x)).cl 0:=by simp only[PVal.cl];exact bv x
   have e3:(PVal.agg (ac x)).cl 0:=by simp only[PVal.cl];exact bv x
   refine wpIn_seq (wpIn_block (wpIn_seq (wpIn_mono (VF.piece hY (qlU l p.Kids i x hx) (qcU _ _ _) h5) ?_)))
   rintro e ⟨a6,ds6⟩ w6 ⟨rfl,rfl,h6⟩
   refine wpIn_seq (wpIn_mono (VF.reg hY qjl (k:=2) (kB:=2) (r:=q') (stB:=qj5 l p.Kids i x q'.1) (W3 (by exact aI vzz<|aI e2<|aI (WX _)<|aI vzz<|aI vzz vzz) 2 rfl) (W3 (by exact aI vzz<|aI (WX _)<|aI vzz<|aI vzz<|aI e3<|aI vzz<|aI vzz vzz) 2 rfl) (qlV l p.Kids i x) (qjt l p.Kids i x q'.1)
    (λa w next Q h hn=>VF.visitc hY (kA:=2) (W3 (by exact aI vzz<|aI (WX _)<|aI vzz<|aI vzz<|aI e3<|aI vzz vzz) 2 rfl) (hk x hxm) hq' (y:=19) (x:=18) (d:=20) rfl rfl qeG qgd rfl h hn) h6) ?_)
   rintro e ⟨a7,ds7⟩ w7 ⟨rfl,rfl,h7⟩
   refine wpIn_cond (h7.ev (t:=21) (x:=!q'.1) rfl) ?_
   obtain⟨q1,q2⟩:=q'
   cases q1 with
   |false=>
    cases hvl
    refine wpIn_mono (VF.piece hY (qlW l p.Kids i) (qcV _ _ _ _) h7) ?_
    rintro e ⟨a8,ds8⟩ w8 ⟨rfl,rfl,h8⟩
    exact hret rfl h8 rfl rfl rfl
   |true=>
    refine wpIn_skip ?_
    refine wpIn_mono (VF.piece hY (qlX l p.Kids i) (qcV _ _ _ _) h7) ?_
    rintro e ⟨a8,ds8⟩ w8 ⟨rfl,rfl,h8⟩
    refine⟨p.Kids.length - (i+1),by omega,rfl,i+1,q2,rfl,hlt,hvl,?_⟩
    have e:dU ((i:Int)+1)=((i+1:Nat):Int):=by rw[cW (by omega) (by omega)];omega
    rw[e]at h8
    exact VF.redo (st0:=⟨(qdp l p.Kids ((i+1:Nat):Int)).tmps,[.dead,.dead],[]⟩) hY (k:=2) ⟨(qcT l p.Kids _).c,rfl,rfl⟩ h8 1
  ·rw[decide_eq_false (by omega)]
   refine wpIn_exit ?_
   have hi':i=p.Kids.length:=by omega
   rw[vbP (by omega),Bb]at hvl
   cases hvl
   refine wpIn_mono (VF.piece hY (qlY l p.Kids i) (qcU _ _ _) h5) ?_
   rintro e ⟨a6,ds6⟩ w6 ⟨rfl,rfl,h6⟩
   exact hret rfl h6 rfl rfl rfl
mutual
theorem T9(hY:Yd Pg GE l ac step J):∀p:aa,qeY step J l p
 |⟨o,n,k,ks⟩=>Vj hY ⟨o,n,k,ks⟩ (Qn hY ks)
theorem Qn(hY:Yd Pg GE l ac step J):∀ks:List aa,∀x∈ks,qeY step J l x
 |[],x,hx=>by simp at hx
 | y :: ks,x,hx => by
  rcases vaF.1 hx with h|h
  ·exact h▸T9 hY y
  ·exact Qn hY ks x h
end
end
end Go.Proofs.YtibglelmlnfojaaGreatDoor
namespace Go.Proofs
open Go.Shelf
noncomputable def Tryz.laysM171_ren : Go.Shelf.Ren := ⟨fun | 171 => 107 | 243 => 161 | 246 => 214 | 283 => 239 | 284 => 240 | 285 => 241 | 286 => 242 | 129 => 256 | 317 => 255 | 318 => 257 | 319 => 258 | 320 => 259 | 337 => 262 | 338 => 263 | n => n, fun | 3 => 3 | 9 => 9 | 2 => 2 | 4 => 4 | 171 => 223 | 0 => 0 | 53 => 224 | 37 => 72 | 5 => 5 | 173 => 227 | 212 => 240 | 51 => 241 | 20 => 20 | 213 => 242 | 46 => 243 | 232 => 247 | 233 => 248 | n => n, fun | 17 => 2 | 18 => 4 | 19 => 5 | n => n⟩
theorem Tryz.laysM171 : Go.Proofs.LaysM.n171 Tryz.prog Tryz.laysM171_ren := {
 mixed := by kernel_rfl
 f129 := Tryz.func256.trans (congrArg some (by kernel_rfl))
 f171 := Tryz.func107.trans (congrArg some (by kernel_rfl))
 f243 := Tryz.func161.trans (congrArg some (by kernel_rfl))
 f246 := Tryz.func214.trans (congrArg some (by kernel_rfl))
 f283 := Tryz.func239.trans (congrArg some (by kernel_rfl))
 f284 := Tryz.func240.trans (congrArg some (by kernel_rfl))
 f285 := Tryz.func241.trans (congrArg some (by kernel_rfl))
 f286 := Tryz.func242.trans (congrArg some (by kernel_rfl))
 f317 := Tryz.func255.trans (congrArg some (by kernel_rfl))
 f318 := Tryz.func257.trans (congrArg some (by kernel_rfl))
 f319 := Tryz.func258.trans (congrArg some (by kernel_rfl))
 f320 := Tryz.func259.trans (congrArg some (by kernel_rfl))
 f337 := Tryz.func262.trans (congrArg some (by kernel_rfl))
 f338 := Tryz.func263.trans (congrArg some (by kernel_rfl))
 t0 := Tryz.underlying0
 a0 := Tryz.isAgg0
 z0 := Tryz.sizeOf0
 v0 := Tryz.zeroValue0
 t2 := Tryz.underlying2
 a2 := Tryz.isAgg2
 z2 := Tryz.sizeOf2
 v2 := Tryz.zeroValue2
 t3 := Tryz.underlying3
 a3 := Tryz.isAgg3
 z3 := Tryz.sizeOf3
 v3 := Tryz.zeroValue3
 t4 := Tryz.underlying4
 a4 := Tryz.isAgg4
 z4 := Tryz.sizeOf4
 v4 := Tryz.zeroValue4
 t5 := Tryz.underlying5
 a5 := Tryz.isAgg5
 z5 := Tryz.sizeOf5
 v5 := Tryz.zeroValue5
 t9 := Tryz.underlying9
 a9 := Tryz.isAgg9
 z9 := Tryz.sizeOf9
 v9 := Tryz.zeroValue9
 t20 := Tryz.underlying20
 a20 := Tryz.isAgg20
 z20 := Tryz.sizeOf20
 v20 := Tryz.zeroValue20
 t37 := Tryz.underlying72
 a37 := Tryz.isAgg72
 z37 := Tryz.sizeOf72
 v37 := Tryz.zeroValue72
 t46 := Tryz.underlying243
 a46 := Tryz.isAgg243
 z46 := Tryz.sizeOf243
 v46 := Tryz.zeroValue243
 t51 := Tryz.underlying241
 a51 := Tryz.isAgg241
 z51 := Tryz.sizeOf241
 v51 := Tryz.zeroValue241
 t53 := Tryz.underlying224
 a53 := Tryz.isAgg224
 z53 := Tryz.sizeOf224
 v53 := Tryz.zeroValue224
 t171 := Tryz.underlying223
 a171 := Tryz.isAgg223
 z171 := Tryz.sizeOf223
 v171 := Tryz.zeroValue223
 t173 := Tryz.underlying227
 a173 := Tryz.isAgg227
 z173 := Tryz.sizeOf227
 v173 := Tryz.zeroValue227
 t212 := Tryz.underlying240
 a212 := Tryz.isAgg240
 z212 := Tryz.sizeOf240
 v212 := Tryz.zeroValue240
 t213 := Tryz.underlying242
 a213 := Tryz.isAgg242
 z213 := Tryz.sizeOf242
 t232 := Tryz.underlying247
 a232 := Tryz.isAgg247
 z232 := Tryz.sizeOf247
 v232 := Tryz.zeroValue247
 t233 := Tryz.underlying248
 a233 := Tryz.isAgg248
 z233 := Tryz.sizeOf248
 v233 := Tryz.zeroValue248
 g17 := by kernel_rfl
 g18 := by kernel_rfl
 g19 := by kernel_rfl
 i0 := by kernel_rfl
 i2 := by kernel_rfl
 i3 := by kernel_rfl
 i4 := by kernel_rfl
 i5 := by kernel_rfl
 i9 := by kernel_rfl
 i20 := by kernel_rfl
 i37 := by kernel_rfl
 i46 := by kernel_rfl
 i51 := by kernel_rfl
 i53 := by kernel_rfl
 i171 := by kernel_rfl
 i173 := by kernel_rfl
 i212 := by kernel_rfl
 i232 := by kernel_rfl
 i233 := by kernel_rfl
 m17 := by kernel_rfl
 m18 := by kernel_rfl
 m19 := by kernel_rfl }
noncomputable def Tryz.lays156_ren : Go.Shelf.Ren := ⟨fun | 156 => 187 | 165 => 230 | 166 => 72 | 169 => 54 | 240 => 124 | 241 => 248 | 276 => 183 | 277 => 260 | n => n, fun | 31 => 24 | 9 => 9 | 3 => 3 | 4 => 4 | 0 => 0 | 20 => 20 | 72 => 74 | 76 => 132 | 70 => 71 | 37 => 72 | 75 => 131 | 127 => 146 | 164 => 186 | 5 => 5 | 80 => 78 | n => n, fun | n => n⟩
theorem Tryz.lays156 : Go.Proofs.Lays.n156 Tryz.prog Tryz.lays156_ren := {
 mixed := by kernel_rfl
 f156 := Tryz.func187.trans (congrArg some (by kernel_rfl))
 f165 := Tryz.func230.trans (congrArg some (by kernel_rfl))
 f166 := Tryz.func72.trans (congrArg some (by kernel_rfl))
 f169 := Tryz.func54.trans (congrArg some (by kernel_rfl))
 f240 := Tryz.func124.trans (congrArg some (by kernel_rfl))
 f241 := Tryz.func248.trans (congrArg some (by kernel_rfl))
 f276 := Tryz.func183.trans (congrArg some (by kernel_rfl))
 f277 := Tryz.func260.trans (congrArg some (by kernel_rfl))
 t0 := Tryz.underlying0
 a0 := Tryz.isAgg0
 z0 := Tryz.sizeOf0
 v0 := Tryz.zeroValue0
 t3 := Tryz.underlying3
 a3 := Tryz.isAgg3
 z3 := Tryz.sizeOf3
 v3 := Tryz.zeroValue3
 t4 := Tryz.underlying4
 a4 := Tryz.isAgg4
 z4 := Tryz.sizeOf4
 v4 := Tryz.zeroValue4
 t9 := Tryz.underlying9
 a9 := Tryz.isAgg9
 z9 := Tryz.sizeOf9
 v9 := Tryz.zeroValue9
 t20 := Tryz.underlying20
 a20 := Tryz.isAgg20
 z20 := Tryz.sizeOf20
 v20 := Tryz.zeroValue20
 t31 := Tryz.underlying24
 a31 := Tryz.isAgg24
 z31 := Tryz.sizeOf24
 v31 := Tryz.zeroValue24
 t37 := Tryz.underlying72
 a37 := Tryz.isAgg72
 z37 := Tryz.sizeOf72
 v37 := Tryz.zeroValue72
 t70 := Tryz.underlying71
 a70 := Tryz.isAgg71
 z70 := Tryz.sizeOf71
 v70 := Tryz.zeroValue71
 t72 := Tryz.underlying74
 a72 := Tryz.isAgg74
 z72 := Tryz.sizeOf74
 v72 := Tryz.zeroValue74
 t75 := Tryz.underlying131
 a75 := Tryz.isAgg131
 z75 := Tryz.sizeOf131
 v75 := Tryz.zeroValue131
 t76 := Tryz.underlying132
 a76 := Tryz.isAgg132
 z76 := Tryz.sizeOf132
 v76 := Tryz.zeroValue132
 t127 := Tryz.underlying146
 a127 := Tryz.isAgg146
 z127 := Tryz.sizeOf146
 v127 := Tryz.zeroValue146
 t164 := Tryz.underlying186
 a164 := Tryz.isAgg186
 z164 := Tryz.sizeOf186
 v164 := Tryz.zeroValue186 }
noncomputable def Tryz.lays169_ren : Go.Shelf.Ren := ⟨fun | 169 => 54 | n => n, fun | 70 => 71 | 9 => 9 | 0 => 0 | 72 => 74 | 37 => 72 | 127 => 146 | 3 => 3 | 5 => 5 | n => n, fun | n => n⟩
theorem Tryz.lays169 : Go.Proofs.Lays.n169 Tryz.prog Tryz.lays169_ren := {
 mixed := by kernel_rfl
 f169 := Tryz.func54.trans (congrArg some (by kernel_rfl))
 t0 := Tryz.underlying0
 a0 := Tryz.isAgg0
 z0 := Tryz.sizeOf0
 v0 := Tryz.zeroValue0
 t3 := Tryz.underlying3
 a3 := Tryz.isAgg3
 z3 := Tryz.sizeOf3
 v3 := Tryz.zeroValue3
 t9 := Tryz.underlying9
 a9 := Tryz.isAgg9
 z9 := Tryz.sizeOf9
 v9 := Tryz.zeroValue9
 t37 := Tryz.underlying72
 a37 := Tryz.isAgg72
 z37 := Tryz.sizeOf72
 v37 := Tryz.zeroValue72
 t70 := Tryz.underlying71
 a70 := Tryz.isAgg71
 z70 := Tryz.sizeOf71
 v70 := Tryz.zeroValue71
 t72 := Tryz.underlying74
 a72 := Tryz.isAgg74
 z72 := Tryz.sizeOf74
 v72 := Tryz.zeroValue74
 t127 := Tryz.underlying146
 a127 := Tryz.isAgg146
 z127 := Tryz.sizeOf146
 v127 := Tryz.zeroValue146 }
end Go.Proofs
namespace Go.Proofs.YtibglelmlnfojaaGreatDoor
open Go Go.Proofs.Tryz
set_option maxRecDepth 100000
def Ni(n:Int):Option ah:=if(decide (-9223372036854775808<=n)&&decide (n<=9223372036854775807))=true then some (Lib.itoa n)else none
theorem qao:km=Lib.pow10Tab:=by kernel_rfl
theorem Mm{n:Int}{r:ah}(h:Ni n=some r):CC Pg GE 107 [.int .i64 n] (.str r) []:=by
 rcases n9 h with⟨b,h⟩|⟨b,h⟩
 ·obtain rfl:=lf h
  simp only[vaf,var]at b
  refine CC.grownIS call107 λE Γ bs ow w a st hE hS=>?_
  have htab:Lib.TabIs Pg w "internal/strconv.uint64pow10" .u64 Lib.pow10Tab:=qeA hS (g:=2) (by rw[hE,←qao];simp[GE]) (by kernel_rfl)
  refine(Any.strconv_Itoa Tryz.laysM171 n b.1 b.2 w htab).mono λe w' he=>?_
  obtain⟨rfl,k,os,rfl⟩:=he
  exact⟨rfl,.of_grow _ _ _⟩
 ·cases h
abbrev fB:Nat:=228
abbrev fW:Nat:=244
noncomputable def bW:Code:=f244.body.getD .skip
noncomputable def bB:Code:=f228.body.getD .skip
theorem WS(p:aa):CC Pg GE fB [.agg (ac p)] (.func (.func fW) [] [.eptr (ac p)]) []:=by
 have z:=se (eI p)<|en (aI (rP (.func (.func fW) [] [.eptr (ac p)]))<|(aI vzz (aI (show iG 0 (ac p)from bv p) trivial)))
 exact C.evp (A:=[]) mixed call228 func228 (c:=bB) rfl (aI (bv p) trivial) z (by kernel_rfl)
theorem qfp:bW=.region (qgn bW) (ny bW) false:=by kernel_rfl
theorem qft:List.range (ny bW).size=[0,1]++2::([]:List Nat):=by kernel_rfl
theorem qfr:[0,1].map (λi=>(ny bW)[i]?)=((ny bW).toList.take 2).map some:=by kernel_rfl
theorem qfs:((ny bW).toList.take 2).all NU=true:=by kernel_rfl
theorem qiV:(ny bW)[2]? =some (V6 bW 2):=by kernel_rfl
theorem qiU:(V6 bW 2).guard=none:=by kernel_rfl
theorem qfq:(V6 bW 2).op=.call {callee:=.value (.func fV),args:=#[.tmp 3,.tmp 4],argTypes:=qeE (V6 bW 2)}:=by kernel_rfl
theorem qiT:(V6 bW 2).dst=some 5:=by kernel_rfl
theorem qdU(p:aa)(l:Nat):cD Pg GE [] (ny bW) (λst=>FG st (aZ 6 [(3,.agg (ac p)),(4,yv l)] [] [])) ((ny bW).toList.take 2) 0 (aZ 6 [(0,yv l),(1,.eptr (ac p))] [] []):=by
 have z:=sv (bC p)<|en (fr (aZ 6 [(3,.agg (ac p)),(4,yv l)] [] []))
 exact IP z (by kernel_rfl)
section
variable{S:Type}{step:S->aa->Option (Bool×S)}{J:Bool->S->bp->World->Prop}{l:Nat}
theorem qdV(hY:Yd Pg GE l ac step J)(p:aa){s:S}{r:Bool×S}{Γ:bp}{w:World}{v:Value}{n:Nat}(hv:Oy step p s=some r)(hJ:J true s Γ w)(hvr:VR Γ [] w (.eptr (ac p)) v):CallsIn Fence.wide n Pg fW #[.func (.yield l) #[] #[],v] w λe w'=>(∃u,e=.returned u)/\∃Γ',Γ.Le w Γ' w'/\J r.1 r.2 Γ' w':=by
 refine callsIn_of_wp func244 (c:=bW) rfl vzz ?_
 have h0:VF J Γ w true s (aZ 6 [(0,yv l),(1,.eptr (ac p))] [] []) (#[.func (.yield l) #[] #[],v]++Array.replicate 4 undef) w:=by
  refine⟨Γ,hJ,.refl _ _,_,_,_,(hY.base _ _ _ _ hJ).fresh 0 (tmps:=[yv l,.eptr (ac p)]++List.replicate 4 .undef) (by simp) λt q u hq hu=>?_⟩
  by_cases ht:t<2
  ·rw[van (by simpa using ht)]at hq
   rw[va7 (by simpa using ht)]at hu
   match t,ht with
   |0,_=>simp at hq hu;subst hq;subst hu;exact .val _
   |1,_=>simp at hq hu;subst hq;subst hu;exact hvr
  ·rw[vav (by simpa using ht),va8]at hq
   split at hq<;>cases hq
   exact .undef u
 show bW.wpIn Fence.wide n Pg _ ⟨_,[]⟩ w
 have d2:(PVal.eptr (ac p)).cl 0:=bv p
 have d3:(PVal.agg (ac p)).cl 0:=bv p
 have key:(Code.region (qgn bW) (ny bW) false).wpIn Fence.wide n Pg (bodyPost Pg f244 λe w'=>(∃u,e=.returned u)/\∃Γ',Γ.Le w Γ' w'/\J r.1 r.2 Γ' w') ⟨#[.func (.yield l) #[] #[],v]++Array.replicate 4 undef,[]⟩ w:=by
  refine wpIn_region ?_
  rw[qft]
  obtain⟨Γ1,hJ1,hle1,hS⟩:=VF.again hY (k:=0) (W3 (L:=[(0,yv l),(1,.eptr (ac p))]) (by exact aI vzz<|aI d2 vzz) 0 rfl) h0
  refine E9 (A:=[]) (K:=λst=>FG st (aZ 6 [(3,.agg (ac p)),(4,yv l)] [] [])) (λΓ' bs' ow' a' w' st hS' hK=>?_) _ _ Γ1 _ _ _ w _ qfr (Kj qfs) hS (qdU p l)
  obtain⟨Γ2,bs2,ow2,hS2⟩:=FG.sr hS' hK
  refine GZ qiV qiU (VF.visitc hY (kA:=0) (stB:=aZ 6 [(3,.agg (ac p)),(4,yv l),(5,.bool r.1)] [] []) (W3 (by exact aI d3<|aI vzz vzz) 0 rfl) (T9 hY p) hv (y:=4) (x:=3) (d:=5) rfl rfl qfq qiT rfl ⟨Γ2,hY.side _ _ _ _ hJ1 _ _ _ _ _ _ hS2,hle1.trans hS2.step.le,_,_,_,hS2⟩ λa3 w3 h3=>?_)
  obtain⟨Γ3,hJ3,hle3,E,bs3,ow3,hS3⟩:=h3
  obtain⟨u,e1,_⟩:=xt hS3 (fn:=f244) (r:=.tuple []) (by kernel_rfl)
  exact⟨rfl,u,e1,⟨u,rfl⟩,Γ3,hle3,hJ3⟩
 rw[<-qfp]at key
 exact key
end
open Go Go.Shelf Go.RowKit Go.Proofs.Tryz
section
variable{P:Program}{ρ:Ren}
set_option maxHeartbeats 1000000 in
set_option maxRecDepth 100000 in
theorem WT(L:Lays.n240 P ρ)(b:Nat)(w:World)(T:TypeId)(n:Nat)(j:TypeInfo)(hj:P.info? (ρ.t 72)=some j)(hjs:j.size≠0)(hn:0<n)(hlies:liesAt P P.depth T (n / P.cellsOf T) 0 (ρ.t 72) 1=true)
  (h0:w.cell? ⟨b,0,none⟩=some (.pointer none)) (hsh:w.shape? b=some (T,n)) (hfz:w.frozen? ⟨b,0,none⟩=false):
  Calls P (ρ.f 240) #[.pointer (some ⟨b,0,none⟩)] w λe w'=>e=.returned (.tuple #[])/\w'=w.setCell ⟨b,0,none⟩ (.pointer (some ⟨b,0,none⟩)):=by
 have mixed:=L.mixed
 have t72:=L.t72;have a72:=L.a72;have z72:=L.z72;have v72:=L.v72;have u72:=run_underlying L.t72
 have t70:=L.t70;have a70:=L.a70;have z70:=L.z70;have v70:=L.v70;have u70:=run_underlying L.t70
 have t9:=L.t9;have a9:=L.a9;have z9:=L.z9;have v9:=L.v9;have u9:=run_underlying L.t9
 have t4:=L.t4;have a4:=L.a4;have z4:=L.z4;have v4:=L.v4;have u4:=run_underlying L.t4
 have t164:=L.t164;have a164:=L.a164;have z164:=L.z164;have v164:=L.v164;have u164:=run_underlying L.t164
 go_enter L.f240,Body.n240_ntmps ρ
 go_wp2
 rw[Lib.run_to_unsafe w ⟨b,0,none⟩ L.t70 L.t164 hj hjs hsh hn]
 simp only[Result.andThen]
 rw[Oper.upon_value]
 go_wp2
 rw[run_callFunc_extern L.f276 (by kernel_rfl) (by kernel_rfl) (by kernel_rfl) (e:=Extern.AbiNoEscape.same) (by kernel_rfl)]
 rw[Lib.run_noEscape]
 simp only[Result.andThen]
 rw[Oper.upon_value]
 go_wp2
 rw[Lib.run_from_unsafe w ⟨b,0,none⟩ L.t164 L.t70 hj hsh hlies]
 simp only[Result.andThen]
 rw[Oper.upon_value]
 go_wp2
 go_end0
 exact⟨rfl,rfl⟩
structure F8(g:Nat)(w w':World):Prop where
 os:w'.os=w.os
 tape:w'.tape=w.tape
 output:w'.output=w.output
 size:w.heap.size<=w'.heap.size
 keep:∀b,b<w.heap.size->b≠g->w'.heap[b]? =w.heap[b]?
 here:∀c t fr,w.heap[g]? =some (.cells c t fr)->∃fr',w'.heap[g]? =some (.cells c t fr')
theorem F8.drew(g:Nat)(w:World):F8 g w w.drew:=⟨rfl,rfl,rfl,vaw _,λ_ _ _=>rfl,λc t fr h=>⟨fr,h⟩⟩
theorem F8.alloc(g:Nat)(w:World)(o:Obj):F8 g w (w.drew.alloc o):=⟨rfl,rfl,rfl,by show w.heap.size<=(w.heap.push o).size;simp,λb hb _=>Lib.alloc_old w.drew o b hb,λc t fr h=>by
 have hlt:g<w.heap.size:=(vao.1 h).1
 exact⟨fr,(Lib.alloc_old w.drew o g hlt).trans h⟩⟩
theorem F8.freeze(g:Nat)(w:World)(n:Nat):F8 g w (w.drew.freeze ⟨g,0,none⟩ n):=by
 unfold World.freeze
 split
 ·exact .drew g w
 ·refine⟨rfl,rfl,rfl,by show w.heap.size<=(w.heap.modify g _).size;simp,λb _ hb=>?_,λc t fr h=>?_⟩
  ·show(w.heap.modify g _)[b]? =_
   rw[vbv,vab (Ne.symm hb)]
  ·show ∃fr',(w.heap.modify g _)[g]? =_
   rw[vbv,vad rfl,h]
   exact⟨_,rfl⟩
set_option maxHeartbeats 1000000 in
set_option maxRecDepth 100000 in
theorem YP(L:Lays.n169 P ρ)(X:Builder.Extra P ρ)(b g cap:Nat)(l:List UInt8)(cur:Array Value)(w:World)(h0:l≠[])(hcap:l.length<=cap)(hcm:cap<=maxLen)(h1:w.cell? ⟨b,1,none⟩=some (.slice (some ⟨g,0,none⟩) l.length cap))
  (hg:w.heap[g]? =some (.cells cur (ρ.t 5) (0,0))) (hcs:cur.size=cap) (hb:∀(j:Nat) (x:UInt8),l[j]? =some x->w.cell? ⟨g,j,none⟩=some (.int .u8 x.toNat)):
  Calls P (ρ.f 169) #[.pointer (some ⟨b,0,none⟩)] w λe w'=>e=.returned (.string ⟨l.toArray⟩)/\F8 g w w':=by
 have hl0:l.length≠0:=by simpa using h0
 have c1:w.drew.cell? ⟨b,1,none⟩=some (.slice (some ⟨g,0,none⟩) l.length cap):=h1
 have hSD:(Builtin.unsafeSliceData_ #[(ρ.t 37)] (ρ.t 127) #[.slice (some ⟨g,0,none⟩) l.length cap]).run P w.drew=.ok (.pointer (some ⟨g,0,none⟩)) w.drew:=
  Lib.run_unsafeSliceData_row _ _ _ _ _ _ (by omega)
 have hUS:(Builtin.unsafeString_ #[(ρ.t 127),(ρ.t 3)] (ρ.t 9) #[.pointer (some ⟨g,0,none⟩),.int .i64 l.length]).run P w.drew=.ok (.string ⟨l.toArray⟩) (w.drew.freeze ⟨g,0,none⟩ l.length):=by
  refine Lib.run_unsafeString_row w.drew (ρ.t 127) (ρ.t 3) (ρ.t 9) (ρ.t 5) L.t127 X.cellsByte g cur.size (by have hg':w.drew.heap[g]? =some (.cells cur (ρ.t 5) (0,0)):=hg;simp[World.shape?,hg']) l h0 (by omega) (by unfold maxLen at hcm;omega) ?_
  intro j x hx
  have:=hb j x hx
  rw[Lib.add_plain]
  rw[vaT]
  exact this
 have mixed:=L.mixed
 have t72:=L.t72;have a72:=L.a72;have z72:=L.z72;have v72:=L.v72;have u72:=run_underlying L.t72
 have t70:=L.t70;have a70:=L.a70;have z70:=L.z70;have v70:=L.v70;have u70:=run_underlying L.t70
 have t37:=L.t37;have a37:=L.a37;have z37:=L.z37;have v37:=L.v37;have u37:=run_underlying L.t37
 have t127:=L.t127;have a127:=L.a127;have z127:=L.z127;have v127:=L.v127;have u127:=run_underlying L.t127
 have t3:=L.t3;have a3:=L.a3;have z3:=L.z3;have v3:=L.v3;have u3:=run_underlying L.t3
 have t9:=L.t9;have a9:=L.a9;have z9:=L.z9;have v9:=L.v9;have u9:=run_underlying L.t9
 have t5:=X.t5;have a5:=X.a5;have z5:=X.z5;have v5:=X.v5;have u5:=run_underlying X.t5
 go_enter L.f169,Body.n169_ntmps ρ
 go_wp2
 go_region_o
 all_goals (go_wp2;go_ret;exact⟨rfl,.freeze g w _⟩)
set_option maxHeartbeats 2000000 in
set_option maxRecDepth 100000 in
theorem MO(L:Lays.n169 P ρ)(X:Builder.Extra P ρ)(b g:Nat)(v q:Value)(w W:World)(hv:∃ao cap,v=.slice ao 0 cap)(hp:∃q',q=.pointer q')(h1:w.cell? ⟨b,1,none⟩=some v)(h2:W.cell? ⟨b,1,none⟩=some v)(h3:F8 g w W)
  (hSD:(Builtin.unsafeSliceData_ #[(ρ.t 37)] (ρ.t 127) #[v]).run P w.drew=.ok q W):
  Calls P (ρ.f 169) #[.pointer (some ⟨b,0,none⟩)] w λe w'=>e=.returned (.string ⟨#[]⟩)/\F8 g w w':=by
 obtain⟨ao,cap,rfl⟩:=hv
 obtain⟨q',rfl⟩:=hp
 have hUS:=Any.unsafeString_none L X
 have c1:w.drew.cell? ⟨b,1,none⟩=some (.slice ao 0 cap):=h1
 have mixed:=L.mixed
 have t72:=L.t72;have a72:=L.a72;have z72:=L.z72;have v72:=L.v72;have u72:=run_underlying L.t72
 have t70:=L.t70;have a70:=L.a70;have z70:=L.z70;have v70:=L.v70;have u70:=run_underlying L.t70
 have t37:=L.t37;have a37:=L.a37;have z37:=L.z37;have v37:=L.v37;have u37:=run_underlying L.t37
 have t127:=L.t127;have a127:=L.a127;have z127:=L.z127;have v127:=L.v127;have u127:=run_underlying L.t127
 have t3:=L.t3;have a3:=L.a3;have z3:=L.z3;have v3:=L.v3;have u3:=run_underlying L.t3
 have t9:=L.t9;have a9:=L.a9;have z9:=L.z9;have v9:=L.v9;have u9:=run_underlying L.t9
 have t5:=X.t5;have a5:=X.a5;have z5:=X.z5;have v5:=X.v5;have u5:=run_underlying X.t5
 go_enter L.f169,Body.n169_ntmps ρ
 go_wp2
 go_region_o
 all_goals (go_wp2;go_ret;exact⟨rfl,h3⟩)
end
theorem Zv:Lays.n240 Pg Tryz.lays156_ren:={Tryz.lays156 with}
abbrev tB:TypeId:=76
abbrev tC:TypeId:=5
def GH(x0:List Int)(x1:Bool):Option Unit:=some ()
def ER(x0:List Int)(x1:Bool):Option ah:=pL x0
abbrev bx(l:List Int)(x:Bool)(own:List (Nat×TypeId)):aB:=.cells [.nptr 0 tB,sl (cI .u8) l,.bool x] own
theorem qcP{E:tS}{Γ:bp}{bs:bG}{ow:Nat->Option mh}{w:World}{vs:Array Value}{l:List Int}{x:Bool}(h:SR Pg E Γ bs ow w vs ⟨[.bptr 0 0],[bx l x [(1,tC)]],[]⟩):∃b c v,vs=#[.pointer (some ⟨b,0,none⟩)]/\bs=[some b]/\Γ b=none/\b<w.heap.size/\w.heap[b]? =some (.cells c tB (0,0))/\c.size=3/\
   (c[0]? =some (.pointer none)\/c[0]? =some (.pointer (some ⟨b,0,none⟩)))/\c[1]? =some v/\VR Γ bs w (sl (cI .u8) l) v/\im Pg Γ w v tC/\∀b',v.ownBlock=some b'->ow b'=some (.box 0 1):=by
 have hsz:vs.size=1:=h.sz
 have hv0:=h.tm 0 _ vs[0] rfl (by simp[hsz])
 generalize hu:vs[0]=u at hv0
 have hvs:vs=#[u]:=by
  refine Array.ext (by simp[hsz]) λi hi hi2=>?_
  have:i=0:=by simp at hi2;omega
  subst this
  simpa using hu
 cases hv0 with
 | bptr _ _ b hb =>
  have hbl:bs.length=1:=h.bl
  have hbs:bs=[some b]:=by
   match bs,hbl,hb with
   |[y],_,hb=>simp at hb;rw[hb]
  obtain⟨hg,hlt,c,t,hc,hlen,hcell,hself⟩:=h.bx 0 b _ hb rfl
  obtain⟨rfl,hn⟩:=hself 0 0 tB rfl
  have hn:c.size=3:=hn
  obtain⟨v,k1,k2,k3⟩:=h.ob 0 1 tC _ _ b rfl (by simp) hb
  have k1':c[1]? =some v:=by rw[cell_of_row w b 1 c _ _ hc]at k1;exact k1
  have c0:c[0]? =some c[0]:=by simp[hn]
  have v0:=hcell 0 _ c[0] rfl c0
  generalize c[0]=z at v0 c0
  refine⟨b,c,v,hvs,hbs,hg,hlt,hc,hn,?_,k1',hcell 1 _ v rfl k1',k2,k3⟩
  cases v0 with
  |nptrN _ _=>exact .inl c0
  |nptr _ b2 _ hb2=>
   rw[hb]at hb2
   cases hb2
   exact .inr c0
theorem qfL:liesAt Pg Pg.depth tB (3 / Pg.cellsOf tB) 0 (Tryz.lays156_ren.t 72) 1=true:=by kernel_rfl
theorem OQ{x0:List Int}{x1:Bool}{r:Unit}(h:GH x0 x1=some r):C Pg GE 124 [.bptr 0 0] [] [bx x0 x1 [(1,tC)]] (.tuple []) [] [bx x0 x1 [(1,tC)]]:=by
 refine⟨call124,λΓ bs ow w vs hS=>?_⟩
 obtain⟨b,c,v,rfl,rfl,hg,hlt,hc,hn,h0,h1,hv,ho,hob⟩:=qcP hS
 have fin:∀{w'},SR Pg ⟨GE,Γ,w,bJ [some b] ow⟩ Γ [some b] ow w' #[.pointer (some ⟨b,0,none⟩)] ⟨[.bptr 0 0],[bx x0 x1 [(1,tC)]],[]⟩->SR Pg ⟨GE,Γ,w,bJ [some b] ow⟩ Γ [some b] ow w' #[.tuple #[]] ⟨[.tuple []],[bx x0 x1 [(1,tC)]],[]⟩:=λh=>{h with
  sz:=rfl
  tm:=λt p v hp hv=>by
   cases t with
   |zero=>simp at hp hv;subst hp;subst hv;exact .tuple [] #[] rfl (λi p v hp _=>by simp at hp)
   |succ t=>simp at hp
  ot:=λt k e he=>by simp at he}
 have hcell:∀j,w.cell? ⟨b,j,none⟩=c[j]?:=λj=>cell_of_row w b j c _ _ hc
 rcases h0 with h0|h0
 ·obtain⟨jj,hj,hjs⟩:=vaG.1 (show(Pg.info? (Tryz.lays156_ren.t 72)).map (·.size)=some 2 by kernel_rfl)
  refine(WT Zv b w tB 3 jj hj (by rw[hjs];decide) (by omega) qfL ((hcell 0).trans h0) (by simp[World.shape?,hc,hn]) (by simp[World.frozen?,hc])).mono λe w' he=>?_
  obtain⟨rfl,rfl⟩:=he
  have hheap:(w.setCell ⟨b,0,none⟩ (.pointer (some ⟨b,0,none⟩))).heap[b]? =some (.cells (c.setIfInBounds 0 (.pointer (some ⟨b,0,none⟩))) tB (0,0)):=by
   show(w.heap.modify b _)[b]? =_
   rw[vbv,vad rfl,hc]
   rfl
  have hother:∀b',b'≠b->(w.setCell ⟨b,0,none⟩ (.pointer (some ⟨b,0,none⟩))).heap[b']? =w.heap[b']?:=λb' hb'=>by
   show(w.heap.modify b _)[b']? =_
   rw[vbv,vab (Ne.symm hb')]
  have hne:∀{b' n},Γ b'=some n->b'≠b:=λhb e=>by subst e;rw[hg]at hb;cases hb
  have hle:Γ.Le w Γ (w.setCell ⟨b,0,none⟩ (.pointer (some ⟨b,0,none⟩))):=λb' m hb' _=>⟨m,hb',vaw _,λo _=>cK (hother b' (hne hb')) o⟩
  refine⟨_,Γ,ow,rfl,fin ?_⟩
  have hW:=hS.box_write (i:=0) (b:=b) rfl (w':=w.setCell ⟨b,0,none⟩ (.pointer (some ⟨b,0,none⟩))) (B:=bx x0 x1 [(1,tC)]) (ow':=ow) rfl rfl rfl (by simp[World.setCell]) hother ?_ (λb' L hL _=>hL) hS.on ?_
  ·exact hW
  ·refine⟨_,tB,hheap,by simp[hn],λj p u hp hu=>?_,λj i T hj=>?_⟩
   ·rw[vbq]at hu
    by_cases hj:0=j
    ·subst hj
     rw[vad rfl,vad (by omega)]at hu
     cases hu
     cases hp
     exact .nptr 0 b tB rfl
    ·rw[vab hj]at hu
     obtain⟨_,_,c',t',hc',_,hcell',_⟩:=hS.bx 0 b _ rfl rfl
     rw[hc]at hc'
     cases hc'
     exact(hcell' j p u hp hu).mono hle (.refl _)
   ·rw[Array.size_setIfInBounds]
    obtain⟨_,_,c',t',hc',_,_,hself⟩:=hS.bx 0 b _ rfl rfl
    rw[hc]at hc'
    cases hc'
    exact hself j i T hj
  ·intro cs' own' heq j e hj
   cases heq
   simp only[vbR,Prod.mk.injEq]at hj
   obtain⟨rfl,rfl⟩:=hj
   refine⟨v,?_,ho.same λb' hb'=>⟨hother b' ?_,rfl⟩,hob⟩
   ·rw[cell_of_row _ b 1 _ _ _ hheap,vbq,vab (by omega)]
    exact h1
   ·obtain⟨n,xs,o1,o2⟩:=ho
    exact hne (o2 b' hb')
 ·refine(Any.Builder_copyCheck_used Zv {sizeBuilder:=by kernel_rfl,liesBuilder:=by kernel_rfl} b w ((hcell 0).trans h0)).mono λe w' he=>?_
  obtain⟨rfl,rfl⟩:=he
  exact⟨_,Γ,ow,rfl,fin hS⟩
theorem Q5:Builder.Extra Pg Tryz.lays169_ren:={sizeBuilder:=by kernel_rfl,liesBuilder:=by kernel_rfl,t5:=by kernel_rfl,a5:=λw=>by kernel_rfl,z5:=λw=>by kernel_rfl,v5:=λw=>by kernel_rfl,infoByte:=by kernel_rfl,cellsByte:=by kernel_rfl,sizeByte:=by kernel_rfl,neB5:=by decide}
theorem PB:∀{l:List Int} {r:ah},pL l=some r->r.length=l.length/\∀(j:Nat) (x:UInt8),r[j]? =some x->l[j]? =some (x.toNat:Int)
 |[],r,h=>by cases h;exact⟨rfl,λj x hx=>by simp at hx⟩
 | n :: l,r,h => by
  simp only[pL]at h
  split at h
  ·rename_i hn
   cases hb:pL l with
   |none=>rw[hb]at h;cases h
   | some q =>
    rw[hb]at h
    cases h
    obtain⟨h1,h2⟩:=PB hb
    refine⟨by simp[h1],λj x hx=>?_⟩
    cases j with
    |zero=>
     simp at hx ⊢
     subst hx
     rw[UInt8.toNat_ofNat']
     omega
    |succ j=>exact h2 j x (by simpa using hx)
  ·cases h
theorem ES{Γ:bp}{b g:Nat}{ow:Nat->Option mh}{w w':World}{l:List Int}{x:Bool}{own:List (Nat×TypeId)}{r:ah}(h:SR Pg ⟨GE,Γ,w,bJ [some b] ow⟩ Γ [some b] ow w #[.pointer (some ⟨b,0,none⟩)] ⟨[.bptr 0 0],[bx l x own],[]⟩)(hF:F8 g w w')(hgb:g≠b)(hgo:ow g≠none\/w.heap.size<=g):SR Pg ⟨GE,Γ,w,bJ [some b] ow⟩ Γ [some b] (λ_=>none) w' #[.string ⟨r.toArray⟩] ⟨[.str r],[bx l x []],[]⟩:=by
 have hD:SR Pg ⟨GE,Γ,w,bJ [some b] ow⟩ Γ [some b] (λ_=>none) w #[.pointer (some ⟨b,0,none⟩)] ⟨[.bptr 0 0],[bx l x []],[]⟩:={h with
  bx:=λi b' B hb hB=>by
   cases i with
   |zero=>
    simp at hB
    subst hB
    exact h.bx 0 b' (bx l x own) hb rfl
   |succ i=>simp at hB
  on:=λb L hL=>by cases hL
  ot:=λt k e he=>by simp at he
  ob:=λi j e cs own' b' hB hj hb=>by
   cases i with
   |zero=>
    simp at hB
    obtain⟨_,rfl⟩:=hB
    cases hj
   |succ i=>simp at hB}
 have hcell:∀b' n,Γ b'=some n->∃c t fr fr',w.heap[b']? =some (.cells c t fr)/\w'.heap[b']? =some (.cells c t fr')/\n<=c.size:=λb' n hb=>by
  obtain⟨c,t,fr,h1,h2⟩:=h.wi b' n hb
  by_cases e:b'=g
  ·subst e
   obtain⟨fr',h3⟩:=hF.here c t fr h1
   exact⟨c,t,fr,fr',h1,h3,h2⟩
  ·exact⟨c,t,fr,fr,h1,(hF.keep b' (vao.1 h1).1 e).trans h1,h2⟩
 have hW:=hD.world (Γ':=Γ) (w':=w') (λb'=>b'=g) (λb' n hb _=>⟨n,hb,vaw _,λo _=>by
   obtain⟨c,t,fr,fr',h1,h2,_⟩:=hcell b' n hb
   simp[World.cell?,h1,h2]⟩) (λb' n hb=>by
   obtain⟨c,t,fr,fr',h1,h2,h3⟩:=hcell b' n hb
   exact⟨c,t,fr',h2,h3⟩) hF.os hF.tape hF.output hF.size (λb' hb hM=>⟨hF.keep b' hb hM,rfl⟩) (λb' hM=>by
   subst hM
   rcases hgo with hgo|hgo
   ·exact .inl (.inr hgo)
   ·exact .inr hgo) (λi b' hb hM=>by
   cases i with
   |zero=>simp at hb;exact hgb (by rw[<-hM,hb])
   |succ i=>simp at hb) (λb' L hL=>by cases hL)
 exact{hW with
  sz:=rfl
  tm:=λt p v hp hv=>by
   cases t with
   |zero=>simp at hp hv;subst hp;subst hv;exact .str r
   |succ t=>simp at hp
  ot:=λt k e he=>by simp at he}
theorem HX{x0:List Int}{x1:Bool}{r:ah}(h:ER x0 x1=some r):C Pg GE 54 [.bptr 0 0] [] [bx x0 x1 [(1,tC)]] (.str r) [] [bx x0 x1 []]:=by
  refine⟨call54,λΓ bs ow w vs hS=>?_⟩
  obtain⟨b,c,v,rfl,rfl,hg,hlt,hc,hn,h0,h1,hv,ho,hob⟩:=qcP hS
  have hcell:∀j,w.cell? ⟨b,j,none⟩=c[j]?:=λj=>cell_of_row w b j c _ _ hc
  obtain⟨hlen,hget⟩:=PB (show pL x0=some r from h)
  have e1:Pg.cellsOf tC=1:=by kernel_rfl
  obtain⟨n,xs,⟨ho1,ho2⟩,ho3⟩:=ho
  rw[e1]at ho1 ho2 ho3
  unfold sl at hv
  generalize hes:x0.map (cI .u8)=es at hv
  rcases ho2 with⟨rfl,rfl⟩|⟨g,cap,cur,rfl,_,hgh,hnc,hcm,hcs,htk⟩
  · have hx:x0 = []:=by
      cases hv with
      |sliceNil=>simpa using hes
    subst hx
    have hr:r=[]:=vam (by simpa using hlen)
    subst hr
    refine(MO Tryz.lays169 Q5 b w.heap.size (.slice none 0 0) (.pointer none) w w.drew ⟨_,_,rfl⟩ ⟨_,rfl⟩ ((hcell 1).trans h1) ((hcell 1).trans h1) (.drew _ w) rfl).mono λe w' he=>?_
    obtain⟨rfl,hF⟩:=he
    exact⟨_,Γ,λ_=>none,rfl,ES (r:=[]) hS hF (by omega) (.inr (vaw _))⟩
  · have hgb:g ≠ b:=fun e => by
      have:=ho3 g rfl
      rw[e,hg]at this
      cases this
    have hgo:ow g≠none:=by rw[hob g rfl];simp
    have hln:x0.length=n:=by
      cases hv with
      | sliceE a cap => have:x0 = []:=by simpa using hes
                        simp[this]
      |slice _ _ _ _ _ _ _ _ _ _ _ _ _ _=>rw[<-hes];simp
    by_cases hz:r=[]
    · subst hz
      have hn0:n=0:=by rw[<-hln,<-hlen];rfl
      subst hn0
      by_cases hc0:cap=0
      · subst hc0
        refine(MO Tryz.lays169 Q5 b g (.slice (some ⟨g,0,none⟩) 0 0) (.pointer (some ⟨w.drew.heap.size,0,none⟩)) w (w.drew.alloc (.view ⟨g,0,none⟩ tC)) ⟨_,_,rfl⟩ ⟨_,rfl⟩ ((hcell 1).trans h1) ?_ (.alloc g w _) ?_).mono λe w' he=>?_
        · rw [cK (Lib.alloc_old w.drew _ b hlt) 1]
          exact(hcell 1).trans h1
        ·exact Lib.run_unsafeSliceData_zero w.drew _ _ tC (Tryz.lays169).t127 ⟨g,0,none⟩ 0 (tC,cur.size) (by have hg':w.drew.heap[g]? =some (.cells cur tC (0,0)):=hgh;simp[World.shape?,hg'])
        · obtain ⟨rfl,hF⟩:=he
          exact⟨_,Γ,λ_=>none,rfl,ES (r:=[]) hS hF hgb (.inl hgo)⟩
      · refine (MO Tryz.lays169 Q5 b g (.slice (some ⟨g,0,none⟩) 0 cap) (.pointer (some ⟨g,0,none⟩)) w w.drew ⟨_,_,rfl⟩ ⟨_,rfl⟩ ((hcell 1).trans h1) ((hcell 1).trans h1) (.drew g w) (Lib.run_unsafeSliceData_row _ _ _ _ _ _ hc0)).mono fun e w' he => ?_
        obtain⟨rfl,hF⟩:=he
        exact⟨_,Γ,λ_=>none,rfl,ES (r:=[]) hS hF hgb (.inl hgo)⟩
    · have hrn:r.length = n:=hlen.trans hln
      have hby:∀(j:Nat) (x:UInt8),r[j]? =some x->w.cell? ⟨g,j,none⟩=some (.int .u8 x.toNat):=λj x hx=>by
        have hlj:=hget j x hx
        cases hv with
        | sliceE a cap =>
          have:x0=[]:=by simpa using hes
          rw[this]at hlj
          cases hlj
        | slice _ _ _ _ n' sz vals q0 q1 q2 q3 q4 q5 q6 =>
          have he:es[j]? =some [.int .u8 (x.toNat:Int)]:=by rw[<-hes,vaA,hlj];rfl
          have hsz:sz=1:=(q4 j _ he).symm
          subst hsz
          have k1:=q5 j _ 0 _ he rfl
          have k2:=q6 j _ 0 _ he rfl
          rw[show(0:Nat)+j * 1+0=j by omega]at k1
          rw[k1]
          generalize vals j 0=z at k2
          cases k2
          rfl
      subst hrn
      refine(YP Tryz.lays169 Q5 b g cap r cur w hz hnc hcm ((hcell 1).trans h1) hgh (by omega) hby).mono λe w' he=>?_
      obtain⟨rfl,hF⟩:=he
      exact⟨_,Γ,λ_=>none,rfl,ES hS hF hgb (.inl hgo)⟩
def PO(l:List ah)(s:ah):Option ah:=if l.length<=1073741824/\(Lib.join l s).length<=1073741824 then some (Lib.join l s)else none
theorem Q6:Builder.Extra Pg Tryz.lays156_ren:={sizeBuilder:=by kernel_rfl,liesBuilder:=by kernel_rfl,t5:=by kernel_rfl,a5:=λw=>by kernel_rfl,z5:=λw=>by kernel_rfl,v5:=λw=>by kernel_rfl,infoByte:=by kernel_rfl,cellsByte:=by kernel_rfl,sizeByte:=by kernel_rfl,neB5:=by decide}
theorem WL.of_below{w w':World}(h:Below w.heap.size w w'):WL w w':=⟨h.os,h.tape,h.output,h.size,vaw _,λb hb=>h.block b hb⟩
theorem S8{l:List ah}{s r:ah}(h:PO l s=some r):CC Pg GE 187 [sl cS l,.str s] (.str r) []:=by
 unfold PO at h
 split at h
 case isFalse=>cases h
 rename_i hl
 cases h
 refine⟨aI (aU Mf l)<|aI vzz vzz,call187,λΓ bs ow w vs hS=>?_⟩
 have hsz:vs.size=2:=hS.sz
 have h0:=hS.tm 0 _ vs[0] rfl (by simp[hsz])
 have h1:=hS.tm 1 _ vs[1] rfl (by simp[hsz])
 generalize hu:vs[0]=u at h0
 generalize hu1:vs[1]=u1 at h1
 have hvs:vs=#[u,u1]:=by
  refine Array.ext (by simp[hsz]) λi hi hi2=>?_
  have:i=0\/i=1:=by simp at hi2;omega
  rcases this with rfl|rfl
  ·simpa using hu
  ·simpa using hu1
 subst hvs
 cases h1
 have hJ:Calls Pg 187 #[u,.string ⟨s.toArray⟩] w λe w'=>e=.returned (.string ⟨(Lib.join l s).toArray⟩)/\WL w w':=by
  unfold sl at h0
  generalize hes:l.map cS=es at h0
  cases h0 with
  |sliceNil=>
   have:l=[]:=by simpa using hes
   subst this
   exact(Any.strings_Join_none Tryz.lays156 Q6 none 0 _ w).mono λe w' he=>⟨he.1,he.2▸.of_below (Below.refl _ _)⟩
  |sliceE a cap=>
   have:l=[]:=by simpa using hes
   subst this
   exact(Any.strings_Join_none Tryz.lays156 Q6 (some a) cap _ w).mono λe w' he=>⟨he.1,he.2▸.of_below (Below.refl _ _)⟩
  | slice _ b off cap n sz vals q0 q1 q2 q3 q4 q5 q6 =>
   have hm:(l.map λs:ah=>(⟨s.toArray⟩:ByteArray)).map (·.data.toList)=l:=by rw[vby];simp[Function.comp_def]
   have hlen:es.length=(l.map λs:ah=>(⟨s.toArray⟩:ByteArray)).length:=by rw[<-hes];simp
   have hbk:l≠[]->b<w.heap.size:=λ_=>by
    obtain⟨c,t,fr,k1,_⟩:=hS.wi b n q2
    exact(vao.1 k1).1
   by_cases hl0:l=[]
   ·subst hl0
    simp at hes
    subst hes
    exact(Any.strings_Join_none Tryz.lays156 Q6 _ cap _ w).mono λe w' he=>⟨he.1,he.2▸.of_below (Below.refl _ _)⟩
   have hJ:=Any.strings_Join Tryz.lays156 Q6 b off cap (l.map λs:ah=>(⟨s.toArray⟩:ByteArray)) ⟨s.toArray⟩ w (λj x hx=>?_) (hbk hl0) (by simp;omega) (by rw[<-hlen];exact q1) (by rw[hm];simp only[];omega)
   ·rw[hm]at hJ
    rw[hlen]
    exact hJ.mono λe w' he=>⟨he.1,.of_below he.2⟩
   ·rw[vaA]at hx
    obtain⟨y,hy,rfl⟩:=vaG.1 hx
    have he:es[j]? =some [.str y]:=by rw[<-hes,vaA,hy];rfl
    have hz:sz=1:=(q4 j _ he).symm
    subst hz
    have k1:=q5 j _ 0 _ he rfl
    have k2:=q6 j _ 0 _ he rfl
    rw[show off+j * 1+0=off+j by omega]at k1
    rw[k1]
    generalize vals j 0=z at k2
    cases k2
    rfl
 refine hJ.mono λe w' he=>?_
 obtain⟨rfl,hg⟩:=he
 have hbl:bs.length=0:=hS.bl
 obtain rfl:bs=[]:=vam hbl
 have hW:=hS.world (Γ':=Γ) (w':=w') (λ_=>False) (λb m hb _=>⟨m,hb,vaw _,λo _=>cK (hg.keep b (hS.lt_of_ghost hb)) o⟩)
  (λb m hb=>by
   obtain⟨c,t,fr,h1,h2⟩:=hS.wi b m hb
   exact⟨c,t,fr,(hg.keep b (hS.lt_of_ghost hb)).trans h1,h2⟩) hg.os hg.tape hg.output hg.size (λb hb _=>⟨hg.keep b hb,rfl⟩) (λ_ hx=>hx.elim) (λ_ _ _ hx=>hx) (λ_ _ _ hx=>hx) hg.drawn
 refine⟨_,Γ,ow,rfl,{hW with
  sz:=rfl
  tm:=λt p v hp hv=>by
   cases t with
   |zero=>simp at hp hv;subst hp;subst hv;exact .str _
   |succ t=>simp at hp
  ot:=λt k e he=>by simp at he}⟩
end Go.Proofs.YtibglelmlnfojaaGreatDoor
