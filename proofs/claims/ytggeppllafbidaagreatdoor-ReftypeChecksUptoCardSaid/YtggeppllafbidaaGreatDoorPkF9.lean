/- PROVED: a part of the proof. Conditions: none. -/
import Derived.Test.YtggeppllafbidaaGreatDoorPkF8
import Derived.Test.YtggeppllafbidaaGreatDoorPkF7
import Derived.Test.YtggeppllafbidaaGreatDoorProg
import Derived.Ground.SlgnProg
import Derived.Shelf.Lays
import Derived.Shelf.LaysM
import Derived.Shelf.SlGeneric
import Derived.Shelf.SlLaysE0
import Derived.Shelf.Strconv.Itoa3
import Derived.Shelf.Sort.Plain
import Derived.Shelf.Slices.In.CompactS
import Derived.Shelf.Slices.In.SortNone
noncomputable section
namespace Go.Proofs.YtggeppllafbidaaGreatDoor
open Go Go.Proofs.Tryz
set_option linter.unusedVariables false
set_option maxRecDepth 100000
def VF{S:Type}(J:Bool->S->aV->World->Prop)(Γ0:aV)(w0:World)(b:Bool)(s:S)(st:ax)(a:Array Value)(w:World):Prop:=∃Γ,J b s Γ w/\Γ0.Le w0 Γ w/\∃E bs ow,SR Pg E Γ bs ow w a st
structure Dd(st:ax)(k:Nat):Prop where
 c:kI 0 st.tmps
 b:st.boxes=List.replicate k .dead
 o:st.own=[]
structure R4(c:Code):Prop where
 eq:c=.region (X0 c) (lP c) false
 rg:List.range (lP c).size=[0,1]++2::([3]++[])
 p1:[0,1].map (fun i=>(lP c)[i]?)=((lP c).toList.take 2).map some
 p2:((lP c).toList.take 2).all Jz=true
 o:(lP c)[2]? =some (QK c 2)
 g:(QK c 2).guard=none
 q1:[3].map (fun i=>(lP c)[i]?)=((lP c).toList.drop 3).map some
 q2:((lP c).toList.drop 3).all Jz=true
theorem YR:R4 UR:=⟨by kernel_rfl,by kernel_rfl,by kernel_rfl,by kernel_rfl,by kernel_rfl,by kernel_rfl,by kernel_rfl,by kernel_rfl⟩
theorem YS:R4 US:=⟨by kernel_rfl,by kernel_rfl,by kernel_rfl,by kernel_rfl,by kernel_rfl,by kernel_rfl,by kernel_rfl,by kernel_rfl⟩
theorem Wa:(QK UR 2).op=.call {callee:=.value (.tmp 7),args:=#[.tmp 8],argTypes:=V9 (QK UR 2)}:=by kernel_rfl
theorem XM:(QK UR 2).dst=some 9:=by kernel_rfl
theorem Wb:(QK US 2).op=.call {callee:=.value (.func fV),args:=#[.tmp 18,.tmp 19],argTypes:=V9 (QK US 2)}:=by kernel_rfl
theorem XN:(QK US 2).dst=some 20:=by kernel_rfl
section
variable{S:Type}{step:S->aa->Option (Bool×S)}{J:Bool->S->aV->World->Prop}{l:Nat}{Γ0:aV}{w0:World}{b:Bool}{s:S}{st0 st1 stA stB:ax}{k kA kB:Nat}{a:Array Value}{w:World}{n:Nat}{ds:List Deferred}
theorem VF.again(hY:Yd Pg GE l ac step J)(hD:Dd st0 k)(h:VF J Γ0 w0 b s st0 a w):∃Γ,J b s Γ w/\Γ0.Le w0 Γ w/\SR Pg (HK GE Γ w) Γ (List.replicate k none) (fun _=>none) w a st0:=by
 obtain⟨Γ,hJ,hle,E,bs,ow,hS⟩:=h
 obtain⟨tm,H,own⟩:=st0
 have hb:H=_:=hD.b
 have ho:own=[]:=hD.o
 subst hb;subst ho
 exact⟨Γ,hJ,hle,hS.again hD.c (hY.base _ _ _ _ hJ) (.refl _ _) k⟩
theorem VF.redo(hY:Yd Pg GE l ac step J)(hD:Dd st0 k)(h:VF J Γ0 w0 b s st0 a w)(k':Nat):VF J Γ0 w0 b s ⟨st0.tmps,List.replicate k' .dead,[]⟩ a w:=by
 obtain⟨Γ,hJ,hle,hS⟩:=h.again hY hD
 exact⟨Γ,hJ,hle,_,_,_,hS.again hD.c (hY.base _ _ _ _ hJ) (.refl _ _) k'⟩
theorem VF.piece(hY:Yd Pg GE l ac step J){c:Code}{e:Exit}(hS:aL Pg GE 0 c (EX e st1) st0)(hD:Dd st0 k)(h:VF J Γ0 w0 b s st0 a w):c.wpIn Fence.wide n Pg (fun e' a' w'=>e'=e/\a'.defers=ds/\VF J Γ0 w0 b s st1 a'.tmps w') ⟨a,ds⟩ w:=by
 obtain⟨Γ,hJ,hle,hR⟩:=h.again hY hD
 refine wpIn_mono (hS.wide (hY.base _ _ _ _ hJ) hR n ds) ?_
 rintro e' a' w' ⟨hd,Γ',bs',ow',st',h',rfl,rfl⟩
 exact⟨rfl,hd,Γ',hY.side _ _ _ _ hJ _ _ _ _ _ _ h',hle.trans h'.step.le,_,_,_,h'⟩
theorem VF.reg(hY:Yd Pg GE l ac step J){c:Code}(hR:R4 c)(hD:Dd st0 k)(hDB:Dd stB kB)(hpre:cB Pg GE [] (lP c) (fun st=>FG st stA) ((lP c).toList.take 2) 0 st0)(hsuf:cB Pg GE [] (lP c) (fun st=>FG st st1) ((lP c).toList.drop 3) 0 stB){r:Bool×S}
  (hcall:∀a w (lO:Act->World->Prop) (Q:Exit->Act->World->Prop),VF J Γ0 w0 b s stA a w->(∀a' w',VF J Γ0 w0 r.1 r.2 stB a' w'->lO ⟨a',ds⟩ w')->(QK c 2).wpIn Fence.wide n Pg ⟨a,ds⟩ w lO Q)
  (h:VF J Γ0 w0 b s st0 a w):c.wpIn Fence.wide n Pg (fun e' a' w'=>e'=.normal/\a'.defers=ds/\VF J Γ0 w0 r.1 r.2 st1 a'.tmps w') ⟨a,ds⟩ w:=by
 have key:(Code.region (X0 c) (lP c) false).wpIn Fence.wide n Pg (fun e' a' w'=>e'=.normal/\a'.defers=ds/\VF J Γ0 w0 r.1 r.2 st1 a'.tmps w') ⟨a,ds⟩ w:=by
  refine wpIn_region ?_
  rw[hR.rg]
  obtain⟨Γ,hJ,hle,hS⟩:=h.again hY hD
  refine AG (A:=[]) (K:=fun st=>FG st stA) (fun Γ' bs' ow' a' w' st hS' hK=>?_) _ _ Γ _ _ a w st0 hR.p1 (Fk hR.p2) hS hpre
  obtain⟨Γ2,bs2,ow2,hS2⟩:=FG.sr hS' hK
  refine Cs hR.o hR.g (hcall a' w' _ _ ⟨Γ2,hY.side _ _ _ _ hJ _ _ _ _ _ _ hS2,hle.trans hS2.step.le,_,_,_,hS2⟩ fun a3 w3 h3=>?_)
  obtain⟨Γ3,hJ3,hle3,hS3⟩:=h3.again hY hDB
  refine AG (A:=[]) (K:=fun st=>FG st st1) (fun Γ' bs' ow' a' w' st hS' hK=>?_) _ _ Γ3 _ _ a3 w3 stB hR.q1 (Fk hR.q2) hS3 hsuf
  obtain⟨Γ4,bs4,ow4,hS4⟩:=FG.sr hS' hK
  exact⟨rfl,rfl,Γ4,hY.side _ _ _ _ hJ3 _ _ _ _ _ _ hS4,hle3.trans hS4.step.le,_,_,_,hS4⟩
 rw[<-hR.eq]at key
 exact key
theorem VF.ev(h:VF J Γ0 w0 b s st0 a w){t:Nat}{x:Bool}(ht:st0.tmps.getD t .undef=.bool x):(Act.mk a ds).eval (.tmp t)=.bool x:=by
 obtain⟨Γ,hJ,hle,E,bs,ow,hS⟩:=h
 have h1:=hS.opv ds (.tmp t)
 have e1:opv E.GE st0.tmps (.tmp t)=.bool x:=ht
 rw[e1]at h1
 generalize (Act.mk a ds).eval (.tmp t)=v at h1
 cases h1
 rfl
theorem VF.put(hY:Yd Pg GE l ac step J)(hD:Dd stA kA){Γ Γ':aV}{w':World}{E:qj}{bs:bD}{ow:Nat->Option kH}(hS:SR Pg E Γ bs ow w a stA)(hle:Γ0.Le w0 Γ w)(hle':Γ.Le w Γ' w'){r:Bool×S}(hJ':J r.1 r.2 Γ' w'){d:Nat}(hB:stB=⟨stA.tmps.set d (.bool r.1),List.replicate kA .dead,[]⟩):VF J Γ0 w0 r.1 r.2 stB (a.setIfInBounds d (.bool r.1)) w':=by
 have hS':=(hS.again hD.c (hY.base _ _ _ _ hJ') hle' kA).set (d:=d) (p:=.bool r.1) (v:=.bool r.1) (.bool _)
 exact⟨Γ',hJ',hle.trans hle',_,_,_,hB▸hS'⟩
theorem VF.yieldc(hY:Yd Pg GE l ac step J)(hD:Dd stA kA){p:aa}{r:Bool×S}(hr:step s p=some r){o:Oper}{f x d:Nat}{tys:Array TypeId}(h7:stA.tmps.getD f .undef=yv l)(h8:stA.tmps.getD x .undef=.agg (ac p))
  (ho:o.op=.call {callee:=.value (.tmp f),args:=#[.tmp x],argTypes:=tys}) (hd:o.dst=some d) (hB:stB=⟨stA.tmps.set d (.bool r.1),List.replicate kA .dead,[]⟩)
  {lO:Act->World->Prop} {Q:Exit->Act->World->Prop} (h:VF J Γ0 w0 true s stA a w) (hn:∀a' w',VF J Γ0 w0 r.1 r.2 stB a' w'->lO ⟨a',ds⟩ w'):o.wpIn Fence.wide n Pg ⟨a,ds⟩ w lO Q:=by
 obtain⟨Γ,hJ,hle,hS⟩:=h.again hY hD
 have h1:=hS.opv ds (.tmp f)
 have h2:=hS.opv ds (.tmp x)
 have e1:opv (HK GE Γ w).GE stA.tmps (.tmp f)=yv l:=h7
 have e2:opv (HK GE Γ w).GE stA.tmps (.tmp x)=.agg (ac p):=h8
 rw[e1]at h1;rw[e2]at h2
 have hev:(Act.mk a ds).eval (.tmp f)=.func (.yield l) #[] #[]:=by
  generalize (Act.mk a ds).eval (.tmp f)=v at h1
  cases h1;rfl
 refine Qk ho hev (R:=fun e w'=>∃Γ',e=.returned (.bool r.1)/\Γ.Le w Γ' w'/\J r.1 r.2 Γ' w') ?_ ?_
 ·have:=hY.yield s Γ w p _ (n - 1) r hJ (h2.clo (by simp only[PVal.cl];exact ah p)) hr
  simpa using this
 ·rintro e w' ⟨Γ',rfl,hle',hJ'⟩
  refine⟨_,rfl,?_⟩
  rw[hd]
  exact hn _ _ (VF.put hY hD hS hle hle' hJ' hB)
def WQ(step:S->aa->Option (Bool×S))(J:Bool->S->aV->World->Prop)(l:Nat)(p:aa):Prop:=∀s r Γ w v n,Eo step p s=some r->J true s Γ w->VR Γ [] w (.agg (ac p)) v->
 CallsIn Fence.wide n Pg fV #[v,.func (.yield l) #[] #[]] w fun e w'=>∃Γ',e=.returned (.bool r.1)/\Γ.Le w Γ' w'/\J r.1 r.2 Γ' w'
theorem VF.visitc(hY:Yd Pg GE l ac step J)(hD:Dd stA kA){p:aa}(hp:WQ step J l p){r:Bool×S}(hr:Eo step p s=some r){o:Oper}{x y d:Nat}{tys:Array TypeId}(h7:stA.tmps.getD y .undef=yv l)(h8:stA.tmps.getD x .undef=.agg (ac p))
  (ho:o.op=.call {callee:=.value (.func fV),args:=#[.tmp x,.tmp y],argTypes:=tys}) (hd:o.dst=some d) (hB:stB=⟨stA.tmps.set d (.bool r.1),List.replicate kA .dead,[]⟩)
  {lO:Act->World->Prop} {Q:Exit->Act->World->Prop} (h:VF J Γ0 w0 true s stA a w) (hn:∀a' w',VF J Γ0 w0 r.1 r.2 stB a' w'->lO ⟨a',ds⟩ w'):o.wpIn Fence.wide n Pg ⟨a,ds⟩ w lO Q:=by
 obtain⟨Γ,hJ,hle,hS⟩:=h.again hY hD
 have h1:=hS.opv ds (.tmp y)
 have h2:=hS.opv ds (.tmp x)
 have e1:opv (HK GE Γ w).GE stA.tmps (.tmp y)=yv l:=h7
 have e2:opv (HK GE Γ w).GE stA.tmps (.tmp x)=.agg (ac p):=h8
 rw[e1]at h1;rw[e2]at h2
 have hev:(Act.mk a ds).eval (.tmp y)=.func (.yield l) #[] #[]:=by
  generalize (Act.mk a ds).eval (.tmp y)=v at h1
  cases h1;rfl
 refine Rf ho (g:=fV) (fs:=#[]) (cs:=#[]) rfl call130 (R:=fun e w'=>∃Γ',e=.returned (.bool r.1)/\Γ.Le w Γ' w'/\J r.1 r.2 Γ' w') ?_ ?_
 ·have:=hp s r Γ w _ (n - 1) hr hJ (h2.clo (by simp only[PVal.cl];exact ah p))
  simpa[hev]using this
 ·rintro e w' ⟨Γ',rfl,hle',hJ'⟩
  refine⟨_,rfl,?_⟩
  rw[hd]
  exact hn _ _ (VF.put hY hD hS hle hle' hJ' hB)
theorem VF.fin{x:Bool}{H:List aA}(h:VF J Γ0 w0 b s (vE H x) a w):(results f130 a).run Pg w=.ok (.bool x) w:=by
 obtain⟨Γ,hJ,hle,E,bs,ow,hS⟩:=h
 obtain⟨v,h1,h2,_⟩:=qi hS (fn:=f130) (r:=.bool x) (by kernel_rfl)
 cases h2
 exact h1
theorem Ro{N:Nat}{L:List (Nat×PVal)}(h:VP 0 L)(k:Nat){H:List aA}(hH:H=List.replicate k .dead):Dd (aP N L H []) k:=⟨cb h,hH,rfl⟩
theorem Ri(ks:List aa):(sl ac ks).cl 0:=am ah ks
theorem U2(l:Nat)(ks:List aa)(i:Int):Dd (Vb l ks i) 1:=Ro (by exact aI trivial<|aI (Ri ks)<|aI trivial<|aI trivial trivial) 1 rfl
theorem U3(l:Nat)(ks:List aa)(i:Int):Dd (Wr l ks i) 1:=Ro (by exact aI trivial<|aI (Ri ks)<|aI trivial<|aI trivial<|aI trivial trivial) 1 rfl
theorem U4(l:Nat)(ks:List aa)(i:Int)(b:Bool):Dd (XO l ks i b) 2:=Ro (by exact aI trivial<|aI (Ri ks)<|aI trivial<|aI trivial<|aI trivial trivial) 2 rfl
theorem Qj(hY:Yd Pg GE l ac step J)(p:aa)(hk:∀x∈p.Kids,WQ step J l x):WQ step J l p:=by
 intro s r Γ w v n hv hJ hvr
 refine callsIn_of_wp func130 (c:=bV) rfl trivial ?_
 have h0:VF J Γ w true s (aP 23 [(0,.agg (ac p)),(1,yv l)] [] []) (#[v,.func (.yield l) #[] #[]]++Array.replicate 21 undef) w:=by
  refine⟨Γ,hJ,.refl _ _,_,_,_,(hY.base _ _ _ _ hJ).fresh 0 (tmps:=[.agg (ac p),yv l]++List.replicate 21 .undef) (by simp) fun t q u hq hu=>?_⟩
  by_cases ht:t<2
  ·rw[vac (by simpa using ht)]at hq
   rw[vaI (by simpa using ht)]at hu
   match t,ht with
   |0,_=>simp at hq hu;subst hq;subst hu;exact hvr
   |1,_=>simp at hq hu;subst hq;subst hu;exact .val _
  ·rw[vae (by simpa using ht),vaN]at hq
   split at hq<;>cases hq
   exact .undef u
 show bV.wpIn Fence.wide n Pg _ ⟨_,[]⟩ w
 rw[Nv]at hv
 obtain⟨q,hq,hv⟩:=aw hv
 have hb:Pg.funcs.size=Pg.funcs.size:=rfl
 have hret:∀{b:Bool} {s:S} {x:Bool} {H:List aA} {a':Act} {w':World},a'.defers=[]->VF J Γ w b s (vE H x) a'.tmps w'->b=r.1->s=r.2->x=r.1->
   bodyPost Pg f130 (fun e w'=>∃Γ',e=.returned (.bool r.1)/\Γ.Le w Γ' w'/\J r.1 r.2 Γ' w') .ret a' w':=by
  rintro b s x H a' w' hd h rfl rfl rfl
  refine⟨hd,.bool r.1,h.fin,?_⟩
  obtain⟨Γ',hJ',hle,_⟩:=h
  exact⟨Γ',rfl,hle,hJ'⟩
 rw[Xc]
 refine wpIn_seq (wpIn_mono (VF.piece hY (qaL p l) (k:=0) (Ro (by exact aI (ah p)<|aI trivial trivial) 0 rfl) h0) ?_)
 rintro e ⟨a1,ds1⟩ w1 ⟨rfl,rfl,h1⟩
 have d2:(PVal.eptr (ac p)).cl 0:=by simp only[PVal.cl];exact ah p
 have d3:(PVal.agg (ac p)).cl 0:=by simp only[PVal.cl];exact ah p
 refine wpIn_seq (wpIn_seq (wpIn_mono (VF.reg hY YR (k:=1) (kB:=1) (r:=q) (stB:=aP 23 [(1,yv l),(2,.eptr (ac p)),(7,yv l),(8,.agg (ac p)),(9,.bool q.1)] [.dead] []) (Ro (by exact aI trivial<|aI d2 trivial) 1 rfl) (Ro (by exact aI trivial<|aI d2<|aI trivial<|aI d3<|aI trivial trivial) 1 rfl) (qaM p l) (Y2 p l q.1)
  (fun a w lO Q h hn=>VF.yieldc hY (kA:=1) (Ro (by exact aI trivial<|aI d2<|aI trivial<|aI d3 trivial) 1 rfl) hq (f:=7) (x:=8) (d:=9) rfl rfl Wa XM rfl h hn) h1) ?_))
 rintro e ⟨a2,ds2⟩ w2 ⟨rfl,rfl,h2⟩
 refine wpIn_cond (h2.ev (t:=10) (x:=!q.1) rfl) ?_
 have dS2:∀b:Bool,Dd (aP 23 [(1,yv l),(2,.eptr (ac p)),(10,.bool b)] [.dead] []) 1:=fun b=>Ro (by exact aI trivial<|aI d2<|aI trivial trivial) 1 rfl
 obtain⟨q1,q2⟩:=q
 cases q1 with
 |false=>
  cases hv
  refine wpIn_mono (VF.piece hY (qaN p l) (dS2 true) h2) ?_
  rintro e ⟨a3,ds3⟩ w3 ⟨rfl,rfl,h3⟩
  exact hret rfl h3 rfl rfl rfl
 | true =>
  simp only at hv
  split at hv
  case isFalse=>cases hv
  rename_i hlen
  refine wpIn_skip ?_
  refine wpIn_seq (wpIn_seq (wpIn_mono (VF.piece hY (qaO p l) (dS2 false) h2) ?_))
  rintro e ⟨a3,ds3⟩ w3 ⟨rfl,rfl,h3⟩
  refine wpIn_block (wpIn_loop_ghost (fun k a w'=>a.defers=[]/\∃(i:Nat) (s':S),k=p.Kids.length - i/\i<=p.Kids.length/\tD step (p.Kids.drop i) s'=some r/\VF J Γ w true s' (Vb l p.Kids (i:Int)) a.tmps w') (p.Kids.length)
   ⟨rfl,0,q2,rfl,vaB _,hv,h3⟩ ?_)
  rintro k ⟨a4,ds4⟩ w4 ⟨hd4,i,s',rfl,hi,hvl,h4⟩
  simp only at hd4;subst hd4
  rw[XL]
  refine wpIn_seq (wpIn_mono (VF.piece hY (qaP l p.Kids i) (U2 _ _ _) h4) ?_)
  rintro e ⟨a5,ds5⟩ w5 ⟨rfl,rfl,h5⟩
  refine wpIn_seq (wpIn_cond (h5.ev (t:=15) (x:=decide ((i:Int)<(p.Kids.length:Int))) rfl) ?_)
  by_cases hlt:i<p.Kids.length
  ·rw[vau (by omega)]
   refine wpIn_skip ?_
   have hdrop:p.Kids.drop i=p.Kids[i]::p.Kids.drop (i+1):=va6 hlt
   rw[hdrop,tD]at hvl
   obtain⟨q',hq',hvl⟩:=aw hvl
   have hx:dt p.Kids (i:Int)=some p.Kids[i]:=bP _ _ hlt
   generalize hxx:p.Kids[i]=x at *
   have hxm:x∈p.Kids:=hxx▸vav hlt
   have e2:(PVal.eptr (ac x)).cl 0:=by simp only[PVal.cl];exact ah x
   have e3:(PVal.agg (ac x)).cl 0:=by simp only[PVal.cl];exact ah x
   refine wpIn_seq (wpIn_block (wpIn_seq (wpIn_mono (VF.piece hY (qaQ l p.Kids i x hx) (U3 _ _ _) h5) ?_)))
   rintro e ⟨a6,ds6⟩ w6 ⟨rfl,rfl,h6⟩
   refine wpIn_seq (wpIn_mono (VF.reg hY YS (k:=2) (kB:=2) (r:=q') (stB:=ZL l p.Kids i x q'.1) (Ro (by exact aI trivial<|aI e2<|aI (Ri _)<|aI trivial<|aI trivial trivial) 2 rfl) (Ro (by exact aI trivial<|aI (Ri _)<|aI trivial<|aI trivial<|aI e3<|aI trivial<|aI trivial trivial) 2 rfl) (qaR l p.Kids i x) (Y3 l p.Kids i x q'.1)
    (fun a w lO Q h hn=>VF.visitc hY (kA:=2) (Ro (by exact aI trivial<|aI (Ri _)<|aI trivial<|aI trivial<|aI e3<|aI trivial trivial) 2 rfl) (hk x hxm) hq' (y:=19) (x:=18) (d:=20) rfl rfl Wb XN rfl h hn) h6) ?_)
   rintro e ⟨a7,ds7⟩ w7 ⟨rfl,rfl,h7⟩
   refine wpIn_cond (h7.ev (t:=21) (x:=!q'.1) rfl) ?_
   obtain⟨q1,q2⟩:=q'
   cases q1 with
   |false=>
    cases hvl
    refine wpIn_mono (VF.piece hY (qaS l p.Kids i) (U4 _ _ _ _) h7) ?_
    rintro e ⟨a8,ds8⟩ w8 ⟨rfl,rfl,h8⟩
    exact hret rfl h8 rfl rfl rfl
   |true=>
    refine wpIn_skip ?_
    refine wpIn_mono (VF.piece hY (qaT l p.Kids i) (U4 _ _ _ _) h7) ?_
    rintro e ⟨a8,ds8⟩ w8 ⟨rfl,rfl,h8⟩
    refine⟨p.Kids.length - (i+1),by omega,rfl,i+1,q2,rfl,hlt,hvl,?_⟩
    have e:bA ((i:Int)+1)=((i+1:Nat):Int):=by rw[il (by omega) (by omega)];omega
    rw[e]at h8
    exact VF.redo (st0:=⟨(Vb l p.Kids ((i+1:Nat):Int)).tmps,[.dead,.dead],[]⟩) hY (k:=2) ⟨(U2 l p.Kids _).c,rfl,rfl⟩ h8 1
  ·rw[decide_eq_false (by omega)]
   refine wpIn_exit ?_
   have hi':i=p.Kids.length:=by omega
   rw[vcn (by omega),tD]at hvl
   cases hvl
   refine wpIn_mono (VF.piece hY (qaU l p.Kids i) (U3 _ _ _) h5) ?_
   rintro e ⟨a6,ds6⟩ w6 ⟨rfl,rfl,h6⟩
   exact hret rfl h6 rfl rfl rfl
mutual
theorem O4(hY:Yd Pg GE l ac step J):∀p:aa,WQ step J l p
 |⟨o,n,k,ks⟩=>Qj hY ⟨o,n,k,ks⟩ (L8 hY ks)
theorem L8(hY:Yd Pg GE l ac step J):∀ks:List aa,∀x∈ks,WQ step J l x
 |[],x,hx=>by simp at hx
 | y :: ks,x,hx => by
  rcases vaE.1 hx with h|h
  ·exact h▸O4 hY y
  ·exact L8 hY ks x h
end
end
open Go
set_option linter.unusedSimpArgs false
def kg(l:List ag):List ag:=l.mergeSort fun x y=>decide (x<=y)
abbrev Pq(x y:ag):Prop:=Op.bytesLess x y=true
theorem rM:∀(x:ag),Op.bytesLess x x=false
 |[]=>rfl
 |a::x=>by
  unfold Op.bytesLess
  rw[rM x]
  simp[UInt8.lt_irrefl]
theorem pZ:∀{x y z:ag},Pq x y->Pq y z->Pq x z
 |_,_,[],h1,h2=>by simp[Pq,Op.bytesLess]at h2
 |_,[],_::_,h1,h2=>by simp[Pq,Op.bytesLess]at h1
 |[],_::_,_::_,_,_=>rfl
 | a :: x,b :: y,c :: z,h1,h2 => by
  unfold Pq Op.bytesLess at h1 h2 ⊢
  simp only[va3,vak,vad,vaT]at h1 h2 ⊢
  rcases h1 with h1|⟨rfl,h1⟩
  ·rcases h2 with h2|⟨rfl,h2⟩
   ·exact .inl (UInt8.lt_trans h1 h2)
   ·exact .inl h1
  ·rcases h2 with h2|⟨rfl,h2⟩
   ·exact .inl h2
   ·exact .inr ⟨rfl,pZ h1 h2⟩
theorem sI:∀{x y:ag},Op.bytesLess x y=false->Op.bytesLess y x=false->x=y
 |[],[],_,_=>rfl
 |[],_::_,h,_=>by simp[Op.bytesLess]at h
 |_::_,[],_,h=>by simp[Op.bytesLess]at h
 | a :: x,b :: y,h1,h2 => by
  unfold Op.bytesLess at h1 h2
  simp only[Bool.or_eq_false_iff,vbi,Bool.and_eq_false_imp,vaT]at h1 h2
  have hab:a=b:=by
   have k1:=UInt8.not_lt.1 h1.1
   have k2:=UInt8.not_lt.1 h2.1
   exact UInt8.le_antisymm k2 k1
  subst hab
  rw[sI (h1.2 rfl) (h2.2 rfl)]
theorem UZ:∀(x y:ag),Op.bytesLess x y=decide (x<y)
 |[],[]=>by simp[Op.bytesLess]
 |_::_,[]=>by simp[Op.bytesLess]
 |[],_::_=>by simp[Op.bytesLess]
 |a::x,b::y=>by
  unfold Op.bytesLess
  rw[UZ x y,vb6]
  simp[List.cons_lt_cons_iff]
theorem QF(x y:ag):decide (x<=y)= !Op.bytesLess y x:=by
 rw[UZ]
 rw[<-decide_not]
 rfl
theorem Ec(l:List ag):(kg l).Pairwise fun x y=>Op.bytesLess y x=false:=by
 have:=List.pairwise_mergeSort (le:=fun x y:ag=>decide (x<=y)) (fun a b c h1 h2=>by
  rw[QF]at h1 h2 ⊢
  simp only[vaQ]at h1 h2 ⊢
  cases h:Op.bytesLess c a with
  |false=>rfl
  | true =>
   exfalso
   by_cases hb:Op.bytesLess a b=true
   ·have:=pZ h hb
    unfold Pq at this
    rw[h2]at this
    cases this
   ·have:a=b:=sI (by simpa using hb) h1
    subst this
    rw[h2]at h
    cases h) (fun a b=>by
  rw[QF,QF]
  cases h:Op.bytesLess b a with
  |false=>rfl
  | true =>
   cases h':Op.bytesLess a b with
   |false=>rfl
   |true=>
    have:=pZ h h'
    unfold Pq at this
    rw[rM]at this
    cases this) l
 refine List.Pairwise.imp ?_ this
 intro a b h
 rw[QF]at h
 simpa using h
theorem R8(l:List ag)(x:ag):x∈kg l↔x∈l:=List.mem_mergeSort
def PQ(x:ag):List ag->List ag
 |[]=>[x]
 |y::r=>if Op.bytesLess y x=true then y::PQ x r else x::y::r
def Ja:List ag->List ag
 |[]=>[]
 |x::r=>PQ x (Ja r)
theorem EQ(x:ag):∀l,(PQ x l).Perm (x::l)
 |[]=>.refl _
 | y :: r => by
  unfold PQ
  split
  ·exact((EQ x r).cons y).trans (List.Perm.swap x y r)
  ·exact .refl _
theorem Jb:∀l,(Ja l).Perm l
 |[]=>.refl _
 |x::r=>(EQ x (Ja r)).trans ((Jb r).cons x)
abbrev T1(l:List ag):Prop:=l.Pairwise fun x y=>Op.bytesLess y x=false
theorem F9(x:ag):∀{l},T1 l->T1 (PQ x l)
 |[],_=>by simp[PQ,T1]
 | y :: r,h => by
  unfold T1 at h ⊢
  have h':=va0.1 h
  unfold PQ
  split
  ·rename_i hy
   rw[va0]
   refine⟨fun z hz=>?_,F9 x h'.2⟩
   rcases vaE.1 ((EQ x r).mem_iff.1 hz)with rfl|hz
   ·cases hc:Op.bytesLess z y with
    |false=>rfl
    |true=>have:=pZ hy hc;unfold Pq at this;rw[rM]at this;cases this
   ·exact h'.1 z hz
  ·rename_i hy
   have hy:Op.bytesLess y x=false:=by simpa using hy
   rw[va0]
   refine⟨fun z hz=>?_,h⟩
   rcases vaE.1 hz with rfl|hz
   ·exact hy
   ·have hz:=h'.1 z hz
    cases hc:Op.bytesLess z x with
    |false=>rfl
    | true =>
     exfalso
     by_cases hxy:Op.bytesLess x y=true
     ·have:=pZ hc hxy
      unfold Pq at this
      rw[hz]at this;cases this
     ·have:x=y:=sI (by simpa using hxy) hy
      subst this
      rw[hz]at hc;cases hc
theorem Du:∀l,T1 (Ja l)
 |[]=>by simp[Ja,T1]
 |x::r=>F9 x (Du r)
theorem Kc:∀{a b:List ag},T1 a->T1 b->a.Perm b->a=b
 |[],b,_,_,h=>(List.Perm.nil_eq h)
 |x::a,[],_,_,h=>by have:=h.length_eq;simp at this
 | x :: a,y :: b,ha,hb,h => by
  unfold T1 at ha hb
  have ha':=va0.1 ha
  have hb':=va0.1 hb
  have hxy:x=y:=by
   rcases vaE.1 (h.mem_iff.1 (vca:x∈x::a))with hx|hx
   ·exact hx
   ·rcases vaE.1 (h.mem_iff.2 (vca:y∈y::b))with hy|hy
    ·exact hy.symm
    ·exact sI (hb'.1 x hx) (ha'.1 y hy)
  subst hxy
  congr 1
  exact Kc ha'.2 hb'.2 (List.Perm.cons_inv h)
theorem On(l:List ag):Ja l=kg l:=Kc (Du l) (Ec l) ((Jb l).trans (List.mergeSort_perm l _).symm)
end Go.Proofs.YtggeppllafbidaaGreatDoor
namespace Go.Proofs
open Go.Shelf
noncomputable def Tryz.laysM171_ren : Go.Shelf.Ren := ⟨fun | 171 => 140 | 243 => 168 | 246 => 185 | 283 => 194 | 284 => 195 | 285 => 196 | 286 => 197 | 129 => 156 | 317 => 199 | 318 => 200 | 319 => 201 | 320 => 202 | 337 => 203 | 338 => 204 | n => n, fun | 3 => 3 | 9 => 9 | 2 => 2 | 4 => 4 | 171 => 159 | 0 => 0 | 53 => 138 | 37 => 122 | 5 => 5 | 173 => 161 | 212 => 165 | 51 => 136 | 20 => 20 | 213 => 166 | 46 => 116 | 232 => 167 | 233 => 168 | n => n, fun | 17 => 1 | 18 => 2 | 19 => 3 | n => n⟩
theorem Tryz.laysM171 : Go.Proofs.LaysM.n171 Tryz.prog Tryz.laysM171_ren := {
 mixed := by kernel_rfl
 f129 := Tryz.func156.trans (congrArg some (by kernel_rfl))
 f171 := Tryz.func140.trans (congrArg some (by kernel_rfl))
 f243 := Tryz.func168.trans (congrArg some (by kernel_rfl))
 f246 := Tryz.func185.trans (congrArg some (by kernel_rfl))
 f283 := Tryz.func194.trans (congrArg some (by kernel_rfl))
 f284 := Tryz.func195.trans (congrArg some (by kernel_rfl))
 f285 := Tryz.func196.trans (congrArg some (by kernel_rfl))
 f286 := Tryz.func197.trans (congrArg some (by kernel_rfl))
 f317 := Tryz.func199.trans (congrArg some (by kernel_rfl))
 f318 := Tryz.func200.trans (congrArg some (by kernel_rfl))
 f319 := Tryz.func201.trans (congrArg some (by kernel_rfl))
 f320 := Tryz.func202.trans (congrArg some (by kernel_rfl))
 f337 := Tryz.func203.trans (congrArg some (by kernel_rfl))
 f338 := Tryz.func204.trans (congrArg some (by kernel_rfl))
 t0 := Tryz.underlying0
 a0 := Tryz.isAgg0
 z0 := Tryz.sizeOf0
 v0 := Tryz.zeroValue0
 t2 := Tryz.underlying2
 a2 := Tryz.isAgg2
 z2 := Tryz.sizeOf2
 v2 := Tryz.zeroValue2
 t3 := Tryz.underlying3
 a3 := Tryz.isAgg3
 z3 := Tryz.sizeOf3
 v3 := Tryz.zeroValue3
 t4 := Tryz.underlying4
 a4 := Tryz.isAgg4
 z4 := Tryz.sizeOf4
 v4 := Tryz.zeroValue4
 t5 := Tryz.underlying5
 a5 := Tryz.isAgg5
 z5 := Tryz.sizeOf5
 v5 := Tryz.zeroValue5
 t9 := Tryz.underlying9
 a9 := Tryz.isAgg9
 z9 := Tryz.sizeOf9
 v9 := Tryz.zeroValue9
 t20 := Tryz.underlying20
 a20 := Tryz.isAgg20
 z20 := Tryz.sizeOf20
 v20 := Tryz.zeroValue20
 t37 := Tryz.underlying122
 a37 := Tryz.isAgg122
 z37 := Tryz.sizeOf122
 v37 := Tryz.zeroValue122
 t46 := Tryz.underlying116
 a46 := Tryz.isAgg116
 z46 := Tryz.sizeOf116
 v46 := Tryz.zeroValue116
 t51 := Tryz.underlying136
 a51 := Tryz.isAgg136
 z51 := Tryz.sizeOf136
 v51 := Tryz.zeroValue136
 t53 := Tryz.underlying138
 a53 := Tryz.isAgg138
 z53 := Tryz.sizeOf138
 v53 := Tryz.zeroValue138
 t171 := Tryz.underlying159
 a171 := Tryz.isAgg159
 z171 := Tryz.sizeOf159
 v171 := Tryz.zeroValue159
 t173 := Tryz.underlying161
 a173 := Tryz.isAgg161
 z173 := Tryz.sizeOf161
 v173 := Tryz.zeroValue161
 t212 := Tryz.underlying165
 a212 := Tryz.isAgg165
 z212 := Tryz.sizeOf165
 v212 := Tryz.zeroValue165
 t213 := Tryz.underlying166
 a213 := Tryz.isAgg166
 z213 := Tryz.sizeOf166
 t232 := Tryz.underlying167
 a232 := Tryz.isAgg167
 z232 := Tryz.sizeOf167
 v232 := Tryz.zeroValue167
 t233 := Tryz.underlying168
 a233 := Tryz.isAgg168
 z233 := Tryz.sizeOf168
 v233 := Tryz.zeroValue168
 g17 := by kernel_rfl
 g18 := by kernel_rfl
 g19 := by kernel_rfl
 i0 := by kernel_rfl
 i2 := by kernel_rfl
 i3 := by kernel_rfl
 i4 := by kernel_rfl
 i5 := by kernel_rfl
 i9 := by kernel_rfl
 i20 := by kernel_rfl
 i37 := by kernel_rfl
 i46 := by kernel_rfl
 i51 := by kernel_rfl
 i53 := by kernel_rfl
 i171 := by kernel_rfl
 i173 := by kernel_rfl
 i212 := by kernel_rfl
 i232 := by kernel_rfl
 i233 := by kernel_rfl
 m17 := by kernel_rfl
 m18 := by kernel_rfl
 m19 := by kernel_rfl }
noncomputable def Tryz.lays190_ren : Go.Shelf.Ren := ⟨fun | 190 => 107 | 125 => 132 | 258 => 131 | 128 => 155 | 129 => 156 | 302 => 146 | 303 => 147 | 304 => 148 | 305 => 149 | 306 => 150 | 307 => 151 | 308 => 152 | 309 => 153 | 310 => 154 | 333 => 172 | 329 => 173 | 330 => 174 | 334 => 175 | 335 => 176 | 336 => 177 | 344 => 193 | n => n, fun | 31 => 24 | 9 => 9 | 3 => 3 | 46 => 116 | 0 => 0 | 51 => 136 | 53 => 138 | 4 => 4 | 183 => 128 | 182 => 127 | 131 => 133 | 5 => 5 | 218 => 143 | 222 => 147 | 228 => 156 | 229 => 149 | n => n, fun | n => n⟩
theorem Tryz.lays190 : Go.Proofs.Lays.n190 Tryz.prog Tryz.lays190_ren := {
 mixed := by kernel_rfl
 f125 := Tryz.func132.trans (congrArg some (by kernel_rfl))
 f128 := Tryz.func155.trans (congrArg some (by kernel_rfl))
 f129 := Tryz.func156.trans (congrArg some (by kernel_rfl))
 f190 := Tryz.func107.trans (congrArg some (by kernel_rfl))
 f258 := Tryz.func131.trans (congrArg some (by kernel_rfl))
 f302 := Tryz.func146.trans (congrArg some (by kernel_rfl))
 f303 := Tryz.func147.trans (congrArg some (by kernel_rfl))
 f304 := Tryz.func148.trans (congrArg some (by kernel_rfl))
 f305 := Tryz.func149.trans (congrArg some (by kernel_rfl))
 f306 := Tryz.func150.trans (congrArg some (by kernel_rfl))
 f307 := Tryz.func151.trans (congrArg some (by kernel_rfl))
 f308 := Tryz.func152.trans (congrArg some (by kernel_rfl))
 f309 := Tryz.func153.trans (congrArg some (by kernel_rfl))
 f310 := Tryz.func154.trans (congrArg some (by kernel_rfl))
 f329 := Tryz.func173.trans (congrArg some (by kernel_rfl))
 f330 := Tryz.func174.trans (congrArg some (by kernel_rfl))
 f333 := Tryz.func172.trans (congrArg some (by kernel_rfl))
 f334 := Tryz.func175.trans (congrArg some (by kernel_rfl))
 f335 := Tryz.func176.trans (congrArg some (by kernel_rfl))
 f336 := Tryz.func177.trans (congrArg some (by kernel_rfl))
 f344 := Tryz.func193.trans (congrArg some (by kernel_rfl))
 t0 := Tryz.underlying0
 a0 := Tryz.isAgg0
 z0 := Tryz.sizeOf0
 v0 := Tryz.zeroValue0
 t3 := Tryz.underlying3
 a3 := Tryz.isAgg3
 z3 := Tryz.sizeOf3
 v3 := Tryz.zeroValue3
 t4 := Tryz.underlying4
 a4 := Tryz.isAgg4
 z4 := Tryz.sizeOf4
 v4 := Tryz.zeroValue4
 t5 := Tryz.underlying5
 a5 := Tryz.isAgg5
 z5 := Tryz.sizeOf5
 v5 := Tryz.zeroValue5
 t9 := Tryz.underlying9
 a9 := Tryz.isAgg9
 z9 := Tryz.sizeOf9
 v9 := Tryz.zeroValue9
 t31 := Tryz.underlying24
 a31 := Tryz.isAgg24
 z31 := Tryz.sizeOf24
 v31 := Tryz.zeroValue24
 t46 := Tryz.underlying116
 a46 := Tryz.isAgg116
 z46 := Tryz.sizeOf116
 v46 := Tryz.zeroValue116
 t51 := Tryz.underlying136
 a51 := Tryz.isAgg136
 z51 := Tryz.sizeOf136
 v51 := Tryz.zeroValue136
 t53 := Tryz.underlying138
 a53 := Tryz.isAgg138
 z53 := Tryz.sizeOf138
 v53 := Tryz.zeroValue138
 t131 := Tryz.underlying133
 a131 := Tryz.isAgg133
 z131 := Tryz.sizeOf133
 v131 := Tryz.zeroValue133
 t182 := Tryz.underlying127
 a182 := Tryz.isAgg127
 z182 := Tryz.sizeOf127
 v182 := Tryz.zeroValue127
 t183 := Tryz.underlying128
 a183 := Tryz.isAgg128
 z183 := Tryz.sizeOf128
 v183 := Tryz.zeroValue128
 t218 := Tryz.underlying143
 a218 := Tryz.isAgg143
 z218 := Tryz.sizeOf143
 v218 := Tryz.zeroValue143
 t222 := Tryz.underlying147
 a222 := Tryz.isAgg147
 z222 := Tryz.sizeOf147
 v222 := Tryz.zeroValue147
 t228 := Tryz.underlying156
 a228 := Tryz.isAgg156
 z228 := Tryz.sizeOf156
 v228 := Tryz.zeroValue156
 t229 := Tryz.underlying149
 a229 := Tryz.isAgg149
 z229 := Tryz.sizeOf149
 v229 := Tryz.zeroValue149 }
noncomputable def Tryz.lays194_ren : Go.Shelf.Ren := ⟨fun | 194 => 108 | n => n, fun | 31 => 24 | 9 => 9 | 3 => 3 | 4 => 4 | 0 => 0 | n => n, fun | n => n⟩
theorem Tryz.lays194 : Go.Proofs.Lays.n194 Tryz.prog Tryz.lays194_ren := {
 mixed := by kernel_rfl
 f194 := Tryz.func108.trans (congrArg some (by kernel_rfl))
 t0 := Tryz.underlying0
 a0 := Tryz.isAgg0
 z0 := Tryz.sizeOf0
 v0 := Tryz.zeroValue0
 t3 := Tryz.underlying3
 a3 := Tryz.isAgg3
 z3 := Tryz.sizeOf3
 v3 := Tryz.zeroValue3
 t4 := Tryz.underlying4
 a4 := Tryz.isAgg4
 z4 := Tryz.sizeOf4
 v4 := Tryz.zeroValue4
 t9 := Tryz.underlying9
 a9 := Tryz.isAgg9
 z9 := Tryz.sizeOf9
 v9 := Tryz.zeroValue9
 t31 := Tryz.underlying24
 a31 := Tryz.isAgg24
 z31 := Tryz.sizeOf24
 v31 := Tryz.zeroValue24 }
noncomputable def Tryz.lc72_ren : Go.Shelf.Ren := ⟨fun | 41 => 72 | n => n, fun | 22 => 24 | 23 => 9 | 4 => 4 | n => n, fun | n => n⟩
theorem Tryz.lc72 : Go.Proofs.SlLaysE0.n41 Tryz.prog Tryz.lc72_ren := {
 mixed := by kernel_rfl
 f41 := ⟨Tryz.f72.name, by decide, Tryz.func72.trans (congrArg some (by kernel_rfl))⟩
 t4 := Tryz.underlying4
 a4 := Tryz.isAgg4
 z4 := Tryz.sizeOf4
 v4 := Tryz.zeroValue4
 t22 := Tryz.underlying24
 a22 := Tryz.isAgg24
 z22 := Tryz.sizeOf24
 v22 := Tryz.zeroValue24 }
end Go.Proofs
namespace Go.Proofs.YtggeppllafbidaaGreatDoor
open Go Go.Sort Go.Proofs.Tryz
set_option maxRecDepth 100000
def U7(n:Int):Option ag:=if(decide (-9223372036854775808<=n)&&decide (n<=9223372036854775807))=true then some (Lib.itoa n)else none
theorem Tu:ip=Lib.pow10Tab:=by kernel_rfl
theorem Uw{n:Int}{r:ag}(h:U7 n=some r):CC Pg GE 140 [.int .i64 n] (.str r) []:=by
 rcases aK h with⟨b,h⟩|⟨b,h⟩
 ·obtain rfl:=lf h
  simp only[vad,vak]at b
  refine CC.grownIS call140 fun E Γ bs ow w a st hE hS=>?_
  have htab:Lib.TabIs Pg w "internal/strconv.uint64pow10" .u64 Lib.pow10Tab:=V5 hS (g:=1) (by rw[hE,←Tu];simp[GE]) (by kernel_rfl)
  refine(Any.strconv_Itoa Tryz.laysM171 n b.1 b.2 w htab).mono fun e w' he=>?_
  obtain⟨rfl,k,os,rfl⟩:=he
  exact⟨rfl,.of_grow _ _ _⟩
 ·cases h
theorem Oj{w:World}{b:Nat}{cur:Array Value}{e:TypeId}{l:List ag}(hh:w.heap[b]? =some (.cells cur e (0,0)))(ht:cur.toList.take l.length=l.map fun s=>Value.string ⟨s.toArray⟩):Holds encStr w b 0 l.toArray:=by
 intro j hj
 have hj':j<l.length:=by simpa using hj
 rw[vaH]
 refine⟨?_,frozen_of_row w b j cur e hh⟩
 rw[cell_of_row w b j cur e _ hh]
 have h1:(cur.toList.take l.length)[j]? =(l.map fun s=>Value.string ⟨s.toArray⟩)[j]?:=by rw[ht]
 rw[van hj']at h1
 simp only[vaP,vay,vab hj',vaf]at h1
 rw[h1,getElem!_pos _ j hj]
 simp[encStr]
theorem LW{w:World}{b n:Nat}{cur:Array Value}{e:TypeId}{os:Array Obj}(d l:List ag)(hh:w.heap[b]? =some (.cells cur e (0,0)))(hd:d.length<=cur.size)(hl:d.take l.length=l):(∀b',b'<w.heap.size->b'≠b->(grow (putRow encStr (Sort.ahead w n) b 0 d.toArray) os).heap[b']? =w.heap[b']?)/\w.heap.size<=(grow (putRow encStr (Sort.ahead w n) b 0 d.toArray) os).heap.size/\
   ∃cur',(grow (putRow encStr (Sort.ahead w n) b 0 d.toArray) os).heap[b]? =some (.cells cur' e (0,0))/\cur'.size=cur.size/\cur'.toList.take l.length=l.map fun s=>Value.string ⟨s.toArray⟩:=by
 have hb:b<w.heap.size:=(vap.1 hh).1
 have hsz:(putRow encStr (Sort.ahead w n) b 0 d.toArray).heap.size=w.heap.size:=by simp[putRow,mapBlock,Sort.ahead]
 refine⟨fun b' h1 h2=>?_,?_,putCells encStr 0 d.toArray cur,?_,by simp[putCells],?_⟩
 ·show((putRow encStr (Sort.ahead w n) b 0 d.toArray).heap++os)[b']? =_
  rw[vaI (by rw[hsz];exact h1)]
  show(w.heap.modify b (onCells _))[b']? =_
  rw[vbV,vaj (fun e=>h2 e.symm)]
 ·show _<=((putRow encStr (Sort.ahead w n) b 0 d.toArray).heap++os).size
  rw[Array.size_append,hsz];omega
 ·show((putRow encStr (Sort.ahead w n) b 0 d.toArray).heap++os)[b]? =_
  rw[vaI (by rw[hsz];exact hb)]
  show(w.heap.modify b (onCells _))[b]? =_
  rw[vbV,vai rfl,hh]
  rfl
 ·have hll:l.length<=d.length:=by have h0:=vbt List.length hl;rw[vaZ]at h0;omega
  refine vbf fun i=>?_
  by_cases hi:i<l.length
  ·have hdl:i<d.length:=by omega
   have hdi:d[i]=l[i]:=by
    have h1:(d.take l.length)[i]? =l[i]?:=by rw[hl]
    rw[van hi,vab hdl,vab hi]at h1
    exact vbn h1
   rw[van hi]
   simp only[vaP,putCells,Array.getElem?_mapIdx,vay,vab hi,vaf]
   have hc:cur[i]? =some (cur[i]'(by omega)):=va5 (by omega)
   rw[hc]
   simp only[vaf]
   rw[vai ⟨vaB _,by simp;omega⟩,Nat.sub_zero,getElem!_pos _ i (by simpa using hdl)]
   simp[encStr,hdi]
  ·rw[vaC (by simp[putCells];omega),vaC (by simp;omega)]
theorem od(l:List ag):(kg l).length=l.length:=by unfold kg;exact List.length_mergeSort _
theorem Sz{n:Nat}(h:n<=dy):n<4611686018427387904:=by unfold dy at h;omega
theorem UI:Ss Pg 107 9 (fun s=>Value.string ⟨s.toArray⟩) kg (fun _ _ _=>.tuple #[]):={
 call:=call107
 row:=fun w b cap cur l hh hc hl hm hla ht=>by
  have hlen:=Sz hla
  refine(Any.slices_Sort_string Tryz.lays190 b 0 cap l w (Oj hh ht) ((vap.1 hh).1) hlen).mono fun r w' hr=>?_
  obtain⟨rfl,n,os,rfl⟩:=hr
  obtain⟨k1,k2,cur',k3,k4,k5⟩:=LW (n:=n) (os:=os) (kg l) (kg l) hh (by rw[od];omega) (vbe)
  exact⟨rfl,by rw[od];exact hl,rfl,rfl,rfl,k2,k1,cur',k3,by omega,k5⟩
 none:=fun w=>⟨by simp[kg],Any.slices_Sort_string_none Tryz.lays190 Option.none 0 w⟩}
theorem MT(l:List ag):(Lib.compact l++List.replicate (l.length - (Lib.compact l).length) []).take (Lib.compact l).length=Lib.compact l:=by simp
theorem F0(l:List ag):(Lib.compact l).length<=l.length:=by
 unfold Lib.compact Lib.compactUpTo
 rw[vbz]
 exact va1 (va2 _ _) (by simp)
theorem PD:Ss Pg 108 9 (fun s=>Value.string ⟨s.toArray⟩) Lib.compact (fun x k c=>.slice x k c):={
 call:=call108
 row:=fun w b cap cur l hh hc hl hm hla ht=>by
  have hlen:=Sz hla
  refine(calls_of_every_depth fun D=>AnyS.slices_Compact_string_in Tryz.lays194 D b 0 cap l w (Oj hh ht) (by omega) hl).mono fun r w' hr=>?_
  obtain⟨rfl,q,rfl⟩:=hr
  have hcl:=F0 l
  obtain⟨k1,k2,cur',k3,k4,k5⟩:=LW (n:=q) (os:=#[]) (Lib.compact l++List.replicate (l.length - (Lib.compact l).length) []) (Lib.compact l) hh (by simp;omega) (MT l)
  rw[grow_empty]at k1 k2 k3
  exact⟨rfl,by omega,rfl,rfl,rfl,k2,k1,cur',k3,by omega,k5⟩
 none:=fun w=>⟨by rfl,calls_of_every_depth fun D=>AnyS.slices_Compact_string_empty_in Tryz.lays194 D Option.none 0 w⟩}
def mP(a b:List ag):Option (List ag):=(app ([]:List ag) a).bind fun l=>(app l b).bind fun l2=>some (Lib.compact (Ja l2))
noncomputable def Po:Code:=f67.body.getD .skip
theorem Zs:Pg.cellsOf 9=1:=by kernel_rfl
theorem UP(l:List ag)(h:l.length<=dy):aL Pg GE 0 (dc Po [true,true,false]) (EX .normal (fp 15 5 (kg l) 9)) (fp 15 5 l 9):=
 aL.inplace (t:=5) (d1:=11) (d2:=12) UI Zs h rfl rfl rfl rfl rfl rfl (by decide) (.inl ⟨rfl,od l⟩)
theorem UQ(l:List ag)(h:l.length<=dy):aL Pg GE 0 (dc Po [true,true,true,false]) (EX .normal (fp 15 4 (Lib.compact l) 9)) (fp 15 5 l 9):=
 aL.inplace3 (t:=5) (d1:=13) (d2:=14) PD Zs h rfl rfl rfl rfl rfl rfl (by decide) (fun _ _ _=>rfl) rfl rfl rfl (by decide) (by decide)
theorem T7{α:Type}{l r z:List α}(h:app l r=some z):z.length<=dy:=by
 unfold app at h
 split at h
 ·cases h;simpa using ‹_›
 ·cases h
theorem zP{a b:List ag}{r:List ag}(h:mP a b=some r):CC Pg GE 67 [sl cS a,sl cS b] (sl cS r) [(0,9)]:=by
 obtain⟨l,bl,h⟩:=aw h
 obtain⟨l2,bl2,h⟩:=aw h
 obtain rfl:=lf h
 rw[On]
 have h2:=T7 bl2
 have h3:(kg l2).length<=dy:=by rw[od];exact h2
 exact C.ev (A:=[8,10]) mixed call67 func67 (c:=Po) rfl (aI (am d8 a)<|aI (am d8 b) trivial)
  [.v (sl cS ([]:List ag)),.v (sl cS l),.v (sl cS l2),.pa 0,.pc (fp 15 5 l2 9) .normal (fp 15 5 (kg l2) 9),.pa 0,.pc (fp 15 5 (kg l2) 9) .normal (fp 15 4 (Lib.compact (kg l2)) 9)]
  (Eq.mp (by kernel_rfl) (aI (aZ.mk' (v:=PVal.str) Ge ([]:List ag) 0 (by kernel_rfl))<|aI (aZ.ap bl)<|aI (aZ.ap bl2)<|aI (fr (fp 15 5 l2 9))<|aI (UP l2 h2)<|
   aI (fr (fp 15 5 (kg l2) 9))<|aI (UQ (kg l2) h3)<|aI (rP (sl cS (Lib.compact (kg l2)))) (am d8 (Lib.compact (kg l2)))))
abbrev fB:Nat:=105
abbrev fW:Nat:=129
noncomputable def bW:Code:=f129.body.getD .skip
noncomputable def bB:Code:=f105.body.getD .skip
theorem Lq(p:aa):CC Pg GE fB [.agg (ac p)] (.func (.func fW) [] [.eptr (ac p)]) []:=by
 have z:=se (bh p)<|en (aI (rP (.func (.func fW) [] [.eptr (ac p)]))<|(aI trivial (aI (show kI 0 (ac p)from ah p) trivial)))
 exact C.evp (A:=[]) mixed call105 func105 (c:=bB) rfl (aI (ah p) trivial) z (by kernel_rfl)
theorem Xd:bW=.region (X0 bW) (lP bW) false:=by kernel_rfl
theorem Xh:List.range (lP bW).size=[0,1]++2::([]:List Nat):=by kernel_rfl
theorem Xf:[0,1].map (fun i=>(lP bW)[i]?)=((lP bW).toList.take 2).map some:=by kernel_rfl
theorem Xg:((lP bW).toList.take 2).all Jz=true:=by kernel_rfl
theorem YB:(lP bW)[2]? =some (QK bW 2):=by kernel_rfl
theorem YA:(QK bW 2).guard=none:=by kernel_rfl
theorem Xe:(QK bW 2).op=.call {callee:=.value (.func fV),args:=#[.tmp 3,.tmp 4],argTypes:=V9 (QK bW 2)}:=by kernel_rfl
theorem Yz:(QK bW 2).dst=some 5:=by kernel_rfl
theorem VM(p:aa)(l:Nat):cB Pg GE [] (lP bW) (fun st=>FG st (aP 6 [(3,.agg (ac p)),(4,yv l)] [] [])) ((lP bW).toList.take 2) 0 (aP 6 [(0,yv l),(1,.eptr (ac p))] [] []):=by
 have z:=sv (az p)<|en (fr (aP 6 [(3,.agg (ac p)),(4,yv l)] [] []))
 exact DO z (by kernel_rfl)
section
variable{S:Type}{step:S->aa->Option (Bool×S)}{J:Bool->S->aV->World->Prop}{l:Nat}
theorem SH(hY:Yd Pg GE l ac step J)(p:aa){s:S}{r:Bool×S}{Γ:aV}{w:World}{v:Value}{n:Nat}(hv:Eo step p s=some r)(hJ:J true s Γ w)(hvr:VR Γ [] w (.eptr (ac p)) v):CallsIn Fence.wide n Pg fW #[.func (.yield l) #[] #[],v] w fun e w'=>(∃u,e=.returned u)/\∃Γ',Γ.Le w Γ' w'/\J r.1 r.2 Γ' w':=by
 refine callsIn_of_wp func129 (c:=bW) rfl trivial ?_
 have h0:VF J Γ w true s (aP 6 [(0,yv l),(1,.eptr (ac p))] [] []) (#[.func (.yield l) #[] #[],v]++Array.replicate 4 undef) w:=by
  refine⟨Γ,hJ,.refl _ _,_,_,_,(hY.base _ _ _ _ hJ).fresh 0 (tmps:=[yv l,.eptr (ac p)]++List.replicate 4 .undef) (by simp) fun t q u hq hu=>?_⟩
  by_cases ht:t<2
  ·rw[vac (by simpa using ht)]at hq
   rw[vaI (by simpa using ht)]at hu
   match t,ht with
   |0,_=>simp at hq hu;subst hq;subst hu;exact .val _
   |1,_=>simp at hq hu;subst hq;subst hu;exact hvr
  ·rw[vae (by simpa using ht),vaN]at hq
   split at hq<;>cases hq
   exact .undef u
 show bW.wpIn Fence.wide n Pg _ ⟨_,[]⟩ w
 have d2:(PVal.eptr (ac p)).cl 0:=ah p
 have d3:(PVal.agg (ac p)).cl 0:=ah p
 have key:(Code.region (X0 bW) (lP bW) false).wpIn Fence.wide n Pg (bodyPost Pg f129 fun e w'=>(∃u,e=.returned u)/\∃Γ',Γ.Le w Γ' w'/\J r.1 r.2 Γ' w') ⟨#[.func (.yield l) #[] #[],v]++Array.replicate 4 undef,[]⟩ w:=by
  refine wpIn_region ?_
  rw[Xh]
  obtain⟨Γ1,hJ1,hle1,hS⟩:=VF.again hY (k:=0) (Ro (L:=[(0,yv l),(1,.eptr (ac p))]) (by exact aI trivial<|aI d2 trivial) 0 rfl) h0
  refine AG (A:=[]) (K:=fun st=>FG st (aP 6 [(3,.agg (ac p)),(4,yv l)] [] [])) (fun Γ' bs' ow' a' w' st hS' hK=>?_) _ _ Γ1 _ _ _ w _ Xf (Fk Xg) hS (VM p l)
  obtain⟨Γ2,bs2,ow2,hS2⟩:=FG.sr hS' hK
  refine Cs YB YA (VF.visitc hY (kA:=0) (stB:=aP 6 [(3,.agg (ac p)),(4,yv l),(5,.bool r.1)] [] []) (Ro (by exact aI d3<|aI trivial trivial) 0 rfl) (O4 hY p) hv (y:=4) (x:=3) (d:=5) rfl rfl Xe Yz rfl ⟨Γ2,hY.side _ _ _ _ hJ1 _ _ _ _ _ _ hS2,hle1.trans hS2.step.le,_,_,_,hS2⟩ fun a3 w3 h3=>?_)
  obtain⟨Γ3,hJ3,hle3,E,bs3,ow3,hS3⟩:=h3
  obtain⟨u,e1,_⟩:=qi hS3 (fn:=f129) (r:=.tuple []) (by kernel_rfl)
  exact⟨rfl,u,e1,⟨u,rfl⟩,Γ3,hle3,hJ3⟩
 rw[<-Xd]at key
 exact key
end
abbrev qan:Nat:=64
noncomputable def UY:Code:=f64.body.getD .skip
def TU:Code->Code
 |.rangeFunc _ _ a _=>a
 |_=>.skip
def TV:Code->Code
 |.rangeFunc _ _ _ b=>b
 |_=>.skip
abbrev ZA:Code:=dc UY [false]
abbrev ZB:Code:=dc UY [true,false]
abbrev ZC:Code:=dc UY [true,true,false,false]
abbrev TT:Code:=dc UY [true,true,false,true,false]
abbrev YL:Code:=dc UY [true,true,true,false]
theorem VL:UY=.seq ZA (.seq ZB (.seq (.seq ZC (.block 0 (.rangeFunc (.tmp 6) #[7] (TU TT) (TV TT)))) (.seq YL .ret))):=by kernel_rfl
def qd(s:List ag)(x:aa):Option (Bool×List ag):=if(x.Op==3)=true then(app s [x.Name]).bind fun l=>some (true,l)else some (true,s)
def rU(p:aa):Option (List ag):=(Eo qd p []).bind fun q=>(mP q.2 []).bind fun r=>some r
abbrev TR(s:List ag):List aA:=[.dead,.cells [sl cS s] [(0,9)]]
abbrev YU(s:List ag):ax:=aP 18 [(3,.bptr 1 0)] (TR s) []
theorem qav(p:aa):aL Pg GE 0 ZA (EX .normal (aP 18 [(1,.eptr (ac p))] [.dead] [])) (aP 18 [(0,.agg (ac p))] [] []):=by
 have z:=se (bh p)<|eF .normal (aP 18 [(1,.eptr (ac p))] [.dead] [])
 exact dS (A:=[]) mixed z (by kernel_rfl)
theorem qaw(p:aa):aL Pg GE 0 ZB (EX .normal (aP 18 [(1,.eptr (ac p)),(3,.bptr 1 0)] (TR []) [])) (aP 18 [(1,.eptr (ac p))] [.dead] []):=by
 have z:=sx (show jv Pg 24=some [sl cS ([]:List ag)] by kernel_rfl)<|eF .normal (aP 18 [(1,.eptr (ac p)),(3,.bptr 1 0)] (TR []) [])
 exact dS (A:=[]) mixed z (by kernel_rfl)
abbrev stR(p:aa):ax:=aP 18 [(3,.bptr 1 0),(6,.func (.func fW) [] [.eptr (ac p)])] (TR []) []
theorem qax(p:aa):aL Pg GE 0 ZC (EX .normal (stR p)) (aP 18 [(1,.eptr (ac p)),(3,.bptr 1 0)] (TR []) []):=by
 have z:=sv (az p)<|aX (Lq p)<|eF .normal (stR p)
 exact dS (A:=[]) mixed z (by kernel_rfl)
abbrev YV(s:List ag)(x:aa):ax:=aP 18 [(3,.bptr 1 0),(4,.bptr 2 0)] (TR s++[.cells (Ny x) []]) []
theorem qay(s:List ag)(x:aa):aL Pg GE 2 (TU TT) (EX .normal (YV s x)) (aP 18 [(3,.bptr 1 0),(7,.agg (ac x))] (TR s) []):=by
 have z:=sx d9<|sx (bp x)<|eF .normal (YV s x)
 exact dS (A:=[]) mixed z (by kernel_rfl)
abbrev YW(r:List ag):ax:=aP 18 [(3,.bptr 1 0)] (TR r++[.dead]) []
theorem qaz(s:List ag)(x:aa){r:Bool×List ag}(h:qd s x=some r):r.1=true/\aL Pg GE 2 (TV TT) (EX .normal (YW r.2)) (YV s x):=by
 unfold qd at h
 rcases aK h with⟨c1,h⟩|⟨c1,h⟩
 ·obtain⟨l,bl,h⟩:=aw h
  cases h
  refine⟨rfl,?_⟩
  have z:=ss<|sg 0 c1<|ss<|sv (aZ.mk' (v:=PVal.str) Ge ([x.Name]:List ag) 1 (by kernel_rfl))<|sv (aZ.ap bl)<|eF .normal (YW l)
  exact dS (A:=[11]) mixed z (by kernel_rfl)
 ·cases h
  refine⟨rfl,?_⟩
  have z:=ss<|sg 0 c1<|eF .normal (YW s)
  exact dS (A:=[11]) mixed z (by kernel_rfl)
abbrev YX(r:List ag):ax:=aP 18 [(2,sl cS r)] [.dead,.dead] [((2,0),9)]
theorem qaA(s:List ag){r:List ag}(h:mP s []=some r):aL Pg GE 2 (.seq YL .ret) (EX .ret (YX r)) (YU s):=by
 have z:=sv (show cp Pg 24 [sl cS s]=some (sl cS s) by kernel_rfl)<|aX (zP h)<|eF .ret (YX r)
 exact dS (A:=[]) mixed z (by kernel_rfl)
abbrev CE(fn:FuncId)(a:Array Value)(D:Nat):Loop:={state:=.ready,pending:=none,fn:=fn,tmps:=a,params:=#[7],assign:=TU TT,body:=TV TT,defers:=D}
def JF(Γe:aV)(we:World)(bs:bD)(a:Array Value)(fn:FuncId)(l D:Nat)(b:Bool)(s:List ag)(Γ:aV)(w:World):Prop:=
 b=true/\∃ow,SR Pg (HK GE Γe we) Γ bs ow w a (YU s)/\¬bL bs ow l/\¬bL bs ow D/\w.heap[l]? =some (.loop (CE fn a D))/\w.heap[D]? =some (.deferred (some []))
theorem cz{w:World}{b:Nat}{o:Obj}(h:w.heap[b]? =some o):b<w.heap.size:=(vap.1 h).1
theorem WO{Γe:aV}{we:World}{bs:bD}{a:Array Value}{fn:FuncId}{l D:Nat}(hl:we.heap.size<=l)(hD:we.heap.size<=D)(hne:D≠l)(hb:bs.length=2):Yd Pg GE l ac qd (JF Γe we bs a fn l D) where
 base:=fun b s Γ w ⟨_,ow,h,_⟩=>h.base
 side:=fun b s Γ w ⟨h0,ow,h,hTl,hTD,hhl,hhD⟩ Γ' bs' ow' w' a' st' h'=>
  ⟨h0,ow,h.aside h',hTl,hTD,(h'.step.keep l (cz hhl) id).1.trans hhl,(h'.step.keep D (cz hhD) id).1.trans hhD⟩
 yield:=fun s Γ w x v n r ⟨h0,ow,h,hTl,hTD,hhl,hhD⟩ hv hr=>by
  obtain⟨hr1,hS4⟩:=qaz s x hr
  refine⟨_,_,_,_,run_yield hhl rfl,?_⟩
  have hz:(((#[7]:Array Tmp).zip #[v]).foldl (fun tmps (t,a)=>tmps.setIfInBounds t a) a)=a.setIfInBounds 7 v:=by simp
  show RoundIn Fence.wide n Pg l fn (((#[7]:Array Tmp).zip #[v]).foldl (fun tmps (t,a)=>tmps.setIfInBounds t a) a) (TU TT) (TV TT) w _
  rw[hz]
  have h7:SR Pg (HK GE Γe we) Γ bs ow w (a.setIfInBounds 7 v) (aP 18 [(3,.bptr 1 0),(7,.agg (ac x))] (TR s) []):=h.set (d:=7) (p:=.agg (ac x)) (hv.mono (.refl _ _) (fun i b hi=>by simp at hi))
  refine roundIn_of_wpIn trivial (wpIn_mono (aL.on (qay s x) (by decide) h7 (by rw[hb];decide) (some l) [] n) ?_)
  rintro e ⟨a1,ds1⟩ w1 ⟨rfl,Γ1,bs1,ow1,st1,h1,⟨rfl,rfl⟩,hbs1,hle1,hsz1,hk1⟩
  obtain⟨k1,t1⟩:=hk1 l (cz hhl) hTl
  obtain⟨k1D,t1D⟩:=hk1 D (cz hhD) hTD
  have hl1:=k1.trans hhl
  refine⟨_,run_beginRound hl1 rfl,?_⟩
  obtain⟨h1',hle1'⟩:=h1.putOther (l:=l) (o:=.loop {CE fn a D with state:=.busy}) t1 (.inr hl) (fun c t fr e=>by rw[hl1]at e;cases e)
  have hb1:2<=bs1.length:=by have:=h1.bl;rw[this];exact vcv rfl
  refine wpIn_mono (aL.on hS4 (by decide) h1' hb1 (some l) [] n) ?_
  rintro e ⟨a2,ds2⟩ w2 ⟨rfl,Γ2,bs2,ow2,st2,h2,⟨rfl,rfl⟩,hbs2,hle2,hsz2,hk2⟩
  have hl1':(w1.putObj l (.loop {CE fn a D with state:=.busy})).heap[l]? =some (.loop {CE fn a D with state:=.busy}):=World.putObj_heap_same (cz hl1)
  have hD1':(w1.putObj l (.loop {CE fn a D with state:=.busy})).heap[D]? =some (.deferred (some [])):=(World.putObj_heap_other hne).trans (k1D.trans hhD)
  obtain⟨k2,t2⟩:=hk2 l (cz hl1') t1
  obtain⟨k2D,t2D⟩:=hk2 D (cz hD1') t1D
  have hl2:=k2.trans hl1'
  refine⟨_,_,run_endRound none hl2,?_⟩
  obtain⟨h3,hle3⟩:=h2.putOther (l:=l) (o:=.loop {{CE fn a D with state:=.busy}with state:=if(none:Option Code).isNone then .ready else .done,pending:=none}) t2 (.inr hl) (fun c t fr e=>by rw[hl2]at e;cases e)
  have hle:Γ.Le w Γ2 (w2.putObj l (.loop {{CE fn a D with state:=.busy}with state:=if(none:Option Code).isNone then .ready else .done,pending:=none})):=((hle1.trans hle1').trans hle2).trans hle3
  obtain⟨ow3,h4,hT4⟩:=h.back rfl h3 hle (H':=TR r.2) (fun i hi=>(hbs2 i (by omega)).trans (hbs1 i (by omega))) (by
   refine⟨trivial,⟨rfl,aI (up (am d8 r.2)) trivial,fun x hx=>hx⟩,trivial⟩) hb.symm
  refine⟨Γ2,by rw[hr1];rfl,hle,hr1,ow3,h4,fun hx=>t2 (hT4 l hx),fun hx=>t2D (hT4 D hx),?_,?_⟩
  ·exact World.putObj_heap_same (cz hl2)
  ·exact(World.putObj_heap_other hne).trans (k2D.trans hD1')
theorem DR{p:aa}{r:List ag}(h:rU p=some r):CC Pg GE qan [.agg (ac p)] (sl cS r) [(0,9)]:=by
 obtain⟨q,hq,h⟩:=aw h
 obtain⟨r',hu,h⟩:=aw h
 cases h
 refine⟨aI (ah p) trivial,call64,fun Γ bs ow w vs hS=>(callsIn_wide (n:=0)).1 (callsIn_of_wp_marks func64 (c:=UY) rfl trivial ?_)⟩
 obtain rfl:bs=[]:=vao hS.bl
 obtain⟨v,rfl⟩:∃v,vs=#[v]:=vbF.1 hS.sz
 have hB:Km GE Γ w:=hS.base
 have hE:Be GE 0 (HK GE Γ w):=hB.good
 have hvr:VR Γ [] w (.agg (ac p)) v:=hS.tm 0 _ _ rfl rfl
 have h0:SR Pg (HK GE Γ w) Γ [] (fun _=>none) w (#[v]++Array.replicate 17 undef) (aP 18 [(0,.agg (ac p))] [] []):=by
  refine hB.fresh (a:=#[v]++Array.replicate 17 undef) 0 (tmps:=[.agg (ac p)]++List.replicate 17 .undef) (by simp) fun t q u hq hu=>?_
  by_cases ht:t<1
  ·rw[vac (by simpa using ht)]at hq
   rw[vaI (by simpa using ht)]at hu
   match t,ht with
   |0,_=>simp at hq hu;subst hq;subst hu;exact hvr
  ·rw[vae (by show 1<=t;omega),vaN]at hq
   split at hq<;>cases hq
   exact .undef u
 show UY.wpIn Fence.wide 0 Pg _ ⟨#[v]++Array.replicate 17 undef,[]⟩ w
 rw[VL]
 refine wpIn_seq (wpIn_mono (aL.wideE (qav p) hE h0 0 []) ?_)
 rintro e ⟨a1,ds1⟩ w1 ⟨rfl,Γ1,bs1,ow1,st1,h1,rfl,rfl⟩
 refine wpIn_seq (wpIn_mono (aL.wideE (qaw p) hE h1 0 []) ?_)
 rintro e ⟨a2,ds2⟩ w2 ⟨rfl,Γ2,bs2,ow2,st2,h2,rfl,rfl⟩
 refine wpIn_seq (wpIn_seq (wpIn_mono (aL.wideE (qax p) hE h2 0 []) ?_))
 rintro e ⟨a3,ds3⟩ w3 ⟨rfl,Γ3,bs3,ow3,st3,h3,rfl,rfl⟩
 have h6:=h3.opv [] (.tmp 6)
 have e6:opv (HK GE Γ w).GE (stR p).tmps (.tmp 6)=.func (.func fW) [] [.eptr (ac p)]:=rfl
 rw[e6]at h6
 have hbl:bs3.length=2:=h3.bl
 refine wpIn_block (wpIn_rangeFunc fun fn _=>?_)
 obtain⟨g1,l1⟩:=h3.allocO (.deferred (some []))
 obtain⟨g2,l2⟩:=g1.allocO (.loop (CE fn a3 w3.heap.size))
 have gF:=g2.forgetT (tm:=(YU []).tmps) rfl
 have hsz3:w.heap.size<=w3.heap.size:=h3.step.size
 have htl:∀b,w3.heap.size<=b->¬bL bs3 ow3 b:=fun b hb hx=>by
  rcases hx with⟨i,hi⟩|hx
  ·have hil:i<(stR p).boxes.length:=by rw[<-h3.bl];exact ak hi
   have:=(h3.bx i b _ hi (vab hil)).2.1
   omega
  ·cases hL:ow3 b with
   |none=>exact hx hL
   |some L=>have:=(h3.on b L hL).1;omega
 generalize hvf:(Act.mk a3 []).eval (.tmp 6)=vf at h6
 cases h6 with
 |func _ _ _ fs cs hl1 hl2 hf hc=>
 obtain rfl:fs=#[]:=vaY hl1
 obtain⟨cv,rfl⟩:∃v,cs=#[v]:=vbF.1 hl2
 have hcv:VR Γ3 bs3 w3 (.eptr (ac p)) cv:=hc 0 _ _ rfl rfl
 have hJ:JF Γ w bs3 a3 fn (w3.heap.size+1) w3.heap.size true [] Γ3 ((w3.alloc (.deferred (some []))).alloc (.loop (CE fn a3 w3.heap.size))):=by
  refine⟨rfl,ow3,gF,htl _ (by omega),htl _ (vam _),?_,?_⟩
  ·have:=World.alloc_heap_new (w3.alloc (.deferred (some []))) (.loop (CE fn a3 w3.heap.size))
   rwa[World.size_alloc]at this
  ·rw[cU _ _ (by rw[World.size_alloc];omega)]
   exact World.alloc_heap_new w3 _
 have hY:=WO (Γe:=Γ) (we:=w) (bs:=bs3) (a:=a3) (fn:=fn) (l:=w3.heap.size+1) (D:=w3.heap.size) (by omega) hsz3 (by omega) hbl
 refine⟨_,_,_,{target:=.fn (.func fW) #[cv],args:=#[.func (.yield (w3.heap.size+1)) #[] #[]]},(w3.alloc (.deferred (some []))).alloc (.loop (CE fn a3 w3.heap.size)),fW,#[.func (.yield (w3.heap.size+1)) #[] #[],cv],(w3.alloc (.deferred (some []))).alloc (.loop (CE fn a3 w3.heap.size)),run_enterLoop_outer fn a3 #[7] (TU TT) (TV TT),?_,fun _ _=>trivial,?_,fun hx=>by simp[Fence.wide]at hx,?_⟩
 ·have hvf':(Act.mk a3 []).eval (.tmp 6)=.func (.func fW) #[] #[cv]:=hvf
  simp only[resolve,hvf',Deferred.ofValue]
  simp[Act.eval]
 ·simp[invoke,call129]
 ·refine(SH hY p (n:=0 - 1) hq hJ (((hcv.mono l1 (.refl _)).mono l2 (.refl _)).clo (show kI 0 (ac p)from ah p))).mono ?_
  rintro e w4 ⟨⟨u,rfl⟩,Γ4,hle4,hq1,ow4,h4,tl4,tD4,hl4,hD4⟩
  refine⟨none,_,run_endLoop hl4 (by simp),?_⟩
  obtain⟨h5,hle5⟩:=h4.putOther (l:=w3.heap.size+1) (o:=.loop {CE fn a3 w3.heap.size with state:=.exhausted}) tl4 (.inr (show w.heap.size<=_ by omega)) (fun c t fr e=>by rw[hl4]at e;cases e)
  have hD5:(w4.putObj (w3.heap.size+1) (.loop {CE fn a3 w3.heap.size with state:=.exhausted})).heap[w3.heap.size]? =some (.deferred (some [])):=(World.putObj_heap_other (by omega)).trans hD4
  generalize w4.putObj (w3.heap.size+1) (.loop {CE fn a3 w3.heap.size with state:=.exhausted})=w5 at h5 hle5 hD5
  show(Code.seq YL .ret).wpIn Fence.wide 0 Pg _ ⟨a3,[{target:=.collected w3.heap.size,args:=#[]}]⟩ w5
  refine wpIn_mono (wpIn_wide.2 (aL.on (qaA q.2 hu) (by decide) h5 (by rw[hbl];decide) none [{target:=.collected w3.heap.size,args:=#[]}])) ?_
  rintro e ⟨a6,ds6⟩ w6 ⟨rfl,Γ6,bs6,ow6,st6,h6,⟨rfl,rfl⟩,hbs6,hle6,hsz6,hk6⟩
  obtain⟨k6,t6⟩:=hk6 _ (cz hD5) tD4
  have hD6:=k6.trans hD5
  obtain⟨h7,hle7⟩:=h6.putOther (l:=w3.heap.size) (o:=.deferred none) t6 (.inr hsz3) (fun c t fr e=>by rw[hD6]at e;cases e)
  refine⟨by simp,.inl ⟨w3.heap.size,_,rfl,run_takeDeferred hD6,?_⟩⟩
  have hS7:SR Pg ⟨GE,Γ,w,bL [] ow⟩ Γ6 bs6 ow6 (w6.putObj w3.heap.size (.deferred none)) a6 (YX r):={h7 with
   bn:=fun i b hb=>(h7.bn i b hb).elim False.elim .inr
   on:=fun b L hL=>⟨(h7.on b L hL).1,(h7.on b L hL).2.elim False.elim .inr⟩
   gx:=hS.gx
   step:={h7.step with keep:=fun b hb _=>h7.step.keep b hb (fun hx=>hx)}}
  obtain⟨vr,e1,e2,e3⟩:=qi hS7 (fn:=f64) (r:=sl cS r) (by kernel_rfl)
  refine⟨vr,e1,vr,Γ6,zI (cT f64.results.toList) [(0,9)] ow6,rfl,?_⟩
  have hrs:f64.results.toList=[.tmp 2]:=by kernel_rfl
  have hf:=hS7.finish (H':=[]) (src:=cT f64.results.toList) (ro:=[(0,9)]) e2 (am d8 r) trivial (fun x hx=>by
   simp only[va9]at hx
   subst hx
   refine⟨?_,fun u v'=>e3 0 u v' ?_⟩
   ·rw[hrs];exact va9.2 rfl
   ·rw[hrs];trivial) (fun x hx y hy _=>by
   simp only[va9]at hx hy
   rw[hx,hy])
  simpa using hf
theorem Lw:oo Pg 72 9:=Rg Tryz.lc72 rfl rfl (by kernel_rfl) call72
theorem Pz{l r:List ag}(h:Cg l=some r):CC Pg GE 72 [sl cS l] (sl cS r) [(0,9)]:=aZ.cloneCC Lw h
abbrev vS:=(waC->Option Bool)
abbrev Ao(R:vS):Prop:=∀(a:waC) (r:Bool),R a=some r->CC Pg GE 8 [sl af a] (.bool r) []
abbrev ue:=(ae->Option Int)
abbrev y2(R:ue):Prop:=∀(t:ae) (r:Int),R t=some r->CC Pg GE 42 [.agg (af t)] (.int .i64 r) []
noncomputable def Yq:Code:=f42.body.getD .skip
def X9:List Nat:=[18]
section
variable(R3:ue)(t7:waC)(t8:Int)(k:Int)(t9:Int)
def jV:ax:=aP 19 [(3,.int .i64 k),(7,sl af t7),(8,.int .i64 t8),(9,.int .i64 t9)] [.dead] []
def sG(o:Int):ax:=aP 19 [(3,.int .i64 o)] [.dead] []
def zC:Option ((Int×Int)⊕(Int)):=
 if(decide (t9<t8))=true then
  (dt t7 t9).bind fun x2=>
  (R3 x2).bind fun r3=>
  some (.inl (bA (k+r3),bA (t9+1)))
 else
  some (.inr k)
def xz:Option Int:=loop (fun(zz:Int×Int)=>zC R3 t7 t8 zz.1 zz.2) (k,t9)
theorem EI(hR3:y2 R3){y:(Int×Int)⊕(Int)}(h:zC R3 t7 t8 k t9=some y):aL Pg GE 0 (cA Yq 119) (LQ (fun(zz:Int×Int)=>jV t7 t8 zz.1 zz.2) (fun _=>.exit 0) sG y) (jV t7 t8 k t9):=by
 rcases aK h with⟨c1,h⟩|⟨c1,h⟩
 ·obtain⟨x2,bx2,h⟩:=aw h
  obtain⟨r3,br3,h⟩:=aw h
  obtain rfl:=lf h
  have z:=sg 0 c1<|sv (cJ.ia (k:=.i64) bx2)<|sv (aQ x2)<|sx jl<|sx (cu x2)<|sv (bu x2 [])<|aX (hR3 _ _ br3)<|lG 0 .normal (jV t7 t8 (bA (k+r3)) (bA (t9+1))) rfl (cb (aI trivial (aI (up (am aj t7)) (aI trivial (aI trivial trivial))))) (aI trivial trivial)
  exact cc (A:=X9) mixed z<|by kernel_rfl
 ·obtain rfl:=lf h
  have z:=sg 0 c1<|eF (.exit 0) (sG k)
  exact eS X9 (by intro hx;cases hx) z<|by kernel_rfl
theorem G4(hR3:y2 R3){x:Int}(h:xz R3 t7 t8 k t9=some x):aL Pg GE 0 (.loop (cA Yq 119)) (EX (.exit 0) (sG x)) (jV t7 t8 k t9):=
 aL.loop (S:=fun(zz:Int×Int)=>jV t7 t8 zz.1 zz.2) (ex:=(fun _=>.exit 0)) (s:=(k,t9)) h fun zz y hy=>EI R3 t7 t8 zz.1 zz.2 hR3 hy
end
def uf(R3:ue)(t:ae):Option Int:=
 (xz R3 t.Args (t.Args.length:Int) 1 0).bind fun o4=>
 some o4
theorem KR(R3:ue)(hR3:y2 R3){t:ae}{r:Int}(h:uf R3 t=some r):CC Pg GE 42 [.agg (af t)] (.int .i64 r) []:=by
 obtain⟨o4,bo4,h⟩:=aw h
 obtain rfl:=lf h
 have z:=se (bH t)<|sv (aF t)<|sv (aG t)<|b9 (cJ.ln t.Args)<|cm (G4 R3 t.Args (t.Args.length:Int) 1 0 hR3 bo4)<|en (aI (rP (.int .i64 o4))<|trivial)
 exact bo X9 call42 func42 (c:=Yq) rfl (aI (aj t) trivial) z<|by kernel_rfl
def zB:(ae->Option Int)->(ae)->Option Int:=fun(rec:ae->Option Int) (x:ae)=>uf (fun t=>rec t) x
def EH(t:ae):Option Int:=ku zB t
theorem MG{t:ae}{r:Int}(h:EH t=some r):CC Pg GE 42 [.agg (af t)] (.int .i64 r) []:=
 cn (F:=zB) (M:=fun(x:ae) (r:Int)=>CC Pg GE 42 [.agg (af x)] (.int .i64 r) []) (fun rec hrec x r h=>KR _ (fun t r h=>hrec t r h) h) h
abbrev ub:=(aa->Option Int)
abbrev yZ(R:ub):Prop:=∀(p:aa) (r:Int),R p=some r->CC Pg GE 17 [.agg (ac p)] (.int .i64 r) []
noncomputable def Yn:Code:=f17.body.getD .skip
def X7:List Nat:=[18]
section
variable(R4:ub)(t7:waB)(t8:Int)(n:Int)(t9:Int)
def jP:ax:=aP 19 [(3,.int .i64 n),(7,sl ac t7),(8,.int .i64 t8),(9,.int .i64 t9)] [.dead] []
def sn(o:Int):ax:=aP 19 [(3,.int .i64 o)] [.dead] []
def nn:Option ((Int×Int)⊕(Int)):=
 if(decide (t9<t8))=true then
  (dt t7 t9).bind fun x2=>
  (R4 x2).bind fun r3=>
  some (.inl (bA (n+r3),bA (t9+1)))
 else
  some (.inr n)
def xi:Option Int:=loop (fun(zz:Int×Int)=>nn R4 t7 t8 zz.1 zz.2) (n,t9)
theorem EA(hR4:yZ R4){y:(Int×Int)⊕(Int)}(h:nn R4 t7 t8 n t9=some y):aL Pg GE 0 (cA Yn 119) (LQ (fun(zz:Int×Int)=>jP t7 t8 zz.1 zz.2) (fun _=>.exit 0) sn y) (jP t7 t8 n t9):=by
 rcases aK h with⟨c1,h⟩|⟨c1,h⟩
 ·obtain⟨x2,bx2,h⟩:=aw h
  obtain⟨r3,br3,h⟩:=aw h
  obtain rfl:=lf h
  have z:=sg 0 c1<|sv (aS.ia (k:=.i64) bx2)<|sv (az x2)<|sx d9<|sx (bp x2)<|sv (aU x2 [])<|aX (hR4 _ _ br3)<|lG 0 .normal (jP t7 t8 (bA (n+r3)) (bA (t9+1))) rfl (cb (aI trivial (aI (up (am ah t7)) (aI trivial (aI trivial trivial))))) (aI trivial trivial)
  exact cc (A:=X7) mixed z<|by kernel_rfl
 ·obtain rfl:=lf h
  have z:=sg 0 c1<|eF (.exit 0) (sn n)
  exact eS X7 (by intro hx;cases hx) z<|by kernel_rfl
theorem GO(hR4:yZ R4){x:Int}(h:xi R4 t7 t8 n t9=some x):aL Pg GE 0 (.loop (cA Yn 119)) (EX (.exit 0) (sn x)) (jP t7 t8 n t9):=
 aL.loop (S:=fun(zz:Int×Int)=>jP t7 t8 zz.1 zz.2) (ex:=(fun _=>.exit 0)) (s:=(n,t9)) h fun zz y hy=>EA R4 t7 t8 zz.1 zz.2 hR4 hy
end
def tR(R4:ub)(p:aa):Option Int:=
 (xi R4 p.Kids (p.Kids.length:Int) 1 0).bind fun o4=>
 some o4
theorem Kx(R4:ub)(hR4:yZ R4){p:aa}{r:Int}(h:tR R4 p=some r):CC Pg GE 17 [.agg (ac p)] (.int .i64 r) []:=by
 obtain⟨o4,bo4,h⟩:=aw h
 obtain rfl:=lf h
 have z:=se (bh p)<|sv (aH p)<|sv (aJ p)<|b9 (aS.ln p.Kids)<|cm (GO R4 p.Kids (p.Kids.length:Int) 1 0 hR4 bo4)<|en (aI (rP (.int .i64 o4))<|trivial)
 exact bo X7 call17 func17 (c:=Yn) rfl (aI (ah p) trivial) z<|by kernel_rfl
def tS:(aa->Option Int)->(aa)->Option Int:=fun(rec:aa->Option Int) (x:aa)=>tR (fun p=>rec p) x
def oz(p:aa):Option Int:=ku tS p
theorem xj{p:aa}{r:Int}(h:oz p=some r):CC Pg GE 17 [.agg (ac p)] (.int .i64 r) []:=
 cn (F:=tS) (M:=fun(x:aa) (r:Int)=>CC Pg GE 17 [.agg (ac x)] (.int .i64 r) []) (fun rec hrec x r h=>Kx _ (fun p r h=>hrec p r h) h) h
noncomputable def b8:Code:=Tryz.f8.body.getD .skip
def A8:List Nat:=[]
section
variable(R2:vS)(t7:waC)(t8:Int)(t9:Int)(m:Int)(m2:ag)(m3:waC)(m4:waA)(m5:Int)(m6:ag)(m7:Int)(m8:waB)(m9:waB)
def MI:ax:=aP 52 [(4,.bptr 0 0),(7,sl af t7),(8,.int .i64 t8),(9,.int .i64 t9)] [.cells [.int .i64 m,.str m2,sl af m3,sl cS m4,.int .i64 m5,.str m6,.int .i64 m7,sl ac m8,sl ac m9] []] []
def ko(o:Bool):ax:=aP 52 [(4,.bptr 0 0),(7,sl af t7),(8,.int .i64 t8),(9,.int .i64 t9),(39,.bool o)] [.cells [.int .i64 m,.str m2,sl af m3,sl cS m4,.int .i64 m5,.str m6,.int .i64 m7,sl ac m8,sl ac m9] []] []
def B7:Option Bool:=
 (EH (⟨m,m2,m3,m4,(⟨m5,m6,m7,m8⟩:aa),m9⟩:ae)).bind fun r3=>
 if(decide (r3>40))=true then
  some true
 else
  (oz (⟨m5,m6,m7,m8⟩:aa)).bind fun r6=>
  if(decide (r6>60))=true then
   some true
  else
   if(decide ((m4.length:Int)>20))=true then
    some true
   else
    if(decide ((m9.length:Int)>20))=true then
     some true
    else
     (R2 m3).bind fun r13=>
     some (!r13)
theorem KS(hR2:Ao R2){x:Bool}(h:B7 R2 m m2 m3 m4 m5 m6 m7 m8 m9=some x):aL Pg GE 0 (cA b8 7148) (EX .normal (ko t7 t8 t9 m m2 m3 m4 m5 m6 m7 m8 m9 x)) (MI t7 t8 t9 m m2 m3 m4 m5 m6 m7 m8 m9):=by
 obtain⟨r3,br3,h⟩:=aw h
 have p5:=fun{sc F} (r:PS sc F)=>sv (bu (⟨m,m2,m3,m4,(⟨m5,m6,m7,m8⟩:aa),m9⟩:ae) [])<|aX (MG br3)<|r
 rcases aK h with⟨c4,h⟩|⟨c4,h⟩
 ·obtain rfl:=lf h
  exact bE A8 (p5<|sg 4 c4<|eF .normal (ko t7 t8 t9 m m2 m3 m4 m5 m6 m7 m8 m9 true))<|by kernel_rfl
 ·obtain⟨r6,br6,h⟩:=aw h
  have p8:=fun{sc F} (r:PS sc F)=>p5<|sg 4 c4<|sv (aU (⟨m5,m6,m7,m8⟩:aa) [sl ac m9])<|aX (xj br6)<|r
  rcases aK h with⟨c7,h⟩|⟨c7,h⟩
  ·obtain rfl:=lf h
   exact bE A8 (p8<|sg 10 c7<|eF .normal (ko t7 t8 t9 m m2 m3 m4 m5 m6 m7 m8 m9 true))<|by kernel_rfl
  ·have p10:=fun{sc F} (r:PS sc F)=>p8<|sg 10 c7<|ss<|b9 (aZ.ln m4)<|r
   rcases aK h with⟨c9,h⟩|⟨c9,h⟩
   ·obtain rfl:=lf h
    exact bE A8 (p10<|sg 16 c9<|eF .normal (ko t7 t8 t9 m m2 m3 m4 m5 m6 m7 m8 m9 true))<|by kernel_rfl
   ·have p12:=fun{sc F} (r:PS sc F)=>p10<|sg 16 c9<|ss<|b9 (aS.ln m9)<|r
    rcases aK h with⟨c11,h⟩|⟨c11,h⟩
    ·obtain rfl:=lf h
     exact bE A8 (p12<|sg 22 c11<|eF .normal (ko t7 t8 t9 m m2 m3 m4 m5 m6 m7 m8 m9 true))<|by kernel_rfl
    ·obtain⟨r13,br13,h⟩:=aw h
     obtain rfl:=lf h
     exact bE A8 (p12<|sg 22 c11<|ss<|aX (hR2 _ _ br13)<|eF .normal (ko t7 t8 t9 m m2 m3 m4 m5 m6 m7 m8 m9 (!r13)))<|by kernel_rfl
end
section
variable(t7:waC)(t8:Int)(t9:Int)(t41:waB)(t42:Int)(m:Int)(m2:ag)(m3:waC)(m4:waA)(m5:Int)(m6:ag)(m7:Int)(m8:waB)(t43:Int)
def nu:ax:=aP 52 [(7,sl af t7),(8,.int .i64 t8),(9,.int .i64 t9),(41,sl ac t41),(42,.int .i64 t42),(43,.int .i64 t43)] [.cells [.int .i64 m,.str m2,sl af m3,sl cS m4,.int .i64 m5,.str m6,.int .i64 m7,sl ac m8,sl ac t41] []] []
def nv(o:Unit⊕(Unit)):Exit:=match o with
 |(.inl _)=>.ret
 |(.inr _)=>.exit 2
def kq(o:Unit⊕(Unit)):ax:=match o with
 |(.inl o)=>aP 52 [(2,.bool false)] [.cells [.int .i64 m,.str m2,sl af m3,sl cS m4,.int .i64 m5,.str m6,.int .i64 m7,sl ac m8,sl ac t41] []] []
 |(.inr o)=>aP 52 [(7,sl af t7),(8,.int .i64 t8),(9,.int .i64 t9)] [.cells [.int .i64 m,.str m2,sl af m3,sl cS m4,.int .i64 m5,.str m6,.int .i64 m7,sl ac m8,sl ac t41] []] []
def Dc:Option (Int⊕(Unit⊕(Unit))):=
 if(decide (t43<t42))=true then
  (dt t41 t43).bind fun x18=>
  (oz x18).bind fun r19=>
  if(decide (r19>60))=true then
   some (.inr (.inl ()))
  else
   some (.inl (bA (t43+1)))
 else
  some (.inr (.inr ()))
def B9:Option (Unit⊕(Unit)):=loop (fun(zz:Int)=>Dc t41 t42 zz) t43
theorem II{y:Int⊕(Unit⊕(Unit))}(h:Dc t41 t42 t43=some y):aL Pg GE 0 (cA b8 28607) (LQ (fun(zz:Int)=>nu t7 t8 t9 t41 t42 m m2 m3 m4 m5 m6 m7 m8 zz) nv (kq t7 t8 t9 t41 m m2 m3 m4 m5 m6 m7 m8) y) (nu t7 t8 t9 t41 t42 m m2 m3 m4 m5 m6 m7 m8 t43):=by
 rcases aK h with⟨c17,h⟩|⟨c17,h⟩
 ·obtain⟨x18,bx18,h⟩:=aw h
  obtain⟨r19,br19,h⟩:=aw h
  have p21:=fun{sc F} (r:PS sc F)=>sg 0 c17<|sv (aS.ia (k:=.i64) bx18)<|sv (az x18)<|sx d9<|sx (bp x18)<|sv (aU x18 [])<|aX (xj br19)<|r
  rcases aK h with⟨c20,h⟩|⟨c20,h⟩
  ·obtain rfl:=lf h
   have z:=p21<|sg 0 c20<|lG 0 (nv (.inl ())) (kq t7 t8 t9 t41 m m2 m3 m4 m5 m6 m7 m8 (.inl ())) rfl (cb (aI trivial trivial)) (aI (aI trivial (aI trivial (aI (up (am aj m3)) (aI (up (am d8 m4)) (aI trivial (aI trivial (aI trivial (aI (up (am ah m8)) (aI (up (am ah t41)) trivial))))))))) trivial)
   exact mC (A:=A8) mixed (by intro hx;cases hx) z<|by kernel_rfl
  ·obtain rfl:=lf h
   have z:=p21<|sg 0 c20<|lG 0 .normal (nu t7 t8 t9 t41 t42 m m2 m3 m4 m5 m6 m7 m8 (bA (t43+1))) rfl (cb (aI (up (am aj t7)) (aI trivial (aI trivial (aI (up (am ah t41)) (aI trivial (aI trivial trivial))))))) (aI (aI trivial (aI trivial (aI (up (am aj m3)) (aI (up (am d8 m4)) (aI trivial (aI trivial (aI trivial (aI (up (am ah m8)) (aI (up (am ah t41)) trivial))))))))) trivial)
   exact cc (A:=A8) mixed z<|by kernel_rfl
 ·obtain rfl:=lf h
  have z:=sg 0 c17<|eF (nv (.inr ())) (kq t7 t8 t9 t41 m m2 m3 m4 m5 m6 m7 m8 (.inr ()))
  exact eS A8 (by intro hx;cases hx) z<|by kernel_rfl
theorem Bl{x:Unit⊕(Unit)}(h:B9 t41 t42 t43=some x):aL Pg GE 0 (.loop (cA b8 28607)) (EX (nv x) (kq t7 t8 t9 t41 m m2 m3 m4 m5 m6 m7 m8 x)) (nu t7 t8 t9 t41 t42 m m2 m3 m4 m5 m6 m7 m8 t43):=
 aL.loop (S:=fun(zz:Int)=>nu t7 t8 t9 t41 t42 m m2 m3 m4 m5 m6 m7 m8 zz) (ex:=nv) (s:=t43) h fun zz y hy=>II t7 t8 t9 t41 t42 m m2 m3 m4 m5 m6 m7 m8 zz hy
end
section
variable(R2:vS)(t7:waC)(t8:Int)(t9:Int)
def nr:ax:=aP 52 [(7,sl af t7),(8,.int .i64 t8),(9,.int .i64 t9)] [] []
def kp(o:Unit⊕(Unit)):Exit:=match o with
 |(.inl _)=>.ret
 |(.inr _)=>.exit 0
def g9(o:Unit⊕(Unit)):ax:=match o with
 |(.inl o)=>aP 52 [(2,.bool false)] [] []
 |(.inr o)=>aP 52 [] [] []
def Db:Option (Int⊕(Unit⊕(Unit))):=
 if (decide (t9 < t8)) = true then
  (dt t7 t9).bind fun x2=>
  (B7 R2 x2.Op x2.Name x2.Args x2.Names x2.Pred.Op x2.Pred.Name x2.Pred.N x2.Pred.Kids x2.Preds).bind fun o14=>
  if o14=true then
   some (.inr (.inl ()))
  else
   (B9 x2.Preds (x2.Preds.length:Int) 0).bind fun o22=>match o22 with
   |(.inl o22)=>
    some (.inr (.inl ()))
   |(.inr o22)=>
    some (.inl (bA (t9+1)))
 else
  some (.inr (.inr ()))
def B8:Option (Unit⊕(Unit)):=loop (fun(zz:Int)=>Db R2 t7 t8 zz) t9
theorem IH(hR2:Ao R2){y:Int⊕(Unit⊕(Unit))}(h:Db R2 t7 t8 t9=some y):aL Pg GE 0 (cA b8 55) (LQ (fun(zz:Int)=>nr t7 t8 zz) kp g9 y) (nr t7 t8 t9):=by
 rcases aK h with⟨c1,h⟩|⟨c1,h⟩
 ·obtain⟨x2,bx2,h⟩:=aw h
  obtain⟨o14,bo14,h⟩:=aw h
  have p16:=fun{sc F} (r:PS sc F)=>sg 0 c1<|sv (cJ.ia (k:=.i64) bx2)<|sv (aQ x2)<|sx jl<|sx (cu x2)<|jC 1<|cm (KS R2 t7 t8 t9 x2.Op x2.Name x2.Args x2.Names x2.Pred.Op x2.Pred.Name x2.Pred.N x2.Pred.Kids x2.Preds hR2 bo14)<|r
  rcases aK h with⟨c15,h⟩|⟨c15,h⟩
  ·obtain rfl:=lf h
   have z:=p16<|sg 0 c15<|lG 0 (kp (.inl ())) (g9 (.inl ())) rfl (cb (aI trivial trivial)) trivial
   exact mC (A:=A8) mixed (by intro hx;cases hx) z<|by kernel_rfl
  ·obtain⟨o22,bo22,h⟩:=aw h
   rcases o22 with o22|o22
   ·obtain rfl:=lf h
    have z:=p16<|sg 0 c15<|ss<|b9 (aS.ln x2.Preds)<|cm (e:=.ret) (s1:=kq t7 t8 t9 x2.Preds x2.Op x2.Name x2.Args x2.Names x2.Pred.Op x2.Pred.Name x2.Pred.N x2.Pred.Kids (.inl o22)) (Bl t7 t8 t9 x2.Preds (x2.Preds.length:Int) x2.Op x2.Name x2.Args x2.Names x2.Pred.Op x2.Pred.Name x2.Pred.N x2.Pred.Kids 0 bo22)<|lG 0 (kp (.inl ())) (g9 (.inl ())) rfl (cb (aI trivial trivial)) trivial
    exact mC (A:=A8) mixed (by intro hx;cases hx) z<|by kernel_rfl
   ·obtain rfl:=lf h
    have z:=p16<|sg 0 c15<|ss<|b9 (aS.ln x2.Preds)<|cm (e:=.exit 2) (s1:=kq t7 t8 t9 x2.Preds x2.Op x2.Name x2.Args x2.Names x2.Pred.Op x2.Pred.Name x2.Pred.N x2.Pred.Kids (.inr o22)) (Bl t7 t8 t9 x2.Preds (x2.Preds.length:Int) x2.Op x2.Name x2.Args x2.Names x2.Pred.Op x2.Pred.Name x2.Pred.N x2.Pred.Kids 0 bo22)<|lG 0 .normal (nr t7 t8 (bA (t9+1))) rfl (cb (aI (up (am aj t7)) (aI trivial (aI trivial trivial)))) trivial
    exact cc (A:=A8) mixed z<|by kernel_rfl
 ·obtain rfl:=lf h
  have z:=sg 0 c1<|eF (kp (.inr ())) (g9 (.inr ()))
  exact eS A8 (by intro hx;cases hx) z<|by kernel_rfl
theorem Bk(hR2:Ao R2){x:Unit⊕(Unit)}(h:B8 R2 t7 t8 t9=some x):aL Pg GE 0 (.loop (cA b8 55)) (EX (kp x) (g9 x)) (nr t7 t8 t9):=
 aL.loop (S:=fun(zz:Int)=>nr t7 t8 zz) (ex:=kp) (s:=t9) h fun zz y hy=>IH R2 t7 t8 zz hR2 hy
end
def As(R2:vS)(a:waC):Option Bool:=
 (B8 R2 a (a.length:Int) 0).bind fun o23=>match o23 with
 |(.inl o23)=>
  some false
 |(.inr o23)=>
  some true
theorem NS(R2:vS)(hR2:Ao R2){a:waC}{r:Bool}(h:As R2 a=some r):CC Pg GE 8 [sl af a] (.bool r) []:=by
 obtain⟨o23,bo23,h⟩:=aw h
 rcases o23 with o23|o23
 ·obtain rfl:=lf h
  have z:=b9 (cJ.ln a)<|cm (e:=.ret) (s1:=g9 (.inl o23)) (Bk R2 a (a.length:Int) 0 hR2 bo23)<|en (aI (rP (.bool false))<|trivial)
  exact bo A8 call8 func8 (c:=b8) rfl (aI (am aj a) trivial) z<|by kernel_rfl
 ·obtain rfl:=lf h
  have z:=b9 (cJ.ln a)<|cm (e:=.exit 0) (s1:=g9 (.inr o23)) (Bk R2 a (a.length:Int) 0 hR2 bo23)<|en (aI (rP (.bool true))<|trivial)
  exact bo A8 call8 func8 (c:=b8) rfl (aI (am aj a) trivial) z<|by kernel_rfl
def EJ:(waC->Option Bool)->(waC)->Option Bool:=fun(rec:waC->Option Bool) (x:waC)=>As (fun a=>rec a) x
def MH(a:waC):Option Bool:=ku EJ a
theorem Pd{a:waC}{r:Bool}(h:MH a=some r):CC Pg GE 8 [sl af a] (.bool r) []:=
 cn (F:=EJ) (M:=fun(x:waC) (r:Bool)=>CC Pg GE 8 [sl af x] (.bool r) []) (fun rec hrec x r h=>NS _ (fun a r h=>hrec a r h) h) h
noncomputable def Z9:Code:=f44.body.getD .skip
def ZR:List Nat:=[]
def pY(s:ag):Option aa:=
 some (⟨3,s,0,([]:List aa)⟩:aa)
theorem eB{s:ag}{r:aa}(h:pY s=some r):CC Pg GE 44 [.str s] (.agg (ac r)) [(3,28)]:=by
 obtain rfl:=lf h
 have z:=sx d9<|sb (rj 3 s) (rf 3 s)<|sy (aR (⟨3,s,0,([]:List aa)⟩:aa))<|en (aI (dG (⟨3,s,0,([]:List aa)⟩:aa))<|aI (ah (⟨3,s,0,([]:List aa)⟩:aa))<|rT)
 exact bo ZR call44 func44 (c:=Z9) rfl (aI trivial trivial) z<|by kernel_rfl
noncomputable def qaa:Code:=f45.body.getD .skip
def ZS:List Nat:=[]
def IJ(k:Int):Option aa:=
 some (⟨1,([]:ag),k,([]:List aa)⟩:aa)
theorem vU{k:Int}{r:aa}(h:IJ k=some r):CC Pg GE 45 [.int .i64 k] (.agg (ac r)) [(3,28)]:=by
 obtain rfl:=lf h
 have z:=sx d9<|sb (nx 1 k) (nw 1 k)<|sy (aR (⟨1,([]:ag),k,([]:List aa)⟩:aa))<|en (aI (dG (⟨1,([]:ag),k,([]:List aa)⟩:aa))<|aI (ah (⟨1,([]:ag),k,([]:List aa)⟩:aa))<|rT)
 exact bo ZS call45 func45 (c:=qaa) rfl (aI trivial trivial) z<|by kernel_rfl
noncomputable def Z8:Code:=f43.body.getD .skip
def ZQ:List Nat:=[]
def oG(a:Int)(a2:waB):Option aa:=
 some (⟨a,([]:ag),0,a2⟩:aa)
theorem fu{a:Int}{a2:waB}{r:aa}(h:oG a a2=some r):CC Pg GE 43 [.int .i64 a,sl ac a2] (.agg (ac r)) []:=by
 obtain rfl:=lf h
 have z:=sx d9<|sv (rl a a2)<|sx (bp (⟨a,([]:ag),0,a2⟩:aa))<|en (aI (dG (⟨a,([]:ag),0,a2⟩:aa))<|(ah (⟨a,([]:ag),0,a2⟩:aa)))
 exact bo ZQ call43 func43 (c:=Z8) rfl (aI trivial (aI (am ah a2) trivial)) z<|by kernel_rfl
noncomputable def qab:Code:=f46.body.getD .skip
def ZT:List Nat:=[]
def gT(p:aa):Option ae:=
 some (⟨1,([]:ag),([]:List ae),([]:List ag),p,([]:List aa)⟩:ae)
theorem eY{p:aa}{r:ae}(h:gT p=some r):CC Pg GE 46 [.agg (ac p)] (.agg (af r)) [(2,30),(3,9),(8,28)]:=by
 obtain rfl:=lf h
 have z:=se (bh p)<|sx jl<|sv (az p)<|sb (MP 1 p) (MO 1 p)<|sy (ba (⟨1,([]:ag),([]:List ae),([]:List ag),p,([]:List aa)⟩:ae))<|en (aI (dH (⟨1,([]:ag),([]:List ae),([]:List ag),p,([]:List aa)⟩:ae))<|aI (aj (⟨1,([]:ag),([]:List ae),([]:List ag),p,([]:List aa)⟩:ae))<|rT)
 exact bo ZT call46 func46 (c:=qab) rfl (aI (ah p) trivial) z<|by kernel_rfl
noncomputable def qac:Code:=f47.body.getD .skip
def ZU:List Nat:=[]
def HI(name:ag)(result:ae):Option ae:=
 (gT (⟨0,([]:ag),0,([]:List aa)⟩:aa)).bind fun r1=>
 some (⟨6,([]:ag),([r1,result]:List ae),([name]:List ag),(⟨0,([]:ag),0,([]:List aa)⟩:aa),([]:List aa)⟩:ae)
theorem Ca{name:ag}{result:ae}{r:ae}(h:HI name result=some r):CC Pg GE 47 [.str name,.agg (af result)] (.agg (af r)) [(7,28),(8,28)]:=by
 obtain⟨r1,br1,h⟩:=aw h
 obtain rfl:=lf h
 have z:=se (bH result)<|sx jl<|CO [0,1,0,4,0,28,63,127]<|sv (aZ.mk' (v:=PVal.str) Ge ([name]:List ag) 1 (by kernel_rfl))<|sb (sM) (sK)<|aX (eY br1)<|sv (aQ result)<|sv (cJ.mk' (v:=AR) wq ([r1,result]:List ae) 2 (by kernel_rfl))<|sb (IP 6 ([name]:List ag) ([r1,result]:List ae)) (IN 6 ([name]:List ag) ([r1,result]:List ae))<|UL (cu (⟨6,([]:ag),([r1,result]:List ae),([name]:List ag),(⟨0,([]:ag),0,([]:List aa)⟩:aa),([]:List aa)⟩:ae))<|en (aI (dH (⟨6,([]:ag),([r1,result]:List ae),([name]:List ag),(⟨0,([]:ag),0,([]:List aa)⟩:aa),([]:List aa)⟩:ae))<|aI (aj (⟨6,([]:ag),([r1,result]:List ae),([name]:List ag),(⟨0,([]:ag),0,([]:List aa)⟩:aa),([]:List aa)⟩:ae))<|rT)
 exact bo ZU call47 func47 (c:=qac) rfl (aI trivial (aI (aj result) trivial)) z<|by kernel_rfl
noncomputable def T8:Code:=f106.body.getD .skip
def Sj:List Nat:=[10,17]
section
variable(s:waA)(v:ag)(t7:Int)(t8:Int)
def fX:ax:=aP 19 [(0,sl cS s),(1,.str v),(7,.int .i64 t7),(8,.int .i64 t8)] [] []
def fY(o:Int⊕(Unit)):Exit:=match o with
 |(.inl _)=>.ret
 |(.inr _)=>.exit 0
def ew(o:Int⊕(Unit)):ax:=match o with
 |(.inl o)=>aP 19 [(4,.int .i64 o)] [] []
 |(.inr o)=>aP 19 [] [] []
def dD:Option (Int⊕(Int⊕(Unit))):=
 if(decide (t8<t7))=true then
  (dt s t8).bind fun x2=>
  if(v==x2)=true then
   some (.inr (.inl t8))
  else
   some (.inl (bA (t8+1)))
 else
  some (.inr (.inr ()))
def qB:Option (Int⊕(Unit)):=loop (fun(zz:Int)=>dD s v t7 zz) t8
theorem Bd{y:Int⊕(Int⊕(Unit))}(h:dD s v t7 t8=some y):aL Pg GE 0 (cA T8 55) (LQ (fun(zz:Int)=>fX s v t7 zz) fY ew y) (fX s v t7 t8):=by
 rcases aK h with⟨c1,h⟩|⟨c1,h⟩
 ·obtain⟨x2,bx2,h⟩:=aw h
  have p4:=fun{sc F} (r:PS sc F)=>sg 0 c1<|sv (aZ.ia (k:=.i64) bx2)<|sv (dB Es (.str x2) [])<|r
  rcases aK h with⟨c3,h⟩|⟨c3,h⟩
  ·obtain rfl:=lf h
   have z:=p4<|sg 0 c3<|eF (fY (.inl t8)) (ew (.inl t8))
   exact eS Sj (by intro hx;cases hx) z<|by kernel_rfl
  ·obtain rfl:=lf h
   exact vJ Sj (p4<|sg 0 c3<|eF .normal (fX s v t7 (bA (t8+1))))<|by kernel_rfl
 ·obtain rfl:=lf h
  have z:=sg 0 c1<|eF (fY (.inr ())) (ew (.inr ()))
  exact eS Sj (by intro hx;cases hx) z<|by kernel_rfl
theorem tx{x:Int⊕(Unit)}(h:qB s v t7 t8=some x):aL Pg GE 0 (.loop (cA T8 55)) (EX (fY x) (ew x)) (fX s v t7 t8):=
 aL.loop (S:=fun(zz:Int)=>fX s v t7 zz) (ex:=fY) (s:=t8) h fun zz y hy=>Bd s v t7 zz hy
end
def oc(s:waA)(v:ag):Option Int:=
 (qB s v (s.length:Int) 0).bind fun o5=>match o5 with
 |(.inl o5)=>
  some o5
 |(.inr o5)=>
  some (-1)
theorem yH{s:waA}{v:ag}{r:Int}(h:oc s v=some r):CC Pg GE 106 [sl cS s,.str v] (.int .i64 r) []:=by
 obtain⟨o5,bo5,h⟩:=aw h
 rcases o5 with o5|o5
 ·obtain rfl:=lf h
  have z:=b9 (aZ.ln s)<|cm (e:=.ret) (s1:=ew (.inl o5)) (tx s v (s.length:Int) 0 bo5)<|en (aI (rP (.int .i64 o5))<|trivial)
  exact bo Sj call106 func106 (c:=T8) rfl (aI (am d8 s) (aI trivial trivial)) z<|by kernel_rfl
 ·obtain rfl:=lf h
  have z:=b9 (aZ.ln s)<|cm (e:=.exit 0) (s1:=ew (.inr o5)) (tx s v (s.length:Int) 0 bo5)<|en (aI (rP (.int .i64 (-1)))<|trivial)
  exact bo Sj call106 func106 (c:=T8) rfl (aI (am d8 s) (aI trivial trivial)) z<|by kernel_rfl
noncomputable def qaj:Code:=f66.body.getD .skip
def Z1:List Nat:=[]
def da(s:waA)(v:ag):Option Bool:=
 (oc s v).bind fun r1=>
 some (decide (r1>=0))
theorem dX{s:waA}{v:ag}{r:Bool}(h:da s v=some r):CC Pg GE 66 [sl cS s,.str v] (.bool r) []:=by
 obtain⟨r1,br1,h⟩:=aw h
 obtain rfl:=lf h
 have z:=aX (yH br1)<|en (aI (rP (.bool (decide (r1>=0))))<|trivial)
 exact bo Z1 call66 func66 (c:=qaj) rfl (aI (am d8 s) (aI trivial trivial)) z<|by kernel_rfl
noncomputable def XV:Code:=f49.body.getD .skip
def Wg:List Nat:=[13,28,34]
section
variable(hidden:waA)(s:ai)(i:Int)(n:ag)(t9:waA)(t10:Int)(m:waB)(m2:waA)(m3:waB)
def mY:ax:=aP 45 [(1,sl cS hidden),(2,.eptr (aq s)),(4,.bptr 1 0),(5,.bptr 2 0),(6,.int .i64 i),(7,.str n),(9,sl cS t9),(10,.int .i64 t10),(11,.int .i64 i)] [.dead,.cells [sl cS ([]:List ag),sl ac m] [(0,9),(1,28)],.cells [sl cS m2,sl ac m3] [(0,9),(1,28)]] []
def dp(o:Bool):ax:=aP 45 [(1,sl cS hidden),(2,.eptr (aq s)),(4,.bptr 1 0),(5,.bptr 2 0),(6,.int .i64 i),(7,.str n),(9,sl cS t9),(10,.int .i64 t10),(11,.int .i64 i),(26,.bool o)] [.dead,.cells [sl cS ([]:List ag),sl ac m] [(0,9),(1,28)],.cells [sl cS m2,sl ac m3] [(0,9),(1,28)]] []
def gg:Option Bool:=
 (da hidden n).bind fun r3=>
 if(!r3)=true then
  (da m2 n).bind fun r5=>
  some (!r5)
 else
  some false
theorem mJ{x:Bool}(h:gg hidden n m2=some x):aL Pg GE 0 (cA XV 7670) (EX .normal (dp hidden s i n t9 t10 m m2 m3 x)) (mY hidden s i n t9 t10 m m2 m3):=by
 obtain⟨r3,br3,h⟩:=aw h
 rcases aK h with⟨c4,h⟩|⟨c4,h⟩
 ·obtain⟨r5,br5,h⟩:=aw h
  obtain rfl:=lf h
  exact bE Wg (aX (dX br3)<|sg 5 c4<|ss<|aX (dX br5)<|eF .normal (dp hidden s i n t9 t10 m m2 m3 (!r5)))<|by kernel_rfl
 ·obtain rfl:=lf h
  exact bE Wg (aX (dX br3)<|sg 5 c4<|eF .normal (dp hidden s i n t9 t10 m m2 m3 false))<|by kernel_rfl
end
section
variable(hidden:waA)(s:ai)(t9:waA)(t10:Int)(m:waB)(t11:Int)(m2:waA)(m3:waB)
def bR:ax:=aP 45 [(1,sl cS hidden),(2,.eptr (aq s)),(4,.bptr 1 0),(5,.bptr 2 0),(9,sl cS t9),(10,.int .i64 t10),(11,.int .i64 t11)] [.dead,.cells [sl cS ([]:List ag),sl ac m] [(0,9),(1,28)],.cells [sl cS m2,sl ac m3] [(0,9),(1,28)]] []
def dq(o:waA×waB):ax:=aP 45 [(4,.bptr 1 0),(5,.bptr 2 0)] [.dead,.cells [sl cS ([]:List ag),sl ac m] [(0,9),(1,28)],.cells [sl cS o.1,sl ac o.2] [(0,9),(1,28)]] []
def fk:Option ((Int×waA×waB)⊕((waA×waB))):=
 if(decide (t11<t10))=true then
  (dt t9 t11).bind fun x2=>
  (gg hidden x2 m2).bind fun o6=>
  if o6=true then
   (app m2 ([x2]:List ag)).bind fun l9=>
   (dt s.by_ t11).bind fun x10=>
   (app m3 ([x10]:List aa)).bind fun l11=>
   some (.inl (bA (t11+1),l9,l11))
  else
   some (.inl (bA (t11+1),m2,m3))
 else
  some (.inr (m2,m3))
def gh:Option ((waA×waB)):=loop (fun(zz:Int×waA×waB)=>fk hidden s t9 t10 zz.1 zz.2.1 zz.2.2) (t11,m2,m3)
theorem lX{y:(Int×waA×waB)⊕((waA×waB))}(h:fk hidden s t9 t10 t11 m2 m3=some y):aL Pg GE 0 (cA XV 119) (LQ (fun(zz:Int×waA×waB)=>bR hidden s t9 t10 m zz.1 zz.2.1 zz.2.2) (fun _=>.exit 0) (dq m) y) (bR hidden s t9 t10 m t11 m2 m3):=by
 rcases aK h with⟨c1,h⟩|⟨c1,h⟩
 ·obtain⟨x2,bx2,h⟩:=aw h
  obtain⟨o6,bo6,h⟩:=aw h
  have p8:=fun{sc F} (r:PS sc F)=>sg 0 c1<|sv (aZ.ia (k:=.i64) bx2)<|sv (dB Es (.str x2) [])<|jC 0<|cm (mJ hidden s t11 x2 t9 t10 m m2 m3 bo6)<|r
  rcases aK h with⟨c7,h⟩|⟨c7,h⟩
  ·obtain⟨l9,bl9,h⟩:=aw h
   obtain⟨x10,bx10,h⟩:=aw h
   obtain⟨l11,bl11,h⟩:=aw h
   obtain rfl:=lf h
   exact vJ Wg (p8<|sg 0 c7<|sv (aZ.mk' (v:=PVal.str) Ge ([x2]:List ag) 1 (by kernel_rfl))<|sv (aZ.ap bl9)<|CO [0,1,0,4,0,28,60,124,255,511,1023]<|sv (ey s)<|sv (ez s)<|sv (aS.ia (k:=.i64) bx10)<|sv (az x10)<|sv (aS.mk' (v:=cj) bz ([x10]:List aa) 1 (by kernel_rfl))<|sv (aS.ap bl11)<|V1 (rfl:ct (sl ac l11)=some [sl ac l11])<|eF .normal (bR hidden s t9 t10 m (bA (t11+1)) l9 l11))<|by kernel_rfl
  ·obtain rfl:=lf h
   exact vJ Wg (p8<|sg 0 c7<|eF .normal (bR hidden s t9 t10 m (bA (t11+1)) m2 m3))<|by kernel_rfl
 ·obtain rfl:=lf h
  have z:=sg 0 c1<|eF (.exit 0) (dq m (m2,m3))
  exact eS Wg (by intro hx;cases hx) z<|by kernel_rfl
theorem mK{x:(waA×waB)}(h:gh hidden s t9 t10 t11 m2 m3=some x):aL Pg GE 0 (.loop (cA XV 119)) (EX (.exit 0) (dq m x)) (bR hidden s t9 t10 m t11 m2 m3):=
 aL.loop (S:=fun(zz:Int×waA×waB)=>bR hidden s t9 t10 m zz.1 zz.2.1 zz.2.2) (ex:=(fun _=>.exit 0)) (s:=(t11,m2,m3)) h fun zz y hy=>lX hidden s t9 t10 m zz.1 zz.2.1 zz.2.2 hy
end
def cZ(s:ai)(hidden:waA):Option ai:=
 (gh hidden s s.names (s.names.length:Int) 0 ([]:List ag) ([]:List aa)).bind fun o12=>
 some (⟨o12.1,o12.2⟩:ai)
theorem dK{s:ai}{hidden:waA}{r:ai}(h:cZ s hidden=some r):CC Pg GE 49 [.agg (aq s),sl cS hidden] (.agg (aq r)) [(0,9),(1,28)]:=by
 obtain⟨o12,bo12,h⟩:=aw h
 obtain rfl:=lf h
 have z:=se (cG s)<|sx Qa<|sx Qa<|sv (io s)<|sv (iq s)<|b9 (aZ.ln s.names)<|cm (mK hidden s s.names (s.names.length:Int) ([]:List aa) 0 ([]:List ag) ([]:List aa) bo12)<|sz (bQ (⟨o12.1,o12.2⟩:ai) [])<|sy (bZ (⟨o12.1,o12.2⟩:ai))<|en (aI (lY (⟨o12.1,o12.2⟩:ai))<|aI (aY (⟨o12.1,o12.2⟩:ai))<|rT)
 exact bo Wg call49 func49 (c:=XV) rfl (aI (aY s) (aI (am d8 hidden) trivial)) z<|by kernel_rfl
abbrev bK:=(ai->ae->Option ae)
abbrev ch(R:bK):Prop:=∀(s:ai) (t:ae) (r:ae),R s t=some r->CC Pg GE 50 [.agg (aq s),.agg (af t)] (.agg (af r)) [(2,30)]
abbrev mb:=(aa->waA->waB->Option aa)
abbrev ql(R:mb):Prop:=∀(p:aa) (a:waA) (a2:waB) (r:aa),R p a a2=some r->CC Pg GE 101 [.agg (ac p),sl cS a,sl ac a2] (.agg (ac r)) [(3,28)]
noncomputable def Yk:Code:=f121.body.getD .skip
def X4:List Nat:=[]
def Cp(a:waA)(s:ag):Option Int:=
 (oc a s).bind fun r1=>
 some r1
theorem Bx{a:waA}{s:ag}{r:Int}(h:Cp a s=some r):CC Pg GE 121 [sl cS a,.str s] (.int .i64 r) []:=by
 obtain⟨r1,br1,h⟩:=aw h
 obtain rfl:=lf h
 have z:=aX (yH br1)<|en (aI (rP (.int .i64 r1))<|trivial)
 exact bo X4 call121 func121 (c:=Yk) rfl (aI (am d8 a) (aI trivial trivial)) z<|by kernel_rfl
abbrev pg:=(aa->Option aa)
abbrev uM(R:pg):Prop:=∀(p:aa) (r:aa),R p=some r->CC Pg GE 99 [.agg (ac p)] (.agg (ac r)) [(3,28)]
end Go.Proofs.YtggeppllafbidaaGreatDoor
