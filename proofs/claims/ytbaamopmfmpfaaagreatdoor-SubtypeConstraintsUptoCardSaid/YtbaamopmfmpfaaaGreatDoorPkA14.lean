/- PROVED: parts of the proof (GL VisC VisD VisE VisF). Conditions: none. -/
import Derived.Test.YtbaamopmfmpfaaaGreatDoorPkA13
import Derived.Test.YtbaamopmfmpfaaaGreatDoorPkA10
import Derived.Test.YtbaamopmfmpfaaaGreatDoorPkA12
import Derived.Shelf.Strconv.Itoa3
import Derived.Shelf.Sort.Plain
import Derived.Shelf.Slices.In.CompactS
import Derived.Shelf.Slices.In.SortNone
noncomputable section
namespace Go.Proofs.YtbaamopmfmpfaaaGreatDoor
open Go
set_option linter.unusedVariables false
set_option maxRecDepth 100000
def VF{S:Type}(J:Bool->S->bw->World->Prop)(Γ0:bw)(w0:World)(b:Bool)(s:S)(st:aA)(a:Array Value)(w:World):Prop:=∃Γ,J b s Γ w/\Γ0.Le w0 Γ w/\∃E bs ow,SR Pg E Γ bs ow w a st
structure Dd(st:aA)(k:Nat):Prop where
 c:iy 0 st.tmps
 b:st.boxes=List.replicate k .dead
 o:st.own=[]
structure R4(c:Code):Prop where
 eq:c=.region (qjs c) (pk c) false
 rg:List.range (pk c).size=[0,1]++2::([3]++[])
 p1:[0,1].map (fun i=>(pk c)[i]?)=((pk c).toList.take 2).map some
 p2:((pk c).toList.take 2).all QP=true
 o:(pk c)[2]? =some (Z5 c 2)
 g:(Z5 c 2).guard=none
 q1:[3].map (fun i=>(pk c)[i]?)=((pk c).toList.drop 3).map some
 q2:((pk c).toList.drop 3).all QP=true
theorem qkl:R4 qfu:=⟨by kernel_rfl,by kernel_rfl,by kernel_rfl,by kernel_rfl,by kernel_rfl,by kernel_rfl,by kernel_rfl,by kernel_rfl⟩
theorem qkm:R4 qfv:=⟨by kernel_rfl,by kernel_rfl,by kernel_rfl,by kernel_rfl,by kernel_rfl,by kernel_rfl,by kernel_rfl,by kernel_rfl⟩
theorem qg7:(Z5 qfu 2).op=.call {callee:=.value (.tmp 7),args:=#[.tmp 8],argTypes:=qg6 (Z5 qfu 2)}:=by kernel_rfl
theorem qiS:(Z5 qfu 2).dst=some 9:=by kernel_rfl
theorem qg8:(Z5 qfv 2).op=.call {callee:=.value (.func fV),args:=#[.tmp 18,.tmp 19],argTypes:=qg6 (Z5 qfv 2)}:=by kernel_rfl
theorem qiT:(Z5 qfv 2).dst=some 20:=by kernel_rfl
section
variable{S:Type}{step:S->aa->Option (Bool×S)}{J:Bool->S->bw->World->Prop}{l:Nat}{Γ0:bw}{w0:World}{b:Bool}{s:S}{st0 st1 stA stB:aA}{k kA kB:Nat}{a:Array Value}{w:World}{n:Nat}{ds:List Deferred}
theorem VF.again(hY:Yd Pg GE l ac step J)(hD:Dd st0 k)(h:VF J Γ0 w0 b s st0 a w):∃Γ,J b s Γ w/\Γ0.Le w0 Γ w/\SR Pg (V5 GE Γ w) Γ (List.replicate k none) (fun _=>none) w a st0:=by
 obtain⟨Γ,hJ,hle,E,bs,ow,hS⟩:=h
 obtain⟨tm,H,own⟩:=st0
 have hb:H=_:=hD.b
 have ho:own=[]:=hD.o
 subst hb;subst ho
 exact⟨Γ,hJ,hle,hS.again hD.c (hY.base _ _ _ _ hJ) (.refl _ _) k⟩
theorem VF.redo(hY:Yd Pg GE l ac step J)(hD:Dd st0 k)(h:VF J Γ0 w0 b s st0 a w)(k':Nat):VF J Γ0 w0 b s ⟨st0.tmps,List.replicate k' .dead,[]⟩ a w:=by
 obtain⟨Γ,hJ,hle,hS⟩:=h.again hY hD
 exact⟨Γ,hJ,hle,_,_,_,hS.again hD.c (hY.base _ _ _ _ hJ) (.refl _ _) k'⟩
theorem VF.piece(hY:Yd Pg GE l ac step J){c:Code}{e:Exit}(hS:aU Pg GE 0 c (EX e st1) st0)(hD:Dd st0 k)(h:VF J Γ0 w0 b s st0 a w):
  c.wpIn Fence.wide n Pg (fun e' a' w'=>e'=e/\a'.defers=ds/\VF J Γ0 w0 b s st1 a'.tmps w') ⟨a,ds⟩ w:=by
 obtain⟨Γ,hJ,hle,hR⟩:=h.again hY hD
 refine wpIn_mono (hS.wide (hY.base _ _ _ _ hJ) hR n ds) ?_
 rintro e' a' w' ⟨hd,Γ',bs',ow',st',h',rfl,rfl⟩
 exact⟨rfl,hd,Γ',hY.side _ _ _ _ hJ _ _ _ _ _ _ h',hle.trans h'.step.le,_,_,_,h'⟩
theorem VF.reg(hY:Yd Pg GE l ac step J){c:Code}(hR:R4 c)(hD:Dd st0 k)(hDB:Dd stB kB)(hpre:dJ Pg GE [] (pk c) (fun st=>FG st stA) ((pk c).toList.take 2) 0 st0)(hsuf:dJ Pg GE [] (pk c) (fun st=>FG st st1) ((pk c).toList.drop 3) 0 stB){r:Bool×S}
  (hcall:∀a w (pj:Act->World->Prop) (Q:Exit->Act->World->Prop),VF J Γ0 w0 b s stA a w->(∀a' w',VF J Γ0 w0 r.1 r.2 stB a' w'->pj ⟨a',ds⟩ w')->(Z5 c 2).wpIn Fence.wide n Pg ⟨a,ds⟩ w pj Q)
  (h:VF J Γ0 w0 b s st0 a w):c.wpIn Fence.wide n Pg (fun e' a' w'=>e'=.normal/\a'.defers=ds/\VF J Γ0 w0 r.1 r.2 st1 a'.tmps w') ⟨a,ds⟩ w:=by
 have key:(Code.region (qjs c) (pk c) false).wpIn Fence.wide n Pg (fun e' a' w'=>e'=.normal/\a'.defers=ds/\VF J Γ0 w0 r.1 r.2 st1 a'.tmps w') ⟨a,ds⟩ w:=by
  refine wpIn_region ?_
  rw[hR.rg]
  obtain⟨Γ,hJ,hle,hS⟩:=h.again hY hD
  refine Gd (A:=[]) (K:=fun st=>FG st stA) (fun Γ' bs' ow' a' w' st hS' hK=>?_) _ _ Γ _ _ a w st0 hR.p1 (LT hR.p2) hS hpre
  obtain⟨Γ2,bs2,ow2,hS2⟩:=FG.sr hS' hK
  refine Ip hR.o hR.g (hcall a' w' _ _ ⟨Γ2,hY.side _ _ _ _ hJ _ _ _ _ _ _ hS2,hle.trans hS2.step.le,_,_,_,hS2⟩ fun a3 w3 h3=>?_)
  obtain⟨Γ3,hJ3,hle3,hS3⟩:=h3.again hY hDB
  refine Gd (A:=[]) (K:=fun st=>FG st st1) (fun Γ' bs' ow' a' w' st hS' hK=>?_) _ _ Γ3 _ _ a3 w3 stB hR.q1 (LT hR.q2) hS3 hsuf
  obtain⟨Γ4,bs4,ow4,hS4⟩:=FG.sr hS' hK
  exact⟨rfl,rfl,Γ4,hY.side _ _ _ _ hJ3 _ _ _ _ _ _ hS4,hle3.trans hS4.step.le,_,_,_,hS4⟩
 rw[<-hR.eq]at key
 exact key
theorem VF.ev(h:VF J Γ0 w0 b s st0 a w){t:Nat}{x:Bool}(ht:st0.tmps.getD t .undef=.bool x):(Act.mk a ds).eval (.tmp t)=.bool x:=by
 obtain⟨Γ,hJ,hle,E,bs,ow,hS⟩:=h
 have h1:=hS.opv ds (.tmp t)
 have e1:opv E.GE st0.tmps (.tmp t)=.bool x:=ht
 rw[e1]at h1
 generalize (Act.mk a ds).eval (.tmp t)=v at h1
 cases h1
 rfl
theorem VF.put(hY:Yd Pg GE l ac step J)(hD:Dd stA kA){Γ Γ':bw}{w':World}{E:uy}{bs:bR}{ow:Nat->Option nM}(hS:SR Pg E Γ bs ow w a stA)(hle:Γ0.Le w0 Γ w)(hle':Γ.Le w Γ' w'){r:Bool×S}(hJ':J r.1 r.2 Γ' w'){d:Nat}(hB:stB=⟨stA.tmps.set d (.bool r.1),List.replicate kA .dead,[]⟩):
  VF J Γ0 w0 r.1 r.2 stB (a.setIfInBounds d (.bool r.1)) w':=by
 have hS':=(hS.again hD.c (hY.base _ _ _ _ hJ') hle' kA).set (d:=d) (p:=.bool r.1) (v:=.bool r.1) (.bool _)
 exact⟨Γ',hJ',hle.trans hle',_,_,_,hB▸hS'⟩
theorem VF.yieldc(hY:Yd Pg GE l ac step J)(hD:Dd stA kA){p:aa}{r:Bool×S}(hr:step s p=some r){o:Oper}{f x d:Nat}{tys:Array TypeId}(h7:stA.tmps.getD f .undef=yv l)(h8:stA.tmps.getD x .undef=.agg (ac p))
  (ho:o.op=.call {callee:=.value (.tmp f),args:=#[.tmp x],argTypes:=tys}) (hd:o.dst=some d) (hB:stB=⟨stA.tmps.set d (.bool r.1),List.replicate kA .dead,[]⟩)
  {pj:Act->World->Prop} {Q:Exit->Act->World->Prop} (h:VF J Γ0 w0 true s stA a w) (hn:∀a' w',VF J Γ0 w0 r.1 r.2 stB a' w'->pj ⟨a',ds⟩ w'):o.wpIn Fence.wide n Pg ⟨a,ds⟩ w pj Q:=by
 obtain⟨Γ,hJ,hle,hS⟩:=h.again hY hD
 have h1:=hS.opv ds (.tmp f)
 have h2:=hS.opv ds (.tmp x)
 have e1:opv (V5 GE Γ w).GE stA.tmps (.tmp f)=yv l:=h7
 have e2:opv (V5 GE Γ w).GE stA.tmps (.tmp x)=.agg (ac p):=h8
 rw[e1]at h1;rw[e2]at h2
 have hev:(Act.mk a ds).eval (.tmp f)=.func (.yield l) #[] #[]:=by
  generalize (Act.mk a ds).eval (.tmp f)=v at h1
  cases h1;rfl
 refine Zn ho hev (R:=fun e w'=>∃Γ',e=.returned (.bool r.1)/\Γ.Le w Γ' w'/\J r.1 r.2 Γ' w') ?_ ?_
 ·have:=hY.yield s Γ w p _ (n - 1) r hJ (h2.clo (by simp only[PVal.cl];exact ah p)) hr
  simpa using this
 ·rintro e w' ⟨Γ',rfl,hle',hJ'⟩
  refine⟨_,rfl,?_⟩
  rw[hd]
  exact hn _ _ (VF.put hY hD hS hle hle' hJ' hB)
def qhX(step:S->aa->Option (Bool×S))(J:Bool->S->bw->World->Prop)(l:Nat)(p:aa):Prop:=∀s r Γ w v n,VY step p s=some r->J true s Γ w->VR Γ [] w (.agg (ac p)) v->
 CallsIn Fence.wide n Pg fV #[v,.func (.yield l) #[] #[]] w fun e w'=>∃Γ',e=.returned (.bool r.1)/\Γ.Le w Γ' w'/\J r.1 r.2 Γ' w'
theorem VF.visitc(hY:Yd Pg GE l ac step J)(hD:Dd stA kA){p:aa}(hp:qhX step J l p){r:Bool×S}(hr:VY step p s=some r){o:Oper}{x y d:Nat}{tys:Array TypeId}(h7:stA.tmps.getD y .undef=yv l)(h8:stA.tmps.getD x .undef=.agg (ac p))
  (ho:o.op=.call {callee:=.value (.func fV),args:=#[.tmp x,.tmp y],argTypes:=tys}) (hd:o.dst=some d) (hB:stB=⟨stA.tmps.set d (.bool r.1),List.replicate kA .dead,[]⟩)
  {pj:Act->World->Prop} {Q:Exit->Act->World->Prop} (h:VF J Γ0 w0 true s stA a w) (hn:∀a' w',VF J Γ0 w0 r.1 r.2 stB a' w'->pj ⟨a',ds⟩ w'):o.wpIn Fence.wide n Pg ⟨a,ds⟩ w pj Q:=by
 obtain⟨Γ,hJ,hle,hS⟩:=h.again hY hD
 have h1:=hS.opv ds (.tmp y)
 have h2:=hS.opv ds (.tmp x)
 have e1:opv (V5 GE Γ w).GE stA.tmps (.tmp y)=yv l:=h7
 have e2:opv (V5 GE Γ w).GE stA.tmps (.tmp x)=.agg (ac p):=h8
 rw[e1]at h1;rw[e2]at h2
 have hev:(Act.mk a ds).eval (.tmp y)=.func (.yield l) #[] #[]:=by
  generalize (Act.mk a ds).eval (.tmp y)=v at h1
  cases h1;rfl
 refine qaM ho (g:=fV) (fs:=#[]) (cs:=#[]) rfl Tryz.call163 (R:=fun e w'=>∃Γ',e=.returned (.bool r.1)/\Γ.Le w Γ' w'/\J r.1 r.2 Γ' w') ?_ ?_
 ·have:=hp s r Γ w _ (n - 1) hr hJ (h2.clo (by simp only[PVal.cl];exact ah p))
  simpa[hev]using this
 ·rintro e w' ⟨Γ',rfl,hle',hJ'⟩
  refine⟨_,rfl,?_⟩
  rw[hd]
  exact hn _ _ (VF.put hY hD hS hle hle' hJ' hB)
theorem VF.fin{x:Bool}{H:List aN}(h:VF J Γ0 w0 b s (vE H x) a w):(results Tryz.f163 a).run Pg w=.ok (.bool x) w:=by
 obtain⟨Γ,hJ,hle,E,bs,ow,hS⟩:=h
 obtain⟨v,h1,h2,_⟩:=xX hS (fn:=Tryz.f163) (r:=.bool x) (by kernel_rfl)
 cases h2
 exact h1
theorem qaW{N:Nat}{L:List (Nat×PVal)}(h:qgI 0 L)(k:Nat){H:List aN}(hH:H=List.replicate k .dead):Dd (be N L H []) k:=⟨dC h,hH,rfl⟩
theorem qaS(ks:List aa):(sl ac ks).cl 0:=aj ah ks
theorem qfO(l:Nat)(ks:List aa)(i:Int):Dd (qf4 l ks i) 1:=qaW (by exact aI trivial<|aI (qaS ks)<|aI trivial<|aI trivial trivial) 1 rfl
theorem qfP(l:Nat)(ks:List aa)(i:Int):Dd (qhy l ks i) 1:=qaW (by exact aI trivial<|aI (qaS ks)<|aI trivial<|aI trivial<|aI trivial trivial) 1 rfl
theorem qfQ(l:Nat)(ks:List aa)(i:Int)(b:Bool):Dd (qiU l ks i b) 2:=qaW (by exact aI trivial<|aI (qaS ks)<|aI trivial<|aI trivial<|aI trivial trivial) 2 rfl
theorem Zm(hY:Yd Pg GE l ac step J)(p:aa)(hk:∀x∈p.Kids,qhX step J l x):qhX step J l p:=by
 intro s r Γ w v n hv hJ hvr
 refine callsIn_of_wp Tryz.func163 (c:=bV) rfl trivial ?_
 have h0:VF J Γ w true s (be 23 [(0,.agg (ac p)),(1,yv l)] [] []) (#[v,.func (.yield l) #[] #[]]++Array.replicate 21 undef) w:=by
  refine⟨Γ,hJ,.refl _ _,_,_,_,(hY.base _ _ _ _ hJ).fresh 0 (tmps:=[.agg (ac p),yv l]++List.replicate 21 .undef) (by simp) fun t q u hq hu=>?_⟩
  by_cases ht:t<2
  ·rw[vaf (by simpa using ht)]at hq
   rw[vaQ (by simpa using ht)]at hu
   match t,ht with
   |0,_=>simp at hq hu;subst hq;subst hu;exact hvr
   |1,_=>simp at hq hu;subst hq;subst hu;exact .val _
  ·rw[vai (by simpa using ht),vaU]at hq
   split at hq<;>cases hq
   exact .undef u
 show bV.wpIn Fence.wide n Pg _ ⟨_,[]⟩ w
 rw[qfx]at hv
 obtain⟨q,hq,hv⟩:=ay hv
 have hb:Pg.funcs.size=Pg.funcs.size:=rfl
 have hret:∀{b:Bool} {s:S} {x:Bool} {H:List aN} {a':Act} {w':World},a'.defers=[]->VF J Γ w b s (vE H x) a'.tmps w'->b=r.1->s=r.2->x=r.1->
   bodyPost Pg Tryz.f163 (fun e w'=>∃Γ',e=.returned (.bool r.1)/\Γ.Le w Γ' w'/\J r.1 r.2 Γ' w') .ret a' w':=by
  rintro b s x H a' w' hd h rfl rfl rfl
  refine⟨hd,.bool r.1,h.fin,?_⟩
  obtain⟨Γ',hJ',hle,_⟩:=h
  exact⟨Γ',rfl,hle,hJ'⟩
 rw[qia]
 refine wpIn_seq (wpIn_mono (VF.piece hY (qlT p l) (k:=0) (qaW (by exact aI (ah p)<|aI trivial trivial) 0 rfl) h0) ?_)
 rintro e ⟨a1,ds1⟩ w1 ⟨rfl,rfl,h1⟩
 have d2:(PVal.eptr (ac p)).cl 0:=by simp only[PVal.cl];exact ah p
 have d3:(PVal.agg (ac p)).cl 0:=by simp only[PVal.cl];exact ah p
 refine wpIn_seq (wpIn_seq (wpIn_mono (VF.reg hY qkl (k:=1) (kB:=1) (r:=q) (stB:=be 23 [(1,yv l),(2,.eptr (ac p)),(7,yv l),(8,.agg (ac p)),(9,.bool q.1)] [.dead] []) (qaW (by exact aI trivial<|aI d2 trivial) 1 rfl) (qaW (by exact aI trivial<|aI d2<|aI trivial<|aI d3<|aI trivial trivial) 1 rfl) (qlU p l) (qkv p l q.1)
  (fun a w pj Q h hn=>VF.yieldc hY (kA:=1) (qaW (by exact aI trivial<|aI d2<|aI trivial<|aI d3 trivial) 1 rfl) hq (f:=7) (x:=8) (d:=9) rfl rfl qg7 qiS rfl h hn) h1) ?_))
 rintro e ⟨a2,ds2⟩ w2 ⟨rfl,rfl,h2⟩
 refine wpIn_cond (h2.ev (t:=10) (x:=!q.1) rfl) ?_
 have dS2:∀b:Bool,Dd (be 23 [(1,yv l),(2,.eptr (ac p)),(10,.bool b)] [.dead] []) 1:=fun b=>qaW (by exact aI trivial<|aI d2<|aI trivial trivial) 1 rfl
 obtain⟨q1,q2⟩:=q
 cases q1 with
 |false=>
  cases hv
  refine wpIn_mono (VF.piece hY (qlV p l) (dS2 true) h2) ?_
  rintro e ⟨a3,ds3⟩ w3 ⟨rfl,rfl,h3⟩
  exact hret rfl h3 rfl rfl rfl
 | true =>
  simp only at hv
  split at hv
  case isFalse=>cases hv
  rename_i hlen
  refine wpIn_skip ?_
  refine wpIn_seq (wpIn_seq (wpIn_mono (VF.piece hY (qlW p l) (dS2 false) h2) ?_))
  rintro e ⟨a3,ds3⟩ w3 ⟨rfl,rfl,h3⟩
  refine wpIn_block (wpIn_loop_ghost (fun k a w'=>a.defers=[]/\∃(i:Nat) (s':S),k=p.Kids.length - i/\i<=p.Kids.length/\VX step (p.Kids.drop i) s'=some r/\VF J Γ w true s' (qf4 l p.Kids (i:Int)) a.tmps w') (p.Kids.length)
   ⟨rfl,0,q2,rfl,vaN _,hv,h3⟩ ?_)
  rintro k ⟨a4,ds4⟩ w4 ⟨hd4,i,s',rfl,hi,hvl,h4⟩
  simp only at hd4;subst hd4
  rw[qiR]
  refine wpIn_seq (wpIn_mono (VF.piece hY (qlX l p.Kids i) (qfO _ _ _) h4) ?_)
  rintro e ⟨a5,ds5⟩ w5 ⟨rfl,rfl,h5⟩
  refine wpIn_seq (wpIn_cond (h5.ev (t:=15) (x:=decide ((i:Int)<(p.Kids.length:Int))) rfl) ?_)
  by_cases hlt:i<p.Kids.length
  ·rw[vbk (by omega)]
   refine wpIn_skip ?_
   have hdrop:p.Kids.drop i=p.Kids[i]::p.Kids.drop (i+1):=va8 hlt
   rw[hdrop,VX]at hvl
   obtain⟨q',hq',hvl⟩:=ay hvl
   have hx:cz p.Kids (i:Int)=some p.Kids[i]:=bo _ _ hlt
   generalize hxx:p.Kids[i]=x at *
   have hxm:x∈p.Kids:=hxx▸vak hlt
   have e2:(PVal.eptr (ac x)).cl 0:=by simp only[PVal.cl];exact ah x
   have e3:(PVal.agg (ac x)).cl 0:=by simp only[PVal.cl];exact ah x
   refine wpIn_seq (wpIn_block (wpIn_seq (wpIn_mono (VF.piece hY (qlY l p.Kids i x hx) (qfP _ _ _) h5) ?_)))
   rintro e ⟨a6,ds6⟩ w6 ⟨rfl,rfl,h6⟩
   refine wpIn_seq (wpIn_mono (VF.reg hY qkm (k:=2) (kB:=2) (r:=q') (stB:=qk6 l p.Kids i x q'.1) (qaW (by exact aI trivial<|aI e2<|aI (qaS _)<|aI trivial<|aI trivial trivial) 2 rfl) (qaW (by exact aI trivial<|aI (qaS _)<|aI trivial<|aI trivial<|aI e3<|aI trivial<|aI trivial trivial) 2 rfl) (qlZ l p.Kids i x) (qkw l p.Kids i x q'.1)
    (fun a w pj Q h hn=>VF.visitc hY (kA:=2) (qaW (by exact aI trivial<|aI (qaS _)<|aI trivial<|aI trivial<|aI e3<|aI trivial trivial) 2 rfl) (hk x hxm) hq' (y:=19) (x:=18) (d:=20) rfl rfl qg8 qiT rfl h hn) h6) ?_)
   rintro e ⟨a7,ds7⟩ w7 ⟨rfl,rfl,h7⟩
   refine wpIn_cond (h7.ev (t:=21) (x:=!q'.1) rfl) ?_
   obtain⟨q1,q2⟩:=q'
   cases q1 with
   |false=>
    cases hvl
    refine wpIn_mono (VF.piece hY (ql0 l p.Kids i) (qfQ _ _ _ _) h7) ?_
    rintro e ⟨a8,ds8⟩ w8 ⟨rfl,rfl,h8⟩
    exact hret rfl h8 rfl rfl rfl
   |true=>
    refine wpIn_skip ?_
    refine wpIn_mono (VF.piece hY (ql1 l p.Kids i) (qfQ _ _ _ _) h7) ?_
    rintro e ⟨a8,ds8⟩ w8 ⟨rfl,rfl,h8⟩
    refine⟨p.Kids.length - (i+1),by omega,rfl,i+1,q2,rfl,hlt,hvl,?_⟩
    have e:aR ((i:Int)+1)=((i+1:Nat):Int):=by rw[dB (by omega) (by omega)];omega
    rw[e]at h8
    exact VF.redo (st0:=⟨(qf4 l p.Kids ((i+1:Nat):Int)).tmps,[.dead,.dead],[]⟩) hY (k:=2) ⟨(qfO l p.Kids _).c,rfl,rfl⟩ h8 1
  ·rw[decide_eq_false (by omega)]
   refine wpIn_exit ?_
   have hi':i=p.Kids.length:=by omega
   rw[vbD (by omega),VX]at hvl
   cases hvl
   refine wpIn_mono (VF.piece hY (ql2 l p.Kids i) (qfP _ _ _) h5) ?_
   rintro e ⟨a6,ds6⟩ w6 ⟨rfl,rfl,h6⟩
   exact hret rfl h6 rfl rfl rfl
mutual
theorem X3(hY:Yd Pg GE l ac step J):∀p:aa,qhX step J l p
 |⟨o,n,k,ks⟩=>Zm hY ⟨o,n,k,ks⟩ (TY hY ks)
theorem TY(hY:Yd Pg GE l ac step J):∀ks:List aa,∀x∈ks,qhX step J l x
 |[],x,hx=>by simp at hx
 | y :: ks,x,hx => by
  rcases vaw.1 hx with h|h
  ·exact h▸X3 hY y
  ·exact TY hY ks x h
end
end
open Go Go.Sort
def ZU(n:Int):Option ag:=if(decide (-9223372036854775808<=n)&&decide (n<=9223372036854775807))=true then some (Lib.itoa n)else none
theorem qdG:kK=Lib.pow10Tab:=by kernel_rfl
theorem qeY{n:Int}{r:ag}(h:ZU n=some r):CC Pg GE 95 [.int .i64 n] (.str r) []:=by
 rcases bj h with⟨b,h⟩|⟨b,h⟩
 ·obtain rfl:=lf h
  simp only[vaj,vao]at b
  refine CC.grownIS Tryz.call95 fun E Γ bs ow w a st hE hS=>?_
  have htab:Lib.TabIs Pg w "internal/strconv.uint64pow10" .u64 Lib.pow10Tab:=qg3 hS (g:=0) (by rw[hE,←qdG];simp[GE]) (by kernel_rfl)
  refine(Any.strconv_Itoa Tryz.laysM171 n b.1 b.2 w htab).mono fun e w' he=>?_
  obtain⟨rfl,k,os,rfl⟩:=he
  exact⟨rfl,.of_grow _ _ _⟩
 ·cases h
def mZ(l:List ag):List ag:=l.mergeSort fun x y=>decide (x<=y)
theorem WY{w:World}{b:Nat}{cur:Array Value}{e:TypeId}{l:List ag}(hh:w.heap[b]? =some (.cells cur e (0,0)))(ht:cur.toList.take l.length=l.map fun s=>Value.string ⟨s.toArray⟩):Holds encStr w b 0 l.toArray:=by
 intro j hj
 have hj':j<l.length:=by simpa using hj
 rw[vaK]
 refine⟨?_,frozen_of_row w b j cur e hh⟩
 rw[cell_of_row w b j cur e _ hh]
 have h1:(cur.toList.take l.length)[j]? =(l.map fun s=>Value.string ⟨s.toArray⟩)[j]?:=by rw[ht]
 rw[vap hj']at h1
 simp only[va2,vaB,vab hj',vam]at h1
 rw[h1,getElem!_pos _ j hj]
 simp[encStr]
theorem TK{w:World}{b n:Nat}{cur:Array Value}{e:TypeId}{os:Array Obj}(d l:List ag)(hh:w.heap[b]? =some (.cells cur e (0,0)))(hd:d.length<=cur.size)(hl:d.take l.length=l):
  (∀b',b'<w.heap.size->b'≠b->(grow (putRow encStr (Sort.ahead w n) b 0 d.toArray) os).heap[b']? =w.heap[b']?)/\w.heap.size<=(grow (putRow encStr (Sort.ahead w n) b 0 d.toArray) os).heap.size/\
   ∃cur',(grow (putRow encStr (Sort.ahead w n) b 0 d.toArray) os).heap[b]? =some (.cells cur' e (0,0))/\cur'.size=cur.size/\cur'.toList.take l.length=l.map fun s=>Value.string ⟨s.toArray⟩:=by
 have hb:b<w.heap.size:=(var.1 hh).1
 have hsz:(putRow encStr (Sort.ahead w n) b 0 d.toArray).heap.size=w.heap.size:=by simp[putRow,mapBlock,Sort.ahead]
 refine⟨fun b' h1 h2=>?_,?_,putCells encStr 0 d.toArray cur,?_,by simp[putCells],?_⟩
 ·show((putRow encStr (Sort.ahead w n) b 0 d.toArray).heap++os)[b']? =_
  rw[vaQ (by rw[hsz];exact h1)]
  show(w.heap.modify b (onCells _))[b']? =_
  rw[vbU,vae (fun e=>h2 e.symm)]
 ·show _<=((putRow encStr (Sort.ahead w n) b 0 d.toArray).heap++os).size
  rw[Array.size_append,hsz];omega
 ·show((putRow encStr (Sort.ahead w n) b 0 d.toArray).heap++os)[b]? =_
  rw[vaQ (by rw[hsz];exact hb)]
  show(w.heap.modify b (onCells _))[b]? =_
  rw[vbU,vad rfl,hh]
  rfl
 ·have hll:l.length<=d.length:=by have h0:=va9 List.length hl;rw[vaO]at h0;omega
  refine vbn fun i=>?_
  by_cases hi:i<l.length
  ·have hdl:i<d.length:=by omega
   have hdi:d[i]=l[i]:=by
    have h1:(d.take l.length)[i]? =l[i]?:=by rw[hl]
    rw[vap hi,vab hdl,vab hi]at h1
    exact vbC h1
   rw[vap hi]
   simp only[va2,putCells,Array.getElem?_mapIdx,vaB,vab hi,vam]
   have hc:cur[i]? =some (cur[i]'(by omega)):=vbe (by omega)
   rw[hc]
   simp only[vam]
   rw[vad ⟨vaN _,by simp;omega⟩,Nat.sub_zero,getElem!_pos _ i (by simpa using hdl)]
   simp[encStr,hdi]
  ·rw[vat (by simp[putCells];omega),vat (by simp;omega)]
theorem rR(l:List ag):(mZ l).length=l.length:=by unfold mZ;exact List.length_mergeSort _
theorem qci{n:Nat}(h:n<=eY):n<4611686018427387904:=by unfold eY at h;omega
theorem qfn:qb9 Pg 160 9 (fun s=>Value.string ⟨s.toArray⟩) mZ (fun _ _ _=>.tuple #[]):={
 call:=Tryz.call160
 row:=fun w b cap cur l hh hc hl hm hla ht=>by
  have hlen:=qci hla
  refine(Any.slices_Sort_string Tryz.lays190 b 0 cap l w (WY hh ht) ((var.1 hh).1) hlen).mono fun r w' hr=>?_
  obtain⟨rfl,n,os,rfl⟩:=hr
  obtain⟨k1,k2,cur',k3,k4,k5⟩:=TK (n:=n) (os:=os) (mZ l) (mZ l) hh (by rw[rR];omega) (vbm)
  exact⟨rfl,by rw[rR];exact hl,rfl,rfl,rfl,k2,k1,cur',k3,by omega,k5⟩
 none:=fun w=>⟨by simp[mZ],Any.slices_Sort_string_none Tryz.lays190 Option.none 0 w⟩}
theorem UU(l:List ag):(Lib.compact l++List.replicate (l.length - (Lib.compact l).length) []).take (Lib.compact l).length=Lib.compact l:=by simp
theorem Ml(l:List ag):(Lib.compact l).length<=l.length:=by
 unfold Lib.compact Lib.compactUpTo
 rw[vaF]
 exact vaI (vaW _ _) (by simp)
theorem YB:qb9 Pg 161 9 (fun s=>Value.string ⟨s.toArray⟩) Lib.compact (fun x k c=>.slice x k c):={
 call:=Tryz.call161
 row:=fun w b cap cur l hh hc hl hm hla ht=>by
  have hlen:=qci hla
  refine(calls_of_every_depth fun D=>AnyS.slices_Compact_string_in Tryz.lays194 D b 0 cap l w (WY hh ht) (by omega) hl).mono fun r w' hr=>?_
  obtain⟨rfl,q,rfl⟩:=hr
  have hcl:=Ml l
  obtain⟨k1,k2,cur',k3,k4,k5⟩:=TK (n:=q) (os:=#[]) (Lib.compact l++List.replicate (l.length - (Lib.compact l).length) []) (Lib.compact l) hh (by simp;omega) (UU l)
  rw[grow_empty]at k1 k2 k3
  exact⟨rfl,by omega,rfl,rfl,rfl,k2,k1,cur',k3,by omega,k5⟩
 none:=fun w=>⟨by rfl,calls_of_every_depth fun D=>AnyS.slices_Compact_string_empty_in Tryz.lays194 D Option.none 0 w⟩}
def qm(a b:List ag):Option (List ag):=(app ([]:List ag) a).bind fun l=>(app l b).bind fun l2=>some (Lib.compact (mZ l2))
def Yl:Code:=Tryz.f158.body.getD .skip
theorem qkR:Pg.cellsOf 9=1:=by kernel_rfl
theorem qfr(l:List ag)(h:l.length<=eY):aU Pg GE 0 (gz Yl [true,true,false]) (EX .normal (iB 15 5 (mZ l) 9)) (iB 15 5 l 9):=
 aU.inplace (t:=5) (d1:=11) (d2:=12) qfn qkR h rfl rfl rfl rfl rfl rfl (by decide) (.inl ⟨rfl,rR l⟩)
theorem qfs(l:List ag)(h:l.length<=eY):aU Pg GE 0 (gz Yl [true,true,true,false]) (EX .normal (iB 15 4 (Lib.compact l) 9)) (iB 15 5 l 9):=
 aU.inplace3 (t:=5) (d1:=13) (d2:=14) YB qkR h rfl rfl rfl rfl rfl rfl (by decide) (fun _ _ _=>rfl) rfl rfl rfl (by decide) (by decide)
theorem qey{α:Type}{l r z:List α}(h:app l r=some z):z.length<=eY:=by
 unfold app at h
 split at h
 ·cases h;simpa using ‹_›
 ·cases h
theorem E5{a b:List ag}{r:List ag}(h:qm a b=some r):CC Pg GE 158 [sl cS a,sl cS b] (sl cS r) [(0,9)]:=by
 obtain⟨l,bl,h⟩:=ay h
 obtain⟨l2,bl2,h⟩:=ay h
 obtain rfl:=lf h
 have h2:=qey bl2
 have h3:(mZ l2).length<=eY:=by rw[rR];exact h2
 exact C.ev (A:=[8,10]) mixed Tryz.call158 Tryz.func158 (c:=Yl) rfl (aI (aj dQ a)<|aI (aj dQ b) trivial)
  [.v (sl cS ([]:List ag)),.v (sl cS l),.v (sl cS l2),.pa 0,.pc (iB 15 5 l2 9) .normal (iB 15 5 (mZ l2) 9),.pa 0,.pc (iB 15 5 (mZ l2) 9) .normal (iB 15 4 (Lib.compact (mZ l2)) 9)]
  (Eq.mp (by kernel_rfl) (aI (bp.mk' (v:=PVal.str) E8 ([]:List ag) 0 (by kernel_rfl))<|aI (bp.ap bl)<|aI (bp.ap bl2)<|aI (fr (iB 15 5 l2 9))<|aI (qfr l2 h2)<|
   aI (fr (iB 15 5 (mZ l2) 9))<|aI (qfs (mZ l2) h3)<|aI (rP (sl cS (Lib.compact (mZ l2)))) (aj dQ (Lib.compact (mZ l2)))))
abbrev fB:Nat:=159
abbrev fW:Nat:=162
def bW:Code:=Tryz.f162.body.getD .skip
def bB:Code:=Tryz.f159.body.getD .skip
theorem qaI(p:aa):CC Pg GE fB [.agg (ac p)] (.func (.func fW) [] [.eptr (ac p)]) []:=by
 have z:=se (bS p)<|en (aI (rP (.func (.func fW) [] [.eptr (ac p)]))<|(aI trivial (aI (show iy 0 (ac p)from ah p) trivial)))
 exact C.evp (A:=[]) mixed Tryz.call159 Tryz.func159 (c:=bB) rfl (aI (ah p) trivial) z (by kernel_rfl)
theorem qib:bW=.region (qjs bW) (pk bW) false:=by kernel_rfl
theorem qif:List.range (pk bW).size=[0,1]++2::([]:List Nat):=by kernel_rfl
theorem qid:[0,1].map (fun i=>(pk bW)[i]?)=((pk bW).toList.take 2).map some:=by kernel_rfl
theorem qie:((pk bW).toList.take 2).all QP=true:=by kernel_rfl
theorem qka:(pk bW)[2]? =some (Z5 bW 2):=by kernel_rfl
theorem qj9:(Z5 bW 2).guard=none:=by kernel_rfl
theorem qic:(Z5 bW 2).op=.call {callee:=.value (.func fV),args:=#[.tmp 3,.tmp 4],argTypes:=qg6 (Z5 bW 2)}:=by kernel_rfl
theorem qj8:(Z5 bW 2).dst=some 5:=by kernel_rfl
theorem qgC(p:aa)(l:Nat):dJ Pg GE [] (pk bW) (fun st=>FG st (be 6 [(3,.agg (ac p)),(4,yv l)] [] [])) ((pk bW).toList.take 2) 0 (be 6 [(0,yv l),(1,.eptr (ac p))] [] []):=by
 have z:=sv (bh p)<|en (fr (be 6 [(3,.agg (ac p)),(4,yv l)] [] []))
 exact Kj z (by kernel_rfl)
section
variable{S:Type}{step:S->aa->Option (Bool×S)}{J:Bool->S->bw->World->Prop}{l:Nat}
theorem qgD(hY:Yd Pg GE l ac step J)(p:aa){s:S}{r:Bool×S}{Γ:bw}{w:World}{v:Value}{n:Nat}(hv:VY step p s=some r)(hJ:J true s Γ w)(hvr:VR Γ [] w (.eptr (ac p)) v):
  CallsIn Fence.wide n Pg fW #[.func (.yield l) #[] #[],v] w fun e w'=>(∃u,e=.returned u)/\∃Γ',Γ.Le w Γ' w'/\J r.1 r.2 Γ' w':=by
 refine callsIn_of_wp Tryz.func162 (c:=bW) rfl trivial ?_
 have h0:VF J Γ w true s (be 6 [(0,yv l),(1,.eptr (ac p))] [] []) (#[.func (.yield l) #[] #[],v]++Array.replicate 4 undef) w:=by
  refine⟨Γ,hJ,.refl _ _,_,_,_,(hY.base _ _ _ _ hJ).fresh 0 (tmps:=[yv l,.eptr (ac p)]++List.replicate 4 .undef) (by simp) fun t q u hq hu=>?_⟩
  by_cases ht:t<2
  ·rw[vaf (by simpa using ht)]at hq
   rw[vaQ (by simpa using ht)]at hu
   match t,ht with
   |0,_=>simp at hq hu;subst hq;subst hu;exact .val _
   |1,_=>simp at hq hu;subst hq;subst hu;exact hvr
  ·rw[vai (by simpa using ht),vaU]at hq
   split at hq<;>cases hq
   exact .undef u
 show bW.wpIn Fence.wide n Pg _ ⟨_,[]⟩ w
 have d2:(PVal.eptr (ac p)).cl 0:=ah p
 have d3:(PVal.agg (ac p)).cl 0:=ah p
 have key:(Code.region (qjs bW) (pk bW) false).wpIn Fence.wide n Pg (bodyPost Pg Tryz.f162 fun e w'=>(∃u,e=.returned u)/\∃Γ',Γ.Le w Γ' w'/\J r.1 r.2 Γ' w') ⟨#[.func (.yield l) #[] #[],v]++Array.replicate 4 undef,[]⟩ w:=by
  refine wpIn_region ?_
  rw[qif]
  obtain⟨Γ1,hJ1,hle1,hS⟩:=VF.again hY (k:=0) (qaW (L:=[(0,yv l),(1,.eptr (ac p))]) (by exact aI trivial<|aI d2 trivial) 0 rfl) h0
  refine Gd (A:=[]) (K:=fun st=>FG st (be 6 [(3,.agg (ac p)),(4,yv l)] [] [])) (fun Γ' bs' ow' a' w' st hS' hK=>?_) _ _ Γ1 _ _ _ w _ qid (LT qie) hS (qgC p l)
  obtain⟨Γ2,bs2,ow2,hS2⟩:=FG.sr hS' hK
  refine Ip qka qj9 (VF.visitc hY (kA:=0) (stB:=be 6 [(3,.agg (ac p)),(4,yv l),(5,.bool r.1)] [] []) (qaW (by exact aI d3<|aI trivial trivial) 0 rfl) (X3 hY p) hv (y:=4) (x:=3) (d:=5) rfl rfl qic qj8 rfl ⟨Γ2,hY.side _ _ _ _ hJ1 _ _ _ _ _ _ hS2,hle1.trans hS2.step.le,_,_,_,hS2⟩ fun a3 w3 h3=>?_)
  obtain⟨Γ3,hJ3,hle3,E,bs3,ow3,hS3⟩:=h3
  obtain⟨u,e1,_⟩:=xX hS3 (fn:=Tryz.f162) (r:=.tuple []) (by kernel_rfl)
  exact⟨rfl,u,e1,⟨u,rfl⟩,Γ3,hle3,hJ3⟩
 rw[<-qib]at key
 exact key
end
abbrev qlH:Nat:=156
def qfD:Code:=Tryz.f156.body.getD .skip
def qiL:Code->Code
 |.rangeFunc _ _ a _=>a
 |_=>.skip
def qiM:Code->Code
 |.rangeFunc _ _ _ b=>b
 |_=>.skip
abbrev qkX:Code:=gz qfD [false]
abbrev qkY:Code:=gz qfD [true,false]
abbrev qkZ:Code:=gz qfD [true,true,false,false]
abbrev qei:Code:=gz qfD [true,true,false,true,false]
abbrev qkf:Code:=gz qfD [true,true,true,false]
theorem qgB:qfD=.seq qkX (.seq qkY (.seq (.seq qkZ (.block 0 (.rangeFunc (.tmp 6) #[7] (qiL qei) (qiM qei)))) (.seq qkf .ret))):=by kernel_rfl
def uk(s:List ag)(x:aa):Option (Bool×List ag):=if(x.Op==3)=true then(app s [x.Name]).bind fun l=>some (true,l)else some (true,s)
def sZ(p:aa):Option (List ag):=(VY uk p []).bind fun q=>(qm q.2 []).bind fun r=>some r
abbrev qef(s:List ag):List aN:=[.dead,.cells [sl cS s] [(0,9)]]
abbrev qkn(s:List ag):aA:=be 18 [(3,.bptr 1 0)] (qef s) []
theorem qlK(p:aa):aU Pg GE 0 qkX (EX .normal (be 18 [(1,.eptr (ac p))] [.dead] [])) (be 18 [(0,.agg (ac p))] [] []):=by
 have z:=se (bS p)<|eF .normal (be 18 [(1,.eptr (ac p))] [.dead] [])
 exact nX (A:=[]) mixed z (by kernel_rfl)
theorem qlL(p:aa):aU Pg GE 0 qkY (EX .normal (be 18 [(1,.eptr (ac p)),(3,.bptr 1 0)] (qef []) [])) (be 18 [(1,.eptr (ac p))] [.dead] []):=by
 have z:=sx (show kb Pg 32=some [sl cS ([]:List ag)] by kernel_rfl)<|eF .normal (be 18 [(1,.eptr (ac p)),(3,.bptr 1 0)] (qef []) [])
 exact nX (A:=[]) mixed z (by kernel_rfl)
abbrev stR(p:aa):aA:=be 18 [(3,.bptr 1 0),(6,.func (.func fW) [] [.eptr (ac p)])] (qef []) []
theorem qlM(p:aa):aU Pg GE 0 qkZ (EX .normal (stR p)) (be 18 [(1,.eptr (ac p)),(3,.bptr 1 0)] (qef []) []):=by
 have z:=sv (bh p)<|bz (qaI p)<|eF .normal (stR p)
 exact nX (A:=[]) mixed z (by kernel_rfl)
abbrev qko(s:List ag)(x:aa):aA:=be 18 [(3,.bptr 1 0),(4,.bptr 2 0)] (qef s++[.cells (V7 x) []]) []
theorem qlN(s:List ag)(x:aa):aU Pg GE 2 (qiL qei) (EX .normal (qko s x)) (be 18 [(3,.bptr 1 0),(7,.agg (ac x))] (qef s) []):=by
 have z:=sx hO<|sx (cj x)<|eF .normal (qko s x)
 exact nX (A:=[]) mixed z (by kernel_rfl)
abbrev qkp(r:List ag):aA:=be 18 [(3,.bptr 1 0)] (qef r++[.dead]) []
theorem qlO(s:List ag)(x:aa){r:Bool×List ag}(h:uk s x=some r):r.1=true/\aU Pg GE 2 (qiM qei) (EX .normal (qkp r.2)) (qko s x):=by
 unfold uk at h
 rcases bj h with⟨c1,h⟩|⟨c1,h⟩
 ·obtain⟨l,bl,h⟩:=ay h
  cases h
  refine⟨rfl,?_⟩
  have z:=ss<|sg 0 c1<|ss<|sv (bp.mk' (v:=PVal.str) E8 ([x.Name]:List ag) 1 (by kernel_rfl))<|sv (bp.ap bl)<|eF .normal (qkp l)
  exact nX (A:=[11]) mixed z (by kernel_rfl)
 ·cases h
  refine⟨rfl,?_⟩
  have z:=ss<|sg 0 c1<|eF .normal (qkp s)
  exact nX (A:=[11]) mixed z (by kernel_rfl)
abbrev qkq(r:List ag):aA:=be 18 [(2,sl cS r)] [.dead,.dead] [((2,0),9)]
theorem qlP(s:List ag){r:List ag}(h:qm s []=some r):aU Pg GE 2 (.seq qkf .ret) (EX .ret (qkq r)) (qkn s):=by
 have z:=sv (show bm Pg 32 [sl cS s]=some (sl cS s) by kernel_rfl)<|bz (E5 h)<|eF .ret (qkq r)
 exact nX (A:=[]) mixed z (by kernel_rfl)
abbrev IA(fn:FuncId)(a:Array Value)(D:Nat):Loop:={state:=.ready,pending:=none,fn:=fn,tmps:=a,params:=#[7],assign:=qiL qei,body:=qiM qei,defers:=D}
def JF(Γe:bw)(we:World)(bs:bR)(a:Array Value)(fn:FuncId)(l D:Nat)(b:Bool)(s:List ag)(Γ:bw)(w:World):Prop:=
 b=true/\∃ow,SR Pg (V5 GE Γe we) Γ bs ow w a (qkn s)/\¬cr bs ow l/\¬cr bs ow D/\w.heap[l]? =some (.loop (IA fn a D))/\w.heap[D]? =some (.deferred (some []))
theorem ko{w:World}{b:Nat}{o:Obj}(h:w.heap[b]? =some o):b<w.heap.size:=(var.1 h).1
theorem qhV{Γe:bw}{we:World}{bs:bR}{a:Array Value}{fn:FuncId}{l D:Nat}(hl:we.heap.size<=l)(hD:we.heap.size<=D)(hne:D≠l)(hb:bs.length=2):Yd Pg GE l ac uk (JF Γe we bs a fn l D) where
 base:=fun b s Γ w ⟨_,ow,h,_⟩=>h.base
 side:=fun b s Γ w ⟨h0,ow,h,hTl,hTD,hhl,hhD⟩ Γ' bs' ow' w' a' st' h'=>
  ⟨h0,ow,h.aside h',hTl,hTD,(h'.step.keep l (ko hhl) id).1.trans hhl,(h'.step.keep D (ko hhD) id).1.trans hhD⟩
 yield:=fun s Γ w x v n r ⟨h0,ow,h,hTl,hTD,hhl,hhD⟩ hv hr=>by
  obtain⟨hr1,hS4⟩:=qlO s x hr
  refine⟨_,_,_,_,run_yield hhl rfl,?_⟩
  have hz:(((#[7]:Array Tmp).zip #[v]).foldl (fun tmps (t,a)=>tmps.setIfInBounds t a) a)=a.setIfInBounds 7 v:=by simp
  show RoundIn Fence.wide n Pg l fn (((#[7]:Array Tmp).zip #[v]).foldl (fun tmps (t,a)=>tmps.setIfInBounds t a) a) (qiL qei) (qiM qei) w _
  rw[hz]
  have h7:SR Pg (V5 GE Γe we) Γ bs ow w (a.setIfInBounds 7 v) (be 18 [(3,.bptr 1 0),(7,.agg (ac x))] (qef s) []):=h.set (d:=7) (p:=.agg (ac x)) (hv.mono (.refl _ _) (fun i b hi=>by simp at hi))
  refine roundIn_of_wpIn trivial (wpIn_mono (aU.on (qlN s x) (by decide) h7 (by rw[hb];decide) (some l) [] n) ?_)
  rintro e ⟨a1,ds1⟩ w1 ⟨rfl,Γ1,bs1,ow1,st1,h1,⟨rfl,rfl⟩,hbs1,hle1,hsz1,hk1⟩
  obtain⟨k1,t1⟩:=hk1 l (ko hhl) hTl
  obtain⟨k1D,t1D⟩:=hk1 D (ko hhD) hTD
  have hl1:=k1.trans hhl
  refine⟨_,run_beginRound hl1 rfl,?_⟩
  obtain⟨h1',hle1'⟩:=h1.putOther (l:=l) (o:=.loop {IA fn a D with state:=.busy}) t1 (.inr hl) (fun c t fr e=>by rw[hl1]at e;cases e)
  have hb1:2<=bs1.length:=by have:=h1.bl;rw[this];exact Nat.le_of_ble_eq_true rfl
  refine wpIn_mono (aU.on hS4 (by decide) h1' hb1 (some l) [] n) ?_
  rintro e ⟨a2,ds2⟩ w2 ⟨rfl,Γ2,bs2,ow2,st2,h2,⟨rfl,rfl⟩,hbs2,hle2,hsz2,hk2⟩
  have hl1':(w1.putObj l (.loop {IA fn a D with state:=.busy})).heap[l]? =some (.loop {IA fn a D with state:=.busy}):=World.putObj_heap_same (ko hl1)
  have hD1':(w1.putObj l (.loop {IA fn a D with state:=.busy})).heap[D]? =some (.deferred (some [])):=(World.putObj_heap_other hne).trans (k1D.trans hhD)
  obtain⟨k2,t2⟩:=hk2 l (ko hl1') t1
  obtain⟨k2D,t2D⟩:=hk2 D (ko hD1') t1D
  have hl2:=k2.trans hl1'
  refine⟨_,_,run_endRound none hl2,?_⟩
  obtain⟨h3,hle3⟩:=h2.putOther (l:=l) (o:=.loop {{IA fn a D with state:=.busy}with state:=if(none:Option Code).isNone then .ready else .done,pending:=none}) t2 (.inr hl) (fun c t fr e=>by rw[hl2]at e;cases e)
  have hle:Γ.Le w Γ2 (w2.putObj l (.loop {{IA fn a D with state:=.busy}with state:=if(none:Option Code).isNone then .ready else .done,pending:=none})):=((hle1.trans hle1').trans hle2).trans hle3
  obtain⟨ow3,h4,hT4⟩:=h.back rfl h3 hle (H':=qef r.2) (fun i hi=>(hbs2 i (by omega)).trans (hbs1 i (by omega))) (by
   refine⟨trivial,⟨rfl,aI (up (aj dQ r.2)) trivial,fun x hx=>hx⟩,trivial⟩) hb.symm
  refine⟨Γ2,by rw[hr1];rfl,hle,hr1,ow3,h4,fun hx=>t2 (hT4 l hx),fun hx=>t2D (hT4 D hx),?_,?_⟩
  ·exact World.putObj_heap_same (ko hl2)
  ·exact(World.putObj_heap_other hne).trans (k2D.trans hD1')
theorem Kl{p:aa}{r:List ag}(h:sZ p=some r):CC Pg GE qlH [.agg (ac p)] (sl cS r) [(0,9)]:=by
 obtain⟨q,hq,h⟩:=ay h
 obtain⟨r',hu,h⟩:=ay h
 cases h
 refine⟨aI (ah p) trivial,Tryz.call156,fun Γ bs ow w vs hS=>(callsIn_wide (n:=0)).1 (callsIn_of_wp_marks Tryz.func156 (c:=qfD) rfl trivial ?_)⟩
 obtain rfl:bs=[]:=vau hS.bl
 obtain⟨v,rfl⟩:∃v,vs=#[v]:=vcC.1 hS.sz
 have hB:T5 GE Γ w:=hS.base
 have hE:IP GE 0 (V5 GE Γ w):=hB.good
 have hvr:VR Γ [] w (.agg (ac p)) v:=hS.tm 0 _ _ rfl rfl
 have h0:SR Pg (V5 GE Γ w) Γ [] (fun _=>none) w (#[v]++Array.replicate 17 undef) (be 18 [(0,.agg (ac p))] [] []):=by
  refine hB.fresh (a:=#[v]++Array.replicate 17 undef) 0 (tmps:=[.agg (ac p)]++List.replicate 17 .undef) (by simp) fun t q u hq hu=>?_
  by_cases ht:t<1
  ·rw[vaf (by simpa using ht)]at hq
   rw[vaQ (by simpa using ht)]at hu
   match t,ht with
   |0,_=>simp at hq hu;subst hq;subst hu;exact hvr
  ·rw[vai (by show 1<=t;omega),vaU]at hq
   split at hq<;>cases hq
   exact .undef u
 show qfD.wpIn Fence.wide 0 Pg _ ⟨#[v]++Array.replicate 17 undef,[]⟩ w
 rw[qgB]
 refine wpIn_seq (wpIn_mono (aU.wideE (qlK p) hE h0 0 []) ?_)
 rintro e ⟨a1,ds1⟩ w1 ⟨rfl,Γ1,bs1,ow1,st1,h1,rfl,rfl⟩
 refine wpIn_seq (wpIn_mono (aU.wideE (qlL p) hE h1 0 []) ?_)
 rintro e ⟨a2,ds2⟩ w2 ⟨rfl,Γ2,bs2,ow2,st2,h2,rfl,rfl⟩
 refine wpIn_seq (wpIn_seq (wpIn_mono (aU.wideE (qlM p) hE h2 0 []) ?_))
 rintro e ⟨a3,ds3⟩ w3 ⟨rfl,Γ3,bs3,ow3,st3,h3,rfl,rfl⟩
 have h6:=h3.opv [] (.tmp 6)
 have e6:opv (V5 GE Γ w).GE (stR p).tmps (.tmp 6)=.func (.func fW) [] [.eptr (ac p)]:=rfl
 rw[e6]at h6
 have hbl:bs3.length=2:=h3.bl
 refine wpIn_block (wpIn_rangeFunc fun fn _=>?_)
 obtain⟨g1,l1⟩:=h3.allocO (.deferred (some []))
 obtain⟨g2,l2⟩:=g1.allocO (.loop (IA fn a3 w3.heap.size))
 have gF:=g2.forgetT (tm:=(qkn []).tmps) rfl
 have hsz3:w.heap.size<=w3.heap.size:=h3.step.size
 have htl:∀b,w3.heap.size<=b->¬cr bs3 ow3 b:=fun b hb hx=>by
  rcases hx with⟨i,hi⟩|hx
  ·have hil:i<(stR p).boxes.length:=by rw[<-h3.bl];exact av hi
   have:=(h3.bx i b _ hi (vab hil)).2.1
   omega
  ·cases hL:ow3 b with
   |none=>exact hx hL
   |some L=>have:=(h3.on b L hL).1;omega
 generalize hvf:(Act.mk a3 []).eval (.tmp 6)=vf at h6
 cases h6 with
 |func _ _ _ fs cs hl1 hl2 hf hc=>
 obtain rfl:fs=#[]:=vbc hl1
 obtain⟨cv,rfl⟩:∃v,cs=#[v]:=vcC.1 hl2
 have hcv:VR Γ3 bs3 w3 (.eptr (ac p)) cv:=hc 0 _ _ rfl rfl
 have hJ:JF Γ w bs3 a3 fn (w3.heap.size+1) w3.heap.size true [] Γ3 ((w3.alloc (.deferred (some []))).alloc (.loop (IA fn a3 w3.heap.size))):=by
  refine⟨rfl,ow3,gF,htl _ (by omega),htl _ (vah _),?_,?_⟩
  ·have:=World.alloc_heap_new (w3.alloc (.deferred (some []))) (.loop (IA fn a3 w3.heap.size))
   rwa[World.size_alloc]at this
  ·rw[eK _ _ (by rw[World.size_alloc];omega)]
   exact World.alloc_heap_new w3 _
 have hY:=qhV (Γe:=Γ) (we:=w) (bs:=bs3) (a:=a3) (fn:=fn) (l:=w3.heap.size+1) (D:=w3.heap.size) (by omega) hsz3 (by omega) hbl
 refine⟨_,_,_,{target:=.fn (.func fW) #[cv],args:=#[.func (.yield (w3.heap.size+1)) #[] #[]]},(w3.alloc (.deferred (some []))).alloc (.loop (IA fn a3 w3.heap.size)),fW,#[.func (.yield (w3.heap.size+1)) #[] #[],cv],(w3.alloc (.deferred (some []))).alloc (.loop (IA fn a3 w3.heap.size)),run_enterLoop_outer fn a3 #[7] (qiL qei) (qiM qei),?_,fun _ _=>trivial,?_,fun hx=>by simp[Fence.wide]at hx,?_⟩
 ·have hvf':(Act.mk a3 []).eval (.tmp 6)=.func (.func fW) #[] #[cv]:=hvf
  simp only[resolve,hvf',Deferred.ofValue]
  simp[Act.eval]
 ·simp[invoke,Tryz.call162]
 ·refine(qgD hY p (n:=0 - 1) hq hJ (((hcv.mono l1 (.refl _)).mono l2 (.refl _)).clo (show iy 0 (ac p)from ah p))).mono ?_
  rintro e w4 ⟨⟨u,rfl⟩,Γ4,hle4,hq1,ow4,h4,tl4,tD4,hl4,hD4⟩
  refine⟨none,_,run_endLoop hl4 (by simp),?_⟩
  obtain⟨h5,hle5⟩:=h4.putOther (l:=w3.heap.size+1) (o:=.loop {IA fn a3 w3.heap.size with state:=.exhausted}) tl4 (.inr (show w.heap.size<=_ by omega)) (fun c t fr e=>by rw[hl4]at e;cases e)
  have hD5:(w4.putObj (w3.heap.size+1) (.loop {IA fn a3 w3.heap.size with state:=.exhausted})).heap[w3.heap.size]? =some (.deferred (some [])):=(World.putObj_heap_other (by omega)).trans hD4
  generalize w4.putObj (w3.heap.size+1) (.loop {IA fn a3 w3.heap.size with state:=.exhausted})=w5 at h5 hle5 hD5
  show(Code.seq qkf .ret).wpIn Fence.wide 0 Pg _ ⟨a3,[{target:=.collected w3.heap.size,args:=#[]}]⟩ w5
  refine wpIn_mono (wpIn_wide.2 (aU.on (qlP q.2 hu) (by decide) h5 (by rw[hbl];decide) none [{target:=.collected w3.heap.size,args:=#[]}])) ?_
  rintro e ⟨a6,ds6⟩ w6 ⟨rfl,Γ6,bs6,ow6,st6,h6,⟨rfl,rfl⟩,hbs6,hle6,hsz6,hk6⟩
  obtain⟨k6,t6⟩:=hk6 _ (ko hD5) tD4
  have hD6:=k6.trans hD5
  obtain⟨h7,hle7⟩:=h6.putOther (l:=w3.heap.size) (o:=.deferred none) t6 (.inr hsz3) (fun c t fr e=>by rw[hD6]at e;cases e)
  refine⟨by simp,.inl ⟨w3.heap.size,_,rfl,run_takeDeferred hD6,?_⟩⟩
  have hS7:SR Pg ⟨GE,Γ,w,cr [] ow⟩ Γ6 bs6 ow6 (w6.putObj w3.heap.size (.deferred none)) a6 (qkq r):={h7 with
   bn:=fun i b hb=>(h7.bn i b hb).elim False.elim .inr
   on:=fun b L hL=>⟨(h7.on b L hL).1,(h7.on b L hL).2.elim False.elim .inr⟩
   gx:=hS.gx
   step:={h7.step with keep:=fun b hb _=>h7.step.keep b hb (fun hx=>hx)}}
  obtain⟨vr,e1,e2,e3⟩:=xX hS7 (fn:=Tryz.f156) (r:=sl cS r) (by kernel_rfl)
  refine⟨vr,e1,vr,Γ6,Hf (eI Tryz.f156.results.toList) [(0,9)] ow6,rfl,?_⟩
  have hrs:Tryz.f156.results.toList=[.tmp 2]:=by kernel_rfl
  have hf:=hS7.finish (H':=[]) (src:=eI Tryz.f156.results.toList) (ro:=[(0,9)]) e2 (aj dQ r) trivial (fun x hx=>by
   simp only[va3]at hx
   subst hx
   refine⟨?_,fun u v'=>e3 0 u v' ?_⟩
   ·rw[hrs];exact va3.2 rfl
   ·rw[hrs];trivial) (fun x hx y hy _=>by
   simp only[va3]at hx hy
   rw[hx,hy])
  simpa using hf
end Go.Proofs.YtbaamopmfmpfaaaGreatDoor
