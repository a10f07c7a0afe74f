/- PROVED: parts of the proof (GL VisC VisD VisE VisF). Conditions: none. -/
import Derived.Test.YtbaamopmfmpfaaaGreatDoorPkC13
import Derived.Test.YtbaamopmfmpfaaaGreatDoorPkC10
import Derived.Test.YtbaamopmfmpfaaaGreatDoorPkC12
import Derived.Shelf.Strconv.Itoa3
import Derived.Shelf.Sort.Plain
import Derived.Shelf.Slices.In.CompactS
import Derived.Shelf.Slices.In.SortNone
noncomputable section
namespace Go.Proofs.YtbaamopmfmpfaaaGreatDoor
open Go
set_option linter.unusedVariables false
set_option maxRecDepth 100000
def VF{S:Type}(J:Bool->S->ba->World->Prop)(Γ0:ba)(w0:World)(b:Bool)(s:S)(st:az)(a:Array Value)(w:World):Prop:=∃Γ,J b s Γ w/\Γ0.Le w0 Γ w/\∃E bs ow,SR Pg E Γ bs ow w a st
structure Dd(st:az)(k:Nat):Prop where
 c:ig 0 st.tmps
 b:st.boxes=List.replicate k .dead
 o:st.own=[]
structure R4(c:Code):Prop where
 eq:c=.region (qcc c) (mO c) false
 rg:List.range (mO c).size=[0,1]++2::([3]++[])
 p1:[0,1].map (fun i=>(mO c)[i]?)=((mO c).toList.take 2).map some
 p2:((mO c).toList.take 2).all KO=true
 o:(mO c)[2]? =some (Tj c 2)
 g:(Tj c 2).guard=none
 q1:[3].map (fun i=>(mO c)[i]?)=((mO c).toList.drop 3).map some
 q2:((mO c).toList.drop 3).all KO=true
theorem qcT:R4 YC:=⟨by kernel_rfl,by kernel_rfl,by kernel_rfl,by kernel_rfl,by kernel_rfl,by kernel_rfl,by kernel_rfl,by kernel_rfl⟩
theorem qcU:R4 YD:=⟨by kernel_rfl,by kernel_rfl,by kernel_rfl,by kernel_rfl,by kernel_rfl,by kernel_rfl,by kernel_rfl,by kernel_rfl⟩
theorem qaf:(Tj YC 2).op=.call {callee:=.value (.tmp 7),args:=#[.tmp 8],argTypes:=qad (Tj YC 2)}:=by kernel_rfl
theorem qbJ:(Tj YC 2).dst=some 9:=by kernel_rfl
theorem qag:(Tj YD 2).op=.call {callee:=.value (.func fV),args:=#[.tmp 18,.tmp 19],argTypes:=qad (Tj YD 2)}:=by kernel_rfl
theorem qbK:(Tj YD 2).dst=some 20:=by kernel_rfl
section
variable{S:Type}{step:S->aa->Option (Bool×S)}{J:Bool->S->ba->World->Prop}{l:Nat}{Γ0:ba}{w0:World}{b:Bool}{s:S}{st0 st1 stA stB:az}{k kA kB:Nat}{a:Array Value}{w:World}{n:Nat}{ds:List Deferred}
theorem VF.again(hY:Yd Pg GE l ac step J)(hD:Dd st0 k)(h:VF J Γ0 w0 b s st0 a w):∃Γ,J b s Γ w/\Γ0.Le w0 Γ w/\SR Pg (Pn GE Γ w) Γ (List.replicate k none) (fun _=>none) w a st0:=by
 obtain⟨Γ,hJ,hle,E,bs,ow,hS⟩:=h
 obtain⟨tm,H,own⟩:=st0
 have hb:H=_:=hD.b
 have ho:own=[]:=hD.o
 subst hb;subst ho
 exact⟨Γ,hJ,hle,hS.again hD.c (hY.base _ _ _ _ hJ) (.refl _ _) k⟩
theorem VF.redo(hY:Yd Pg GE l ac step J)(hD:Dd st0 k)(h:VF J Γ0 w0 b s st0 a w)(k':Nat):VF J Γ0 w0 b s ⟨st0.tmps,List.replicate k' .dead,[]⟩ a w:=by
 obtain⟨Γ,hJ,hle,hS⟩:=h.again hY hD
 exact⟨Γ,hJ,hle,_,_,_,hS.again hD.c (hY.base _ _ _ _ hJ) (.refl _ _) k'⟩
theorem VF.piece(hY:Yd Pg GE l ac step J){c:Code}{e:Exit}(hS:aT Pg GE 0 c (EX e st1) st0)(hD:Dd st0 k)(h:VF J Γ0 w0 b s st0 a w):
  c.wpIn Fence.wide n Pg (fun e' a' w'=>e'=e/\a'.defers=ds/\VF J Γ0 w0 b s st1 a'.tmps w') ⟨a,ds⟩ w:=by
 obtain⟨Γ,hJ,hle,hR⟩:=h.again hY hD
 refine wpIn_mono (hS.wide (hY.base _ _ _ _ hJ) hR n ds) ?_
 rintro e' a' w' ⟨hd,Γ',bs',ow',st',h',rfl,rfl⟩
 exact⟨rfl,hd,Γ',hY.side _ _ _ _ hJ _ _ _ _ _ _ h',hle.trans h'.step.le,_,_,_,h'⟩
theorem VF.reg(hY:Yd Pg GE l ac step J){c:Code}(hR:R4 c)(hD:Dd st0 k)(hDB:Dd stB kB)(hpre:cY Pg GE [] (mO c) (fun st=>FG st stA) ((mO c).toList.take 2) 0 st0)(hsuf:cY Pg GE [] (mO c) (fun st=>FG st st1) ((mO c).toList.drop 3) 0 stB){r:Bool×S}
  (hcall:∀a w (mN:Act->World->Prop) (Q:Exit->Act->World->Prop),VF J Γ0 w0 b s stA a w->(∀a' w',VF J Γ0 w0 r.1 r.2 stB a' w'->mN ⟨a',ds⟩ w')->(Tj c 2).wpIn Fence.wide n Pg ⟨a,ds⟩ w mN Q)
  (h:VF J Γ0 w0 b s st0 a w):c.wpIn Fence.wide n Pg (fun e' a' w'=>e'=.normal/\a'.defers=ds/\VF J Γ0 w0 r.1 r.2 st1 a'.tmps w') ⟨a,ds⟩ w:=by
 have key:(Code.region (qcc c) (mO c) false).wpIn Fence.wide n Pg (fun e' a' w'=>e'=.normal/\a'.defers=ds/\VF J Γ0 w0 r.1 r.2 st1 a'.tmps w') ⟨a,ds⟩ w:=by
  refine wpIn_region ?_
  rw[hR.rg]
  obtain⟨Γ,hJ,hle,hS⟩:=h.again hY hD
  refine BS (A:=[]) (K:=fun st=>FG st stA) (fun Γ' bs' ow' a' w' st hS' hK=>?_) _ _ Γ _ _ a w st0 hR.p1 (GF hR.p2) hS hpre
  obtain⟨Γ2,bs2,ow2,hS2⟩:=FG.sr hS' hK
  refine DI hR.o hR.g (hcall a' w' _ _ ⟨Γ2,hY.side _ _ _ _ hJ _ _ _ _ _ _ hS2,hle.trans hS2.step.le,_,_,_,hS2⟩ fun a3 w3 h3=>?_)
  obtain⟨Γ3,hJ3,hle3,hS3⟩:=h3.again hY hDB
  refine BS (A:=[]) (K:=fun st=>FG st st1) (fun Γ' bs' ow' a' w' st hS' hK=>?_) _ _ Γ3 _ _ a3 w3 stB hR.q1 (GF hR.q2) hS3 hsuf
  obtain⟨Γ4,bs4,ow4,hS4⟩:=FG.sr hS' hK
  exact⟨rfl,rfl,Γ4,hY.side _ _ _ _ hJ3 _ _ _ _ _ _ hS4,hle3.trans hS4.step.le,_,_,_,hS4⟩
 rw[<-hR.eq]at key
 exact key
theorem VF.ev(h:VF J Γ0 w0 b s st0 a w){t:Nat}{x:Bool}(ht:st0.tmps.getD t .undef=.bool x):(Act.mk a ds).eval (.tmp t)=.bool x:=by
 obtain⟨Γ,hJ,hle,E,bs,ow,hS⟩:=h
 have h1:=hS.opv ds (.tmp t)
 have e1:opv E.GE st0.tmps (.tmp t)=.bool x:=ht
 rw[e1]at h1
 generalize (Act.mk a ds).eval (.tmp t)=v at h1
 cases h1
 rfl
theorem VF.put(hY:Yd Pg GE l ac step J)(hD:Dd stA kA){Γ Γ':ba}{w':World}{E:rh}{bs:bI}{ow:Nat->Option lK}(hS:SR Pg E Γ bs ow w a stA)(hle:Γ0.Le w0 Γ w)(hle':Γ.Le w Γ' w'){r:Bool×S}(hJ':J r.1 r.2 Γ' w'){d:Nat}(hB:stB=⟨stA.tmps.set d (.bool r.1),List.replicate kA .dead,[]⟩):
  VF J Γ0 w0 r.1 r.2 stB (a.setIfInBounds d (.bool r.1)) w':=by
 have hS':=(hS.again hD.c (hY.base _ _ _ _ hJ') hle' kA).set (d:=d) (p:=.bool r.1) (v:=.bool r.1) (.bool _)
 exact⟨Γ',hJ',hle.trans hle',_,_,_,hB▸hS'⟩
theorem VF.yieldc(hY:Yd Pg GE l ac step J)(hD:Dd stA kA){p:aa}{r:Bool×S}(hr:step s p=some r){o:Oper}{f x d:Nat}{tys:Array TypeId}(h7:stA.tmps.getD f .undef=yv l)(h8:stA.tmps.getD x .undef=.agg (ac p))
  (ho:o.op=.call {callee:=.value (.tmp f),args:=#[.tmp x],argTypes:=tys}) (hd:o.dst=some d) (hB:stB=⟨stA.tmps.set d (.bool r.1),List.replicate kA .dead,[]⟩)
  {mN:Act->World->Prop} {Q:Exit->Act->World->Prop} (h:VF J Γ0 w0 true s stA a w) (hn:∀a' w',VF J Γ0 w0 r.1 r.2 stB a' w'->mN ⟨a',ds⟩ w'):o.wpIn Fence.wide n Pg ⟨a,ds⟩ w mN Q:=by
 obtain⟨Γ,hJ,hle,hS⟩:=h.again hY hD
 have h1:=hS.opv ds (.tmp f)
 have h2:=hS.opv ds (.tmp x)
 have e1:opv (Pn GE Γ w).GE stA.tmps (.tmp f)=yv l:=h7
 have e2:opv (Pn GE Γ w).GE stA.tmps (.tmp x)=.agg (ac p):=h8
 rw[e1]at h1;rw[e2]at h2
 have hev:(Act.mk a ds).eval (.tmp f)=.func (.yield l) #[] #[]:=by
  generalize (Act.mk a ds).eval (.tmp f)=v at h1
  cases h1;rfl
 refine SC ho hev (R:=fun e w'=>∃Γ',e=.returned (.bool r.1)/\Γ.Le w Γ' w'/\J r.1 r.2 Γ' w') ?_ ?_
 ·have:=hY.yield s Γ w p _ (n - 1) r hJ (h2.clo (by simp only[PVal.cl];exact ah p)) hr
  simpa using this
 ·rintro e w' ⟨Γ',rfl,hle',hJ'⟩
  refine⟨_,rfl,?_⟩
  rw[hd]
  exact hn _ _ (VF.put hY hD hS hle hle' hJ' hB)
def qaR(step:S->aa->Option (Bool×S))(J:Bool->S->ba->World->Prop)(l:Nat)(p:aa):Prop:=∀s r Γ w v n,Pf step p s=some r->J true s Γ w->VR Γ [] w (.agg (ac p)) v->
 CallsIn Fence.wide n Pg fV #[v,.func (.yield l) #[] #[]] w fun e w'=>∃Γ',e=.returned (.bool r.1)/\Γ.Le w Γ' w'/\J r.1 r.2 Γ' w'
theorem VF.visitc(hY:Yd Pg GE l ac step J)(hD:Dd stA kA){p:aa}(hp:qaR step J l p){r:Bool×S}(hr:Pf step p s=some r){o:Oper}{x y d:Nat}{tys:Array TypeId}(h7:stA.tmps.getD y .undef=yv l)(h8:stA.tmps.getD x .undef=.agg (ac p))
  (ho:o.op=.call {callee:=.value (.func fV),args:=#[.tmp x,.tmp y],argTypes:=tys}) (hd:o.dst=some d) (hB:stB=⟨stA.tmps.set d (.bool r.1),List.replicate kA .dead,[]⟩)
  {mN:Act->World->Prop} {Q:Exit->Act->World->Prop} (h:VF J Γ0 w0 true s stA a w) (hn:∀a' w',VF J Γ0 w0 r.1 r.2 stB a' w'->mN ⟨a',ds⟩ w'):o.wpIn Fence.wide n Pg ⟨a,ds⟩ w mN Q:=by
 obtain⟨Γ,hJ,hle,hS⟩:=h.again hY hD
 have h1:=hS.opv ds (.tmp y)
 have h2:=hS.opv ds (.tmp x)
 have e1:opv (Pn GE Γ w).GE stA.tmps (.tmp y)=yv l:=h7
 have e2:opv (Pn GE Γ w).GE stA.tmps (.tmp x)=.agg (ac p):=h8
 rw[e1]at h1;rw[e2]at h2
 have hev:(Act.mk a ds).eval (.tmp y)=.func (.yield l) #[] #[]:=by
  generalize (Act.mk a ds).eval (.tmp y)=v at h1
  cases h1;rfl
 refine TY ho (g:=fV) (fs:=#[]) (cs:=#[]) rfl Tryz.call163 (R:=fun e w'=>∃Γ',e=.returned (.bool r.1)/\Γ.Le w Γ' w'/\J r.1 r.2 Γ' w') ?_ ?_
 ·have:=hp s r Γ w _ (n - 1) hr hJ (h2.clo (by simp only[PVal.cl];exact ah p))
  simpa[hev]using this
 ·rintro e w' ⟨Γ',rfl,hle',hJ'⟩
  refine⟨_,rfl,?_⟩
  rw[hd]
  exact hn _ _ (VF.put hY hD hS hle hle' hJ' hB)
theorem VF.fin{x:Bool}{H:List aG}(h:VF J Γ0 w0 b s (vE H x) a w):(results Tryz.f163 a).run Pg w=.ok (.bool x) w:=by
 obtain⟨Γ,hJ,hle,E,bs,ow,hS⟩:=h
 obtain⟨v,h1,h2,_⟩:=uf hS (fn:=Tryz.f163) (r:=.bool x) (by kernel_rfl)
 cases h2
 exact h1
theorem Ub{N:Nat}{L:List (Nat×PVal)}(h:ZM 0 L)(k:Nat){H:List aG}(hH:H=List.replicate k .dead):Dd (aY N L H []) k:=⟨eg h,hH,rfl⟩
theorem T5(ks:List aa):(sl ac ks).cl 0:=aq ah ks
theorem YX(l:Nat)(ks:List aa)(i:Int):Dd (Zc l ks i) 1:=Ub (by exact aI trivial<|aI (T5 ks)<|aI trivial<|aI trivial trivial) 1 rfl
theorem YY(l:Nat)(ks:List aa)(i:Int):Dd (qat l ks i) 1:=Ub (by exact aI trivial<|aI (T5 ks)<|aI trivial<|aI trivial<|aI trivial trivial) 1 rfl
theorem YZ(l:Nat)(ks:List aa)(i:Int)(b:Bool):Dd (qbL l ks i b) 2:=Ub (by exact aI trivial<|aI (T5 ks)<|aI trivial<|aI trivial<|aI trivial trivial) 2 rfl
theorem SB(hY:Yd Pg GE l ac step J)(p:aa)(hk:∀x∈p.Kids,qaR step J l x):qaR step J l p:=by
 intro s r Γ w v n hv hJ hvr
 refine callsIn_of_wp Tryz.func163 (c:=bV) rfl trivial ?_
 have h0:VF J Γ w true s (aY 23 [(0,.agg (ac p)),(1,yv l)] [] []) (#[v,.func (.yield l) #[] #[]]++Array.replicate 21 undef) w:=by
  refine⟨Γ,hJ,.refl _ _,_,_,_,(hY.base _ _ _ _ hJ).fresh 0 (tmps:=[.agg (ac p),yv l]++List.replicate 21 .undef) (by simp) fun t q u hq hu=>?_⟩
  by_cases ht:t<2
  ·rw[vad (by simpa using ht)]at hq
   rw[vaP (by simpa using ht)]at hu
   match t,ht with
   |0,_=>simp at hq hu;subst hq;subst hu;exact hvr
   |1,_=>simp at hq hu;subst hq;subst hu;exact .val _
  ·rw[vaf (by simpa using ht),vaW]at hq
   split at hq<;>cases hq
   exact .undef u
 show bV.wpIn Fence.wide n Pg _ ⟨_,[]⟩ w
 rw[YF]at hv
 obtain⟨q,hq,hv⟩:=aB hv
 have hb:Pg.funcs.size=Pg.funcs.size:=rfl
 have hret:∀{b:Bool} {s:S} {x:Bool} {H:List aG} {a':Act} {w':World},a'.defers=[]->VF J Γ w b s (vE H x) a'.tmps w'->b=r.1->s=r.2->x=r.1->
   bodyPost Pg Tryz.f163 (fun e w'=>∃Γ',e=.returned (.bool r.1)/\Γ.Le w Γ' w'/\J r.1 r.2 Γ' w') .ret a' w':=by
  rintro b s x H a' w' hd h rfl rfl rfl
  refine⟨hd,.bool r.1,h.fin,?_⟩
  obtain⟨Γ',hJ',hle,_⟩:=h
  exact⟨Γ',rfl,hle,hJ'⟩
 rw[qa2]
 refine wpIn_seq (wpIn_mono (VF.piece hY (qec p l) (k:=0) (Ub (by exact aI (ah p)<|aI trivial trivial) 0 rfl) h0) ?_)
 rintro e ⟨a1,ds1⟩ w1 ⟨rfl,rfl,h1⟩
 have d2:(PVal.eptr (ac p)).cl 0:=by simp only[PVal.cl];exact ah p
 have d3:(PVal.agg (ac p)).cl 0:=by simp only[PVal.cl];exact ah p
 refine wpIn_seq (wpIn_seq (wpIn_mono (VF.reg hY qcT (k:=1) (kB:=1) (r:=q) (stB:=aY 23 [(1,yv l),(2,.eptr (ac p)),(7,yv l),(8,.agg (ac p)),(9,.bool q.1)] [.dead] []) (Ub (by exact aI trivial<|aI d2 trivial) 1 rfl) (Ub (by exact aI trivial<|aI d2<|aI trivial<|aI d3<|aI trivial trivial) 1 rfl) (qed p l) (qc3 p l q.1)
  (fun a w mN Q h hn=>VF.yieldc hY (kA:=1) (Ub (by exact aI trivial<|aI d2<|aI trivial<|aI d3 trivial) 1 rfl) hq (f:=7) (x:=8) (d:=9) rfl rfl qaf qbJ rfl h hn) h1) ?_))
 rintro e ⟨a2,ds2⟩ w2 ⟨rfl,rfl,h2⟩
 refine wpIn_cond (h2.ev (t:=10) (x:=!q.1) rfl) ?_
 have dS2:∀b:Bool,Dd (aY 23 [(1,yv l),(2,.eptr (ac p)),(10,.bool b)] [.dead] []) 1:=fun b=>Ub (by exact aI trivial<|aI d2<|aI trivial trivial) 1 rfl
 obtain⟨q1,q2⟩:=q
 cases q1 with
 |false=>
  cases hv
  refine wpIn_mono (VF.piece hY (qee p l) (dS2 true) h2) ?_
  rintro e ⟨a3,ds3⟩ w3 ⟨rfl,rfl,h3⟩
  exact hret rfl h3 rfl rfl rfl
 | true =>
  simp only at hv
  split at hv
  case isFalse=>cases hv
  rename_i hlen
  refine wpIn_skip ?_
  refine wpIn_seq (wpIn_seq (wpIn_mono (VF.piece hY (qef p l) (dS2 false) h2) ?_))
  rintro e ⟨a3,ds3⟩ w3 ⟨rfl,rfl,h3⟩
  refine wpIn_block (wpIn_loop_ghost (fun k a w'=>a.defers=[]/\∃(i:Nat) (s':S),k=p.Kids.length - i/\i<=p.Kids.length/\Pe step (p.Kids.drop i) s'=some r/\VF J Γ w true s' (Zc l p.Kids (i:Int)) a.tmps w') (p.Kids.length)
   ⟨rfl,0,q2,rfl,vaO _,hv,h3⟩ ?_)
  rintro k ⟨a4,ds4⟩ w4 ⟨hd4,i,s',rfl,hi,hvl,h4⟩
  simp only at hd4;subst hd4
  rw[qbI]
  refine wpIn_seq (wpIn_mono (VF.piece hY (qeg l p.Kids i) (YX _ _ _) h4) ?_)
  rintro e ⟨a5,ds5⟩ w5 ⟨rfl,rfl,h5⟩
  refine wpIn_seq (wpIn_cond (h5.ev (t:=15) (x:=decide ((i:Int)<(p.Kids.length:Int))) rfl) ?_)
  by_cases hlt:i<p.Kids.length
  ·rw[vbp (by omega)]
   refine wpIn_skip ?_
   have hdrop:p.Kids.drop i=p.Kids[i]::p.Kids.drop (i+1):=va7 hlt
   rw[hdrop,Pe]at hvl
   obtain⟨q',hq',hvl⟩:=aB hvl
   have hx:cR p.Kids (i:Int)=some p.Kids[i]:=bv _ _ hlt
   generalize hxx:p.Kids[i]=x at *
   have hxm:x∈p.Kids:=hxx▸vat hlt
   have e2:(PVal.eptr (ac x)).cl 0:=by simp only[PVal.cl];exact ah x
   have e3:(PVal.agg (ac x)).cl 0:=by simp only[PVal.cl];exact ah x
   refine wpIn_seq (wpIn_block (wpIn_seq (wpIn_mono (VF.piece hY (qeh l p.Kids i x hx) (YY _ _ _) h5) ?_)))
   rintro e ⟨a6,ds6⟩ w6 ⟨rfl,rfl,h6⟩
   refine wpIn_seq (wpIn_mono (VF.reg hY qcU (k:=2) (kB:=2) (r:=q') (stB:=qdD l p.Kids i x q'.1) (Ub (by exact aI trivial<|aI e2<|aI (T5 _)<|aI trivial<|aI trivial trivial) 2 rfl) (Ub (by exact aI trivial<|aI (T5 _)<|aI trivial<|aI trivial<|aI e3<|aI trivial<|aI trivial trivial) 2 rfl) (qei l p.Kids i x) (qc4 l p.Kids i x q'.1)
    (fun a w mN Q h hn=>VF.visitc hY (kA:=2) (Ub (by exact aI trivial<|aI (T5 _)<|aI trivial<|aI trivial<|aI e3<|aI trivial trivial) 2 rfl) (hk x hxm) hq' (y:=19) (x:=18) (d:=20) rfl rfl qag qbK rfl h hn) h6) ?_)
   rintro e ⟨a7,ds7⟩ w7 ⟨rfl,rfl,h7⟩
   refine wpIn_cond (h7.ev (t:=21) (x:=!q'.1) rfl) ?_
   obtain⟨q1,q2⟩:=q'
   cases q1 with
   |false=>
    cases hvl
    refine wpIn_mono (VF.piece hY (qej l p.Kids i) (YZ _ _ _ _) h7) ?_
    rintro e ⟨a8,ds8⟩ w8 ⟨rfl,rfl,h8⟩
    exact hret rfl h8 rfl rfl rfl
   |true=>
    refine wpIn_skip ?_
    refine wpIn_mono (VF.piece hY (qek l p.Kids i) (YZ _ _ _ _) h7) ?_
    rintro e ⟨a8,ds8⟩ w8 ⟨rfl,rfl,h8⟩
    refine⟨p.Kids.length - (i+1),by omega,rfl,i+1,q2,rfl,hlt,hvl,?_⟩
    have e:aR ((i:Int)+1)=((i+1:Nat):Int):=by rw[dB (by omega) (by omega)];omega
    rw[e]at h8
    exact VF.redo (st0:=⟨(Zc l p.Kids ((i+1:Nat):Int)).tmps,[.dead,.dead],[]⟩) hY (k:=2) ⟨(YX l p.Kids _).c,rfl,rfl⟩ h8 1
  ·rw[decide_eq_false (by omega)]
   refine wpIn_exit ?_
   have hi':i=p.Kids.length:=by omega
   rw[vbC (by omega),Pe]at hvl
   cases hvl
   refine wpIn_mono (VF.piece hY (qel l p.Kids i) (YY _ _ _) h5) ?_
   rintro e ⟨a6,ds6⟩ w6 ⟨rfl,rfl,h6⟩
   exact hret rfl h6 rfl rfl rfl
mutual
theorem Q6(hY:Yd Pg GE l ac step J):∀p:aa,qaR step J l p
 |⟨o,n,k,ks⟩=>SB hY ⟨o,n,k,ks⟩ (Nw hY ks)
theorem Nw(hY:Yd Pg GE l ac step J):∀ks:List aa,∀x∈ks,qaR step J l x
 |[],x,hx=>by simp at hx
 | y :: ks,x,hx => by
  rcases vaA.1 hx with h|h
  ·exact h▸Q6 hY y
  ·exact Nw hY ks x h
end
end
open Go Go.Sort
def S6(n:Int):Option ag:=if(decide (-9223372036854775808<=n)&&decide (n<=9223372036854775807))=true then some (Lib.itoa n)else none
theorem WR:jt=Lib.pow10Tab:=by kernel_rfl
theorem X0{n:Int}{r:ag}(h:S6 n=some r):CC Pg GE 95 [.int .i64 n] (.str r) []:=by
 rcases aZ h with⟨b,h⟩|⟨b,h⟩
 ·obtain rfl:=lf h
  simp only[vag,vam]at b
  refine CC.grownIS Tryz.call95 fun E Γ bs ow w a st hE hS=>?_
  have htab:Lib.TabIs Pg w "internal/strconv.uint64pow10" .u64 Lib.pow10Tab:=qaa hS (g:=0) (by rw[hE,←WR];simp[GE]) (by kernel_rfl)
  refine(Any.strconv_Itoa Tryz.laysM171 n b.1 b.2 w htab).mono fun e w' he=>?_
  obtain⟨rfl,k,os,rfl⟩:=he
  exact⟨rfl,.of_grow _ _ _⟩
 ·cases h
def kV(l:List ag):List ag:=l.mergeSort fun x y=>decide (x<=y)
theorem P2{w:World}{b:Nat}{cur:Array Value}{e:TypeId}{l:List ag}(hh:w.heap[b]? =some (.cells cur e (0,0)))(ht:cur.toList.take l.length=l.map fun s=>Value.string ⟨s.toArray⟩):Holds encStr w b 0 l.toArray:=by
 intro j hj
 have hj':j<l.length:=by simpa using hj
 rw[vaK]
 refine⟨?_,frozen_of_row w b j cur e hh⟩
 rw[cell_of_row w b j cur e _ hh]
 have h1:(cur.toList.take l.length)[j]? =(l.map fun s=>Value.string ⟨s.toArray⟩)[j]?:=by rw[ht]
 rw[vao hj']at h1
 simp only[va0,vaB,vab hj',vaj]at h1
 rw[h1,getElem!_pos _ j hj]
 simp[encStr]
theorem Nl{w:World}{b n:Nat}{cur:Array Value}{e:TypeId}{os:Array Obj}(d l:List ag)(hh:w.heap[b]? =some (.cells cur e (0,0)))(hd:d.length<=cur.size)(hl:d.take l.length=l):
  (∀b',b'<w.heap.size->b'≠b->(grow (putRow encStr (Sort.ahead w n) b 0 d.toArray) os).heap[b']? =w.heap[b']?)/\w.heap.size<=(grow (putRow encStr (Sort.ahead w n) b 0 d.toArray) os).heap.size/\
   ∃cur',(grow (putRow encStr (Sort.ahead w n) b 0 d.toArray) os).heap[b]? =some (.cells cur' e (0,0))/\cur'.size=cur.size/\cur'.toList.take l.length=l.map fun s=>Value.string ⟨s.toArray⟩:=by
 have hb:b<w.heap.size:=(vaq.1 hh).1
 have hsz:(putRow encStr (Sort.ahead w n) b 0 d.toArray).heap.size=w.heap.size:=by simp[putRow,mapBlock,Sort.ahead]
 refine⟨fun b' h1 h2=>?_,?_,putCells encStr 0 d.toArray cur,?_,by simp[putCells],?_⟩
 ·show((putRow encStr (Sort.ahead w n) b 0 d.toArray).heap++os)[b']? =_
  rw[vaP (by rw[hsz];exact h1)]
  show(w.heap.modify b (onCells _))[b']? =_
  rw[vbS,van (fun e=>h2 e.symm)]
 ·show _<=((putRow encStr (Sort.ahead w n) b 0 d.toArray).heap++os).size
  rw[Array.size_append,hsz];omega
 ·show((putRow encStr (Sort.ahead w n) b 0 d.toArray).heap++os)[b]? =_
  rw[vaP (by rw[hsz];exact hb)]
  show(w.heap.modify b (onCells _))[b]? =_
  rw[vbS,vak rfl,hh]
  rfl
 ·have hll:l.length<=d.length:=by have h0:=vbr List.length hl;rw[vaM]at h0;omega
  refine vbk fun i=>?_
  by_cases hi:i<l.length
  ·have hdl:i<d.length:=by omega
   have hdi:d[i]=l[i]:=by
    have h1:(d.take l.length)[i]? =l[i]?:=by rw[hl]
    rw[vao hi,vab hdl,vab hi]at h1
    exact vbB h1
   rw[vao hi]
   simp only[va0,putCells,Array.getElem?_mapIdx,vaB,vab hi,vaj]
   have hc:cur[i]? =some (cur[i]'(by omega)):=vbd (by omega)
   rw[hc]
   simp only[vaj]
   rw[vak ⟨vaO _,by simp;omega⟩,Nat.sub_zero,getElem!_pos _ i (by simpa using hdl)]
   simp[encStr,hdi]
  ·rw[vau (by simp[putCells];omega),vau (by simp;omega)]
theorem o0(l:List ag):(kV l).length=l.length:=by unfold kV;exact List.length_mergeSort _
theorem Vs{n:Nat}(h:n<=ee):n<4611686018427387904:=by unfold ee at h;omega
theorem Yu:Vi Pg 160 9 (fun s=>Value.string ⟨s.toArray⟩) kV (fun _ _ _=>.tuple #[]):={
 call:=Tryz.call160
 row:=fun w b cap cur l hh hc hl hm hla ht=>by
  have hlen:=Vs hla
  refine(Any.slices_Sort_string Tryz.lays190 b 0 cap l w (P2 hh ht) ((vaq.1 hh).1) hlen).mono fun r w' hr=>?_
  obtain⟨rfl,n,os,rfl⟩:=hr
  obtain⟨k1,k2,cur',k3,k4,k5⟩:=Nl (n:=n) (os:=os) (kV l) (kV l) hh (by rw[o0];omega) (vbn)
  exact⟨rfl,by rw[o0];exact hl,rfl,rfl,rfl,k2,k1,cur',k3,by omega,k5⟩
 none:=fun w=>⟨by simp[kV],Any.slices_Sort_string_none Tryz.lays190 Option.none 0 w⟩}
theorem Og(l:List ag):(Lib.compact l++List.replicate (l.length - (Lib.compact l).length) []).take (Lib.compact l).length=Lib.compact l:=by simp
theorem Hb(l:List ag):(Lib.compact l).length<=l.length:=by
 unfold Lib.compact Lib.compactUpTo
 rw[vaL]
 exact vaI (vbb _ _) (by simp)
theorem RG:Vi Pg 161 9 (fun s=>Value.string ⟨s.toArray⟩) Lib.compact (fun x k c=>.slice x k c):={
 call:=Tryz.call161
 row:=fun w b cap cur l hh hc hl hm hla ht=>by
  have hlen:=Vs hla
  refine(calls_of_every_depth fun D=>AnyS.slices_Compact_string_in Tryz.lays194 D b 0 cap l w (P2 hh ht) (by omega) hl).mono fun r w' hr=>?_
  obtain⟨rfl,q,rfl⟩:=hr
  have hcl:=Hb l
  obtain⟨k1,k2,cur',k3,k4,k5⟩:=Nl (n:=q) (os:=#[]) (Lib.compact l++List.replicate (l.length - (Lib.compact l).length) []) (Lib.compact l) hh (by simp;omega) (Og l)
  rw[grow_empty]at k1 k2 k3
  exact⟨rfl,by omega,rfl,rfl,rfl,k2,k1,cur',k3,by omega,k5⟩
 none:=fun w=>⟨by rfl,calls_of_every_depth fun D=>AnyS.slices_Compact_string_empty_in Tryz.lays194 D Option.none 0 w⟩}
def nM(a b:List ag):Option (List ag):=(app ([]:List ag) a).bind fun l=>(app l b).bind fun l2=>some (Lib.compact (kV l2))
def Rn:Code:=Tryz.f158.body.getD .skip
theorem qdl:Pg.cellsOf 9=1:=by kernel_rfl
theorem YA(l:List ag)(h:l.length<=ee):aT Pg GE 0 (fI Rn [true,true,false]) (EX .normal (gJ 15 5 (kV l) 9)) (gJ 15 5 l 9):=
 aT.inplace (t:=5) (d1:=11) (d2:=12) Yu qdl h rfl rfl rfl rfl rfl rfl (by decide) (.inl ⟨rfl,o0 l⟩)
theorem YB(l:List ag)(h:l.length<=ee):aT Pg GE 0 (fI Rn [true,true,true,false]) (EX .normal (gJ 15 4 (Lib.compact l) 9)) (gJ 15 5 l 9):=
 aT.inplace3 (t:=5) (d1:=13) (d2:=14) RG qdl h rfl rfl rfl rfl rfl rfl (by decide) (fun _ _ _=>rfl) rfl rfl rfl (by decide) (by decide)
theorem XD{α:Type}{l r z:List α}(h:app l r=some z):z.length<=ee:=by
 unfold app at h
 split at h
 ·cases h;simpa using ‹_›
 ·cases h
theorem A2{a b:List ag}{r:List ag}(h:nM a b=some r):CC Pg GE 158 [sl cS a,sl cS b] (sl cS r) [(0,9)]:=by
 obtain⟨l,bl,h⟩:=aB h
 obtain⟨l2,bl2,h⟩:=aB h
 obtain rfl:=lf h
 have h2:=XD bl2
 have h3:(kV l2).length<=ee:=by rw[o0];exact h2
 exact C.ev (A:=[8,10]) mixed Tryz.call158 Tryz.func158 (c:=Rn) rfl (aI (aq gG a)<|aI (aq gG b) trivial)
  [.v (sl cS ([]:List ag)),.v (sl cS l),.v (sl cS l2),.pa 0,.pc (gJ 15 5 l2 9) .normal (gJ 15 5 (kV l2) 9),.pa 0,.pc (gJ 15 5 (kV l2) 9) .normal (gJ 15 4 (Lib.compact (kV l2)) 9)]
  (Eq.mp (by kernel_rfl) (aI (bJ.mk' (v:=PVal.str) KI ([]:List ag) 0 (by kernel_rfl))<|aI (bJ.ap bl)<|aI (bJ.ap bl2)<|aI (fr (gJ 15 5 l2 9))<|aI (YA l2 h2)<|
   aI (fr (gJ 15 5 (kV l2) 9))<|aI (YB (kV l2) h3)<|aI (rP (sl cS (Lib.compact (kV l2)))) (aq gG (Lib.compact (kV l2)))))
abbrev fB:Nat:=159
abbrev fW:Nat:=162
def bW:Code:=Tryz.f162.body.getD .skip
def bB:Code:=Tryz.f159.body.getD .skip
theorem TV(p:aa):CC Pg GE fB [.agg (ac p)] (.func (.func fW) [] [.eptr (ac p)]) []:=by
 have z:=se (cr p)<|en (aI (rP (.func (.func fW) [] [.eptr (ac p)]))<|(aI trivial (aI (show ig 0 (ac p)from ah p) trivial)))
 exact C.evp (A:=[]) mixed Tryz.call159 Tryz.func159 (c:=bB) rfl (aI (ah p) trivial) z (by kernel_rfl)
theorem qa3:bW=.region (qcc bW) (mO bW) false:=by kernel_rfl
theorem qa7:List.range (mO bW).size=[0,1]++2::([]:List Nat):=by kernel_rfl
theorem qa5:[0,1].map (fun i=>(mO bW)[i]?)=((mO bW).toList.take 2).map some:=by kernel_rfl
theorem qa6:((mO bW).toList.take 2).all KO=true:=by kernel_rfl
theorem qcI:(mO bW)[2]? =some (Tj bW 2):=by kernel_rfl
theorem qcH:(Tj bW 2).guard=none:=by kernel_rfl
theorem qa4:(Tj bW 2).op=.call {callee:=.value (.func fV),args:=#[.tmp 3,.tmp 4],argTypes:=qad (Tj bW 2)}:=by kernel_rfl
theorem qcG:(Tj bW 2).dst=some 5:=by kernel_rfl
theorem ZG(p:aa)(l:Nat):cY Pg GE [] (mO bW) (fun st=>FG st (aY 6 [(3,.agg (ac p)),(4,yv l)] [] [])) ((mO bW).toList.take 2) 0 (aY 6 [(0,yv l),(1,.eptr (ac p))] [] []):=by
 have z:=sv (be p)<|en (fr (aY 6 [(3,.agg (ac p)),(4,yv l)] [] []))
 exact Fa z (by kernel_rfl)
section
variable{S:Type}{step:S->aa->Option (Bool×S)}{J:Bool->S->ba->World->Prop}{l:Nat}
theorem ZH(hY:Yd Pg GE l ac step J)(p:aa){s:S}{r:Bool×S}{Γ:ba}{w:World}{v:Value}{n:Nat}(hv:Pf step p s=some r)(hJ:J true s Γ w)(hvr:VR Γ [] w (.eptr (ac p)) v):
  CallsIn Fence.wide n Pg fW #[.func (.yield l) #[] #[],v] w fun e w'=>(∃u,e=.returned u)/\∃Γ',Γ.Le w Γ' w'/\J r.1 r.2 Γ' w':=by
 refine callsIn_of_wp Tryz.func162 (c:=bW) rfl trivial ?_
 have h0:VF J Γ w true s (aY 6 [(0,yv l),(1,.eptr (ac p))] [] []) (#[.func (.yield l) #[] #[],v]++Array.replicate 4 undef) w:=by
  refine⟨Γ,hJ,.refl _ _,_,_,_,(hY.base _ _ _ _ hJ).fresh 0 (tmps:=[yv l,.eptr (ac p)]++List.replicate 4 .undef) (by simp) fun t q u hq hu=>?_⟩
  by_cases ht:t<2
  ·rw[vad (by simpa using ht)]at hq
   rw[vaP (by simpa using ht)]at hu
   match t,ht with
   |0,_=>simp at hq hu;subst hq;subst hu;exact .val _
   |1,_=>simp at hq hu;subst hq;subst hu;exact hvr
  ·rw[vaf (by simpa using ht),vaW]at hq
   split at hq<;>cases hq
   exact .undef u
 show bW.wpIn Fence.wide n Pg _ ⟨_,[]⟩ w
 have d2:(PVal.eptr (ac p)).cl 0:=ah p
 have d3:(PVal.agg (ac p)).cl 0:=ah p
 have key:(Code.region (qcc bW) (mO bW) false).wpIn Fence.wide n Pg (bodyPost Pg Tryz.f162 fun e w'=>(∃u,e=.returned u)/\∃Γ',Γ.Le w Γ' w'/\J r.1 r.2 Γ' w') ⟨#[.func (.yield l) #[] #[],v]++Array.replicate 4 undef,[]⟩ w:=by
  refine wpIn_region ?_
  rw[qa7]
  obtain⟨Γ1,hJ1,hle1,hS⟩:=VF.again hY (k:=0) (Ub (L:=[(0,yv l),(1,.eptr (ac p))]) (by exact aI trivial<|aI d2 trivial) 0 rfl) h0
  refine BS (A:=[]) (K:=fun st=>FG st (aY 6 [(3,.agg (ac p)),(4,yv l)] [] [])) (fun Γ' bs' ow' a' w' st hS' hK=>?_) _ _ Γ1 _ _ _ w _ qa5 (GF qa6) hS (ZG p l)
  obtain⟨Γ2,bs2,ow2,hS2⟩:=FG.sr hS' hK
  refine DI qcI qcH (VF.visitc hY (kA:=0) (stB:=aY 6 [(3,.agg (ac p)),(4,yv l),(5,.bool r.1)] [] []) (Ub (by exact aI d3<|aI trivial trivial) 0 rfl) (Q6 hY p) hv (y:=4) (x:=3) (d:=5) rfl rfl qa4 qcG rfl ⟨Γ2,hY.side _ _ _ _ hJ1 _ _ _ _ _ _ hS2,hle1.trans hS2.step.le,_,_,_,hS2⟩ fun a3 w3 h3=>?_)
  obtain⟨Γ3,hJ3,hle3,E,bs3,ow3,hS3⟩:=h3
  obtain⟨u,e1,_⟩:=uf hS3 (fn:=Tryz.f162) (r:=.tuple []) (by kernel_rfl)
  exact⟨rfl,u,e1,⟨u,rfl⟩,Γ3,hle3,hJ3⟩
 rw[<-qa3]at key
 exact key
end
abbrev qd1:Nat:=156
def YM:Code:=Tryz.f156.body.getD .skip
def qbC:Code->Code
 |.rangeFunc _ _ a _=>a
 |_=>.skip
def qbD:Code->Code
 |.rangeFunc _ _ _ b=>b
 |_=>.skip
abbrev qdr:Code:=fI YM [false]
abbrev qds:Code:=fI YM [true,false]
abbrev qdt:Code:=fI YM [true,true,false,false]
abbrev Xp:Code:=fI YM [true,true,false,true,false]
abbrev qcP:Code:=fI YM [true,true,true,false]
theorem ZF:YM=.seq qdr (.seq qds (.seq (.seq qdt (.block 0 (.rangeFunc (.tmp 6) #[7] (qbC Xp) (qbD Xp)))) (.seq qcP .ret))):=by kernel_rfl
def qR(s:List ag)(x:aa):Option (Bool×List ag):=if(x.Op==3)=true then(app s [x.Name]).bind fun l=>some (true,l)else some (true,s)
def pO(p:aa):Option (List ag):=(Pf qR p []).bind fun q=>(nM q.2 []).bind fun r=>some r
abbrev Xo(s:List ag):List aG:=[.dead,.cells [sl cS s] [(0,9)]]
abbrev qcV(s:List ag):az:=aY 18 [(3,.bptr 1 0)] (Xo s) []
theorem qd4(p:aa):aT Pg GE 0 qdr (EX .normal (aY 18 [(1,.eptr (ac p))] [.dead] [])) (aY 18 [(0,.agg (ac p))] [] []):=by
 have z:=se (cr p)<|eF .normal (aY 18 [(1,.eptr (ac p))] [.dead] [])
 exact lU (A:=[]) mixed z (by kernel_rfl)
theorem qd5(p:aa):aT Pg GE 0 qds (EX .normal (aY 18 [(1,.eptr (ac p)),(3,.bptr 1 0)] (Xo []) [])) (aY 18 [(1,.eptr (ac p))] [.dead] []):=by
 have z:=sx (show jC Pg 32=some [sl cS ([]:List ag)] by kernel_rfl)<|eF .normal (aY 18 [(1,.eptr (ac p)),(3,.bptr 1 0)] (Xo []) [])
 exact lU (A:=[]) mixed z (by kernel_rfl)
abbrev stR(p:aa):az:=aY 18 [(3,.bptr 1 0),(6,.func (.func fW) [] [.eptr (ac p)])] (Xo []) []
theorem qd6(p:aa):aT Pg GE 0 qdt (EX .normal (stR p)) (aY 18 [(1,.eptr (ac p)),(3,.bptr 1 0)] (Xo []) []):=by
 have z:=sv (be p)<|bT (TV p)<|eF .normal (stR p)
 exact lU (A:=[]) mixed z (by kernel_rfl)
abbrev qcW(s:List ag)(x:aa):az:=aY 18 [(3,.bptr 1 0),(4,.bptr 2 0)] (Xo s++[.cells (Pq x) []]) []
theorem qd7(s:List ag)(x:aa):aT Pg GE 2 (qbC Xp) (EX .normal (qcW s x)) (aY 18 [(3,.bptr 1 0),(7,.agg (ac x))] (Xo s) []):=by
 have z:=sx lC<|sx (dn x)<|eF .normal (qcW s x)
 exact lU (A:=[]) mixed z (by kernel_rfl)
abbrev qcX(r:List ag):az:=aY 18 [(3,.bptr 1 0)] (Xo r++[.dead]) []
theorem qd8(s:List ag)(x:aa){r:Bool×List ag}(h:qR s x=some r):r.1=true/\aT Pg GE 2 (qbD Xp) (EX .normal (qcX r.2)) (qcW s x):=by
 unfold qR at h
 rcases aZ h with⟨c1,h⟩|⟨c1,h⟩
 ·obtain⟨l,bl,h⟩:=aB h
  cases h
  refine⟨rfl,?_⟩
  have z:=ss<|sg 0 c1<|ss<|sv (bJ.mk' (v:=PVal.str) KI ([x.Name]:List ag) 1 (by kernel_rfl))<|sv (bJ.ap bl)<|eF .normal (qcX l)
  exact lU (A:=[11]) mixed z (by kernel_rfl)
 ·cases h
  refine⟨rfl,?_⟩
  have z:=ss<|sg 0 c1<|eF .normal (qcX s)
  exact lU (A:=[11]) mixed z (by kernel_rfl)
abbrev qcY(r:List ag):az:=aY 18 [(2,sl cS r)] [.dead,.dead] [((2,0),9)]
theorem qd9(s:List ag){r:List ag}(h:nM s []=some r):aT Pg GE 2 (.seq qcP .ret) (EX .ret (qcY r)) (qcV s):=by
 have z:=sv (show aU Pg 32 [sl cS s]=some (sl cS s) by kernel_rfl)<|bT (A2 h)<|eF .ret (qcY r)
 exact lU (A:=[]) mixed z (by kernel_rfl)
abbrev DR(fn:FuncId)(a:Array Value)(D:Nat):Loop:={state:=.ready,pending:=none,fn:=fn,tmps:=a,params:=#[7],assign:=qbC Xp,body:=qbD Xp,defers:=D}
def JF(Γe:ba)(we:World)(bs:bI)(a:Array Value)(fn:FuncId)(l D:Nat)(b:Bool)(s:List ag)(Γ:ba)(w:World):Prop:=
 b=true/\∃ow,SR Pg (Pn GE Γe we) Γ bs ow w a (qcV s)/\¬bY bs ow l/\¬bY bs ow D/\w.heap[l]? =some (.loop (DR fn a D))/\w.heap[D]? =some (.deferred (some []))
theorem jh{w:World}{b:Nat}{o:Obj}(h:w.heap[b]? =some o):b<w.heap.size:=(vaq.1 h).1
theorem qaP{Γe:ba}{we:World}{bs:bI}{a:Array Value}{fn:FuncId}{l D:Nat}(hl:we.heap.size<=l)(hD:we.heap.size<=D)(hne:D≠l)(hb:bs.length=2):Yd Pg GE l ac qR (JF Γe we bs a fn l D) where
 base:=fun b s Γ w ⟨_,ow,h,_⟩=>h.base
 side:=fun b s Γ w ⟨h0,ow,h,hTl,hTD,hhl,hhD⟩ Γ' bs' ow' w' a' st' h'=>
  ⟨h0,ow,h.aside h',hTl,hTD,(h'.step.keep l (jh hhl) id).1.trans hhl,(h'.step.keep D (jh hhD) id).1.trans hhD⟩
 yield:=fun s Γ w x v n r ⟨h0,ow,h,hTl,hTD,hhl,hhD⟩ hv hr=>by
  obtain⟨hr1,hS4⟩:=qd8 s x hr
  refine⟨_,_,_,_,run_yield hhl rfl,?_⟩
  have hz:(((#[7]:Array Tmp).zip #[v]).foldl (fun tmps (t,a)=>tmps.setIfInBounds t a) a)=a.setIfInBounds 7 v:=by simp
  show RoundIn Fence.wide n Pg l fn (((#[7]:Array Tmp).zip #[v]).foldl (fun tmps (t,a)=>tmps.setIfInBounds t a) a) (qbC Xp) (qbD Xp) w _
  rw[hz]
  have h7:SR Pg (Pn GE Γe we) Γ bs ow w (a.setIfInBounds 7 v) (aY 18 [(3,.bptr 1 0),(7,.agg (ac x))] (Xo s) []):=h.set (d:=7) (p:=.agg (ac x)) (hv.mono (.refl _ _) (fun i b hi=>by simp at hi))
  refine roundIn_of_wpIn trivial (wpIn_mono (aT.on (qd7 s x) (by decide) h7 (by rw[hb];decide) (some l) [] n) ?_)
  rintro e ⟨a1,ds1⟩ w1 ⟨rfl,Γ1,bs1,ow1,st1,h1,⟨rfl,rfl⟩,hbs1,hle1,hsz1,hk1⟩
  obtain⟨k1,t1⟩:=hk1 l (jh hhl) hTl
  obtain⟨k1D,t1D⟩:=hk1 D (jh hhD) hTD
  have hl1:=k1.trans hhl
  refine⟨_,run_beginRound hl1 rfl,?_⟩
  obtain⟨h1',hle1'⟩:=h1.putOther (l:=l) (o:=.loop {DR fn a D with state:=.busy}) t1 (.inr hl) (fun c t fr e=>by rw[hl1]at e;cases e)
  have hb1:2<=bs1.length:=by have:=h1.bl;rw[this];exact Nat.le_of_ble_eq_true rfl
  refine wpIn_mono (aT.on hS4 (by decide) h1' hb1 (some l) [] n) ?_
  rintro e ⟨a2,ds2⟩ w2 ⟨rfl,Γ2,bs2,ow2,st2,h2,⟨rfl,rfl⟩,hbs2,hle2,hsz2,hk2⟩
  have hl1':(w1.putObj l (.loop {DR fn a D with state:=.busy})).heap[l]? =some (.loop {DR fn a D with state:=.busy}):=World.putObj_heap_same (jh hl1)
  have hD1':(w1.putObj l (.loop {DR fn a D with state:=.busy})).heap[D]? =some (.deferred (some [])):=(World.putObj_heap_other hne).trans (k1D.trans hhD)
  obtain⟨k2,t2⟩:=hk2 l (jh hl1') t1
  obtain⟨k2D,t2D⟩:=hk2 D (jh hD1') t1D
  have hl2:=k2.trans hl1'
  refine⟨_,_,run_endRound none hl2,?_⟩
  obtain⟨h3,hle3⟩:=h2.putOther (l:=l) (o:=.loop {{DR fn a D with state:=.busy}with state:=if(none:Option Code).isNone then .ready else .done,pending:=none}) t2 (.inr hl) (fun c t fr e=>by rw[hl2]at e;cases e)
  have hle:Γ.Le w Γ2 (w2.putObj l (.loop {{DR fn a D with state:=.busy}with state:=if(none:Option Code).isNone then .ready else .done,pending:=none})):=((hle1.trans hle1').trans hle2).trans hle3
  obtain⟨ow3,h4,hT4⟩:=h.back rfl h3 hle (H':=Xo r.2) (fun i hi=>(hbs2 i (by omega)).trans (hbs1 i (by omega))) (by
   refine⟨trivial,⟨rfl,aI (up (aq gG r.2)) trivial,fun x hx=>hx⟩,trivial⟩) hb.symm
  refine⟨Γ2,by rw[hr1];rfl,hle,hr1,ow3,h4,fun hx=>t2 (hT4 l hx),fun hx=>t2D (hT4 D hx),?_,?_⟩
  ·exact World.putObj_heap_same (jh hl2)
  ·exact(World.putObj_heap_other hne).trans (k2D.trans hD1')
theorem Fc{p:aa}{r:List ag}(h:pO p=some r):CC Pg GE qd1 [.agg (ac p)] (sl cS r) [(0,9)]:=by
 obtain⟨q,hq,h⟩:=aB h
 obtain⟨r',hu,h⟩:=aB h
 cases h
 refine⟨aI (ah p) trivial,Tryz.call156,fun Γ bs ow w vs hS=>(callsIn_wide (n:=0)).1 (callsIn_of_wp_marks Tryz.func156 (c:=YM) rfl trivial ?_)⟩
 obtain rfl:bs=[]:=vas hS.bl
 obtain⟨v,rfl⟩:∃v,vs=#[v]:=vcw.1 hS.sz
 have hB:NA GE Γ w:=hS.base
 have hE:D4 GE 0 (Pn GE Γ w):=hB.good
 have hvr:VR Γ [] w (.agg (ac p)) v:=hS.tm 0 _ _ rfl rfl
 have h0:SR Pg (Pn GE Γ w) Γ [] (fun _=>none) w (#[v]++Array.replicate 17 undef) (aY 18 [(0,.agg (ac p))] [] []):=by
  refine hB.fresh (a:=#[v]++Array.replicate 17 undef) 0 (tmps:=[.agg (ac p)]++List.replicate 17 .undef) (by simp) fun t q u hq hu=>?_
  by_cases ht:t<1
  ·rw[vad (by simpa using ht)]at hq
   rw[vaP (by simpa using ht)]at hu
   match t,ht with
   |0,_=>simp at hq hu;subst hq;subst hu;exact hvr
  ·rw[vaf (by show 1<=t;omega),vaW]at hq
   split at hq<;>cases hq
   exact .undef u
 show YM.wpIn Fence.wide 0 Pg _ ⟨#[v]++Array.replicate 17 undef,[]⟩ w
 rw[ZF]
 refine wpIn_seq (wpIn_mono (aT.wideE (qd4 p) hE h0 0 []) ?_)
 rintro e ⟨a1,ds1⟩ w1 ⟨rfl,Γ1,bs1,ow1,st1,h1,rfl,rfl⟩
 refine wpIn_seq (wpIn_mono (aT.wideE (qd5 p) hE h1 0 []) ?_)
 rintro e ⟨a2,ds2⟩ w2 ⟨rfl,Γ2,bs2,ow2,st2,h2,rfl,rfl⟩
 refine wpIn_seq (wpIn_seq (wpIn_mono (aT.wideE (qd6 p) hE h2 0 []) ?_))
 rintro e ⟨a3,ds3⟩ w3 ⟨rfl,Γ3,bs3,ow3,st3,h3,rfl,rfl⟩
 have h6:=h3.opv [] (.tmp 6)
 have e6:opv (Pn GE Γ w).GE (stR p).tmps (.tmp 6)=.func (.func fW) [] [.eptr (ac p)]:=rfl
 rw[e6]at h6
 have hbl:bs3.length=2:=h3.bl
 refine wpIn_block (wpIn_rangeFunc fun fn _=>?_)
 obtain⟨g1,l1⟩:=h3.allocO (.deferred (some []))
 obtain⟨g2,l2⟩:=g1.allocO (.loop (DR fn a3 w3.heap.size))
 have gF:=g2.forgetT (tm:=(qcV []).tmps) rfl
 have hsz3:w.heap.size<=w3.heap.size:=h3.step.size
 have htl:∀b,w3.heap.size<=b->¬bY bs3 ow3 b:=fun b hb hx=>by
  rcases hx with⟨i,hi⟩|hx
  ·have hil:i<(stR p).boxes.length:=by rw[<-h3.bl];exact am hi
   have:=(h3.bx i b _ hi (vab hil)).2.1
   omega
  ·cases hL:ow3 b with
   |none=>exact hx hL
   |some L=>have:=(h3.on b L hL).1;omega
 generalize hvf:(Act.mk a3 []).eval (.tmp 6)=vf at h6
 cases h6 with
 |func _ _ _ fs cs hl1 hl2 hf hc=>
 obtain rfl:fs=#[]:=va9 hl1
 obtain⟨cv,rfl⟩:∃v,cs=#[v]:=vcw.1 hl2
 have hcv:VR Γ3 bs3 w3 (.eptr (ac p)) cv:=hc 0 _ _ rfl rfl
 have hJ:JF Γ w bs3 a3 fn (w3.heap.size+1) w3.heap.size true [] Γ3 ((w3.alloc (.deferred (some []))).alloc (.loop (DR fn a3 w3.heap.size))):=by
  refine⟨rfl,ow3,gF,htl _ (by omega),htl _ (vah _),?_,?_⟩
  ·have:=World.alloc_heap_new (w3.alloc (.deferred (some []))) (.loop (DR fn a3 w3.heap.size))
   rwa[World.size_alloc]at this
  ·rw[dX _ _ (by rw[World.size_alloc];omega)]
   exact World.alloc_heap_new w3 _
 have hY:=qaP (Γe:=Γ) (we:=w) (bs:=bs3) (a:=a3) (fn:=fn) (l:=w3.heap.size+1) (D:=w3.heap.size) (by omega) hsz3 (by omega) hbl
 refine⟨_,_,_,{target:=.fn (.func fW) #[cv],args:=#[.func (.yield (w3.heap.size+1)) #[] #[]]},(w3.alloc (.deferred (some []))).alloc (.loop (DR fn a3 w3.heap.size)),fW,#[.func (.yield (w3.heap.size+1)) #[] #[],cv],(w3.alloc (.deferred (some []))).alloc (.loop (DR fn a3 w3.heap.size)),run_enterLoop_outer fn a3 #[7] (qbC Xp) (qbD Xp),?_,fun _ _=>trivial,?_,fun hx=>by simp[Fence.wide]at hx,?_⟩
 ·have hvf':(Act.mk a3 []).eval (.tmp 6)=.func (.func fW) #[] #[cv]:=hvf
  simp only[resolve,hvf',Deferred.ofValue]
  simp[Act.eval]
 ·simp[invoke,Tryz.call162]
 ·refine(ZH hY p (n:=0 - 1) hq hJ (((hcv.mono l1 (.refl _)).mono l2 (.refl _)).clo (show ig 0 (ac p)from ah p))).mono ?_
  rintro e w4 ⟨⟨u,rfl⟩,Γ4,hle4,hq1,ow4,h4,tl4,tD4,hl4,hD4⟩
  refine⟨none,_,run_endLoop hl4 (by simp),?_⟩
  obtain⟨h5,hle5⟩:=h4.putOther (l:=w3.heap.size+1) (o:=.loop {DR fn a3 w3.heap.size with state:=.exhausted}) tl4 (.inr (show w.heap.size<=_ by omega)) (fun c t fr e=>by rw[hl4]at e;cases e)
  have hD5:(w4.putObj (w3.heap.size+1) (.loop {DR fn a3 w3.heap.size with state:=.exhausted})).heap[w3.heap.size]? =some (.deferred (some [])):=(World.putObj_heap_other (by omega)).trans hD4
  generalize w4.putObj (w3.heap.size+1) (.loop {DR fn a3 w3.heap.size with state:=.exhausted})=w5 at h5 hle5 hD5
  show(Code.seq qcP .ret).wpIn Fence.wide 0 Pg _ ⟨a3,[{target:=.collected w3.heap.size,args:=#[]}]⟩ w5
  refine wpIn_mono (wpIn_wide.2 (aT.on (qd9 q.2 hu) (by decide) h5 (by rw[hbl];decide) none [{target:=.collected w3.heap.size,args:=#[]}])) ?_
  rintro e ⟨a6,ds6⟩ w6 ⟨rfl,Γ6,bs6,ow6,st6,h6,⟨rfl,rfl⟩,hbs6,hle6,hsz6,hk6⟩
  obtain⟨k6,t6⟩:=hk6 _ (jh hD5) tD4
  have hD6:=k6.trans hD5
  obtain⟨h7,hle7⟩:=h6.putOther (l:=w3.heap.size) (o:=.deferred none) t6 (.inr hsz3) (fun c t fr e=>by rw[hD6]at e;cases e)
  refine⟨by simp,.inl ⟨w3.heap.size,_,rfl,run_takeDeferred hD6,?_⟩⟩
  have hS7:SR Pg ⟨GE,Γ,w,bY [] ow⟩ Γ6 bs6 ow6 (w6.putObj w3.heap.size (.deferred none)) a6 (qcY r):={h7 with
   bn:=fun i b hb=>(h7.bn i b hb).elim False.elim .inr
   on:=fun b L hL=>⟨(h7.on b L hL).1,(h7.on b L hL).2.elim False.elim .inr⟩
   gx:=hS.gx
   step:={h7.step with keep:=fun b hb _=>h7.step.keep b hb (fun hx=>hx)}}
  obtain⟨vr,e1,e2,e3⟩:=uf hS7 (fn:=Tryz.f156) (r:=sl cS r) (by kernel_rfl)
  refine⟨vr,e1,vr,Γ6,CQ (dV Tryz.f156.results.toList) [(0,9)] ow6,rfl,?_⟩
  have hrs:Tryz.f156.results.toList=[.tmp 2]:=by kernel_rfl
  have hf:=hS7.finish (H':=[]) (src:=dV Tryz.f156.results.toList) (ro:=[(0,9)]) e2 (aq gG r) trivial (fun x hx=>by
   simp only[va4]at hx
   subst hx
   refine⟨?_,fun u v'=>e3 0 u v' ?_⟩
   ·rw[hrs];exact va4.2 rfl
   ·rw[hrs];trivial) (fun x hx y hy _=>by
   simp only[va4]at hx hy
   rw[hx,hy])
  simpa using hf
end Go.Proofs.YtbaamopmfmpfaaaGreatDoor
