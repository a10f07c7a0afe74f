/- PROVED: a part of the proof. Conditions: none. -/
import Derived.Test.YtggeppllafbidaaGreatDoorPkA8
import Derived.Test.YtggeppllafbidaaGreatDoorPkA7
import Derived.Test.YtggeppllafbidaaGreatDoorProg
import Derived.Ground.SlgnProg
import Derived.Shelf.Lays
import Derived.Shelf.LaysM
import Derived.Shelf.SlGeneric
import Derived.Shelf.SlLaysE0
import Derived.Shelf.Strconv.Itoa3
import Derived.Shelf.Sort.Plain
import Derived.Shelf.Slices.In.CompactS
import Derived.Shelf.Slices.In.SortNone
noncomputable section
namespace Go.Proofs.YtggeppllafbidaaGreatDoor
open Go Go.Proofs.Tryz
set_option linter.unusedVariables false
set_option maxRecDepth 100000
def VF{S:Type}(J:Bool->S->aO->World->Prop)(Γ0:aO)(w0:World)(b:Bool)(s:S)(st:av)(a:Array Value)(w:World):Prop:=∃Γ,J b s Γ w/\Γ0.Le w0 Γ w/\∃E bs ow,SR Pg E Γ bs ow w a st
structure Dd(st:av)(k:Nat):Prop where
 c:iB 0 st.tmps
 b:st.boxes=List.replicate k .dead
 o:st.own=[]
structure R4(c:Code):Prop where
 eq:c=.region (SJ c) (jS c) false
 rg:List.range (jS c).size=[0,1]++2::([3]++[])
 p1:[0,1].map (fun i=>(jS c)[i]?)=((jS c).toList.take 2).map some
 p2:((jS c).toList.take 2).all Ff=true
 o:(jS c)[2]? =some (LJ c 2)
 g:(LJ c 2).guard=none
 q1:[3].map (fun i=>(jS c)[i]?)=((jS c).toList.drop 3).map some
 q2:((jS c).toList.drop 3).all Ff=true
theorem Tx:R4 PW:=⟨by kernel_rfl,by kernel_rfl,by kernel_rfl,by kernel_rfl,by kernel_rfl,by kernel_rfl,by kernel_rfl,by kernel_rfl⟩
theorem Ty:R4 PX:=⟨by kernel_rfl,by kernel_rfl,by kernel_rfl,by kernel_rfl,by kernel_rfl,by kernel_rfl,by kernel_rfl,by kernel_rfl⟩
theorem Q7:(LJ PW 2).op=.call {callee:=.value (.tmp 7),args:=#[.tmp 8],argTypes:=Q5 (LJ PW 2)}:=by kernel_rfl
theorem Sr:(LJ PW 2).dst=some 9:=by kernel_rfl
theorem Q8:(LJ PX 2).op=.call {callee:=.value (.func fV),args:=#[.tmp 18,.tmp 19],argTypes:=Q5 (LJ PX 2)}:=by kernel_rfl
theorem Ss:(LJ PX 2).dst=some 20:=by kernel_rfl
section
variable{S:Type}{step:S->aa->Option (Bool×S)}{J:Bool->S->aO->World->Prop}{l:Nat}{Γ0:aO}{w0:World}{b:Bool}{s:S}{st0 st1 stA stB:av}{k kA kB:Nat}{a:Array Value}{w:World}{n:Nat}{ds:List Deferred}
theorem VF.again(hY:Yd Pg GE l ac step J)(hD:Dd st0 k)(h:VF J Γ0 w0 b s st0 a w):∃Γ,J b s Γ w/\Γ0.Le w0 Γ w/\SR Pg (DN GE Γ w) Γ (List.replicate k none) (fun _=>none) w a st0:=by
 obtain⟨Γ,hJ,hle,E,bs,ow,hS⟩:=h
 obtain⟨tm,H,own⟩:=st0
 have hb:H=_:=hD.b
 have ho:own=[]:=hD.o
 subst hb;subst ho
 exact⟨Γ,hJ,hle,hS.again hD.c (hY.base _ _ _ _ hJ) (.refl _ _) k⟩
theorem VF.redo(hY:Yd Pg GE l ac step J)(hD:Dd st0 k)(h:VF J Γ0 w0 b s st0 a w)(k':Nat):VF J Γ0 w0 b s ⟨st0.tmps,List.replicate k' .dead,[]⟩ a w:=by
 obtain⟨Γ,hJ,hle,hS⟩:=h.again hY hD
 exact⟨Γ,hJ,hle,_,_,_,hS.again hD.c (hY.base _ _ _ _ hJ) (.refl _ _) k'⟩
theorem VF.piece(hY:Yd Pg GE l ac step J){c:Code}{e:Exit}(hS:aB Pg GE 0 c (EX e st1) st0)(hD:Dd st0 k)(h:VF J Γ0 w0 b s st0 a w):c.wpIn Fence.wide n Pg (fun e' a' w'=>e'=e/\a'.defers=ds/\VF J Γ0 w0 b s st1 a'.tmps w') ⟨a,ds⟩ w:=by
 obtain⟨Γ,hJ,hle,hR⟩:=h.again hY hD
 refine wpIn_mono (hS.wide (hY.base _ _ _ _ hJ) hR n ds) ?_
 rintro e' a' w' ⟨hd,Γ',bs',ow',st',h',rfl,rfl⟩
 exact⟨rfl,hd,Γ',hY.side _ _ _ _ hJ _ _ _ _ _ _ h',hle.trans h'.step.le,_,_,_,h'⟩
theorem VF.reg(hY:Yd Pg GE l ac step J){c:Code}(hR:R4 c)(hD:Dd st0 k)(hDB:Dd stB kB)(hpre:cB Pg GE [] (jS c) (fun st=>FG st stA) ((jS c).toList.take 2) 0 st0)(hsuf:cB Pg GE [] (jS c) (fun st=>FG st st1) ((jS c).toList.drop 3) 0 stB){r:Bool×S}
  (hcall:∀a w (jR:Act->World->Prop) (Q:Exit->Act->World->Prop),VF J Γ0 w0 b s stA a w->(∀a' w',VF J Γ0 w0 r.1 r.2 stB a' w'->jR ⟨a',ds⟩ w')->(LJ c 2).wpIn Fence.wide n Pg ⟨a,ds⟩ w jR Q)
  (h:VF J Γ0 w0 b s st0 a w):c.wpIn Fence.wide n Pg (fun e' a' w'=>e'=.normal/\a'.defers=ds/\VF J Γ0 w0 r.1 r.2 st1 a'.tmps w') ⟨a,ds⟩ w:=by
 have key:(Code.region (SJ c) (jS c) false).wpIn Fence.wide n Pg (fun e' a' w'=>e'=.normal/\a'.defers=ds/\VF J Γ0 w0 r.1 r.2 st1 a'.tmps w') ⟨a,ds⟩ w:=by
  refine wpIn_region ?_
  rw[hR.rg]
  obtain⟨Γ,hJ,hle,hS⟩:=h.again hY hD
  refine wF (A:=[]) (K:=fun st=>FG st stA) (fun Γ' bs' ow' a' w' st hS' hK=>?_) _ _ Γ _ _ a w st0 hR.p1 (BV hR.p2) hS hpre
  obtain⟨Γ2,bs2,ow2,hS2⟩:=FG.sr hS' hK
  refine yX hR.o hR.g (hcall a' w' _ _ ⟨Γ2,hY.side _ _ _ _ hJ _ _ _ _ _ _ hS2,hle.trans hS2.step.le,_,_,_,hS2⟩ fun a3 w3 h3=>?_)
  obtain⟨Γ3,hJ3,hle3,hS3⟩:=h3.again hY hDB
  refine wF (A:=[]) (K:=fun st=>FG st st1) (fun Γ' bs' ow' a' w' st hS' hK=>?_) _ _ Γ3 _ _ a3 w3 stB hR.q1 (BV hR.q2) hS3 hsuf
  obtain⟨Γ4,bs4,ow4,hS4⟩:=FG.sr hS' hK
  exact⟨rfl,rfl,Γ4,hY.side _ _ _ _ hJ3 _ _ _ _ _ _ hS4,hle3.trans hS4.step.le,_,_,_,hS4⟩
 rw[<-hR.eq]at key
 exact key
theorem VF.ev(h:VF J Γ0 w0 b s st0 a w){t:Nat}{x:Bool}(ht:st0.tmps.getD t .undef=.bool x):(Act.mk a ds).eval (.tmp t)=.bool x:=by
 obtain⟨Γ,hJ,hle,E,bs,ow,hS⟩:=h
 have h1:=hS.opv ds (.tmp t)
 have e1:opv E.GE st0.tmps (.tmp t)=.bool x:=ht
 rw[e1]at h1
 generalize (Act.mk a ds).eval (.tmp t)=v at h1
 cases h1
 rfl
theorem VF.put(hY:Yd Pg GE l ac step J)(hD:Dd stA kA){Γ Γ':aO}{w':World}{E:nm}{bs:bg}{ow:Nat->Option jk}(hS:SR Pg E Γ bs ow w a stA)(hle:Γ0.Le w0 Γ w)(hle':Γ.Le w Γ' w'){r:Bool×S}(hJ':J r.1 r.2 Γ' w'){d:Nat}(hB:stB=⟨stA.tmps.set d (.bool r.1),List.replicate kA .dead,[]⟩):VF J Γ0 w0 r.1 r.2 stB (a.setIfInBounds d (.bool r.1)) w':=by
 have hS':=(hS.again hD.c (hY.base _ _ _ _ hJ') hle' kA).set (d:=d) (p:=.bool r.1) (v:=.bool r.1) (.bool _)
 exact⟨Γ',hJ',hle.trans hle',_,_,_,hB▸hS'⟩
theorem VF.yieldc(hY:Yd Pg GE l ac step J)(hD:Dd stA kA){p:aa}{r:Bool×S}(hr:step s p=some r){o:Oper}{f x d:Nat}{tys:Array TypeId}(h7:stA.tmps.getD f .undef=yv l)(h8:stA.tmps.getD x .undef=.agg (ac p))
  (ho:o.op=.call {callee:=.value (.tmp f),args:=#[.tmp x],argTypes:=tys}) (hd:o.dst=some d) (hB:stB=⟨stA.tmps.set d (.bool r.1),List.replicate kA .dead,[]⟩)
  {jR:Act->World->Prop} {Q:Exit->Act->World->Prop} (h:VF J Γ0 w0 true s stA a w) (hn:∀a' w',VF J Γ0 w0 r.1 r.2 stB a' w'->jR ⟨a',ds⟩ w'):o.wpIn Fence.wide n Pg ⟨a,ds⟩ w jR Q:=by
 obtain⟨Γ,hJ,hle,hS⟩:=h.again hY hD
 have h1:=hS.opv ds (.tmp f)
 have h2:=hS.opv ds (.tmp x)
 have e1:opv (DN GE Γ w).GE stA.tmps (.tmp f)=yv l:=h7
 have e2:opv (DN GE Γ w).GE stA.tmps (.tmp x)=.agg (ac p):=h8
 rw[e1]at h1;rw[e2]at h2
 have hev:(Act.mk a ds).eval (.tmp f)=.func (.yield l) #[] #[]:=by
  generalize (Act.mk a ds).eval (.tmp f)=v at h1
  cases h1;rfl
 refine K9 ho hev (R:=fun e w'=>∃Γ',e=.returned (.bool r.1)/\Γ.Le w Γ' w'/\J r.1 r.2 Γ' w') ?_ ?_
 ·have:=hY.yield s Γ w p _ (n - 1) r hJ (h2.clo (by simp only[PVal.cl];exact ah p)) hr
  simpa using this
 ·rintro e w' ⟨Γ',rfl,hle',hJ'⟩
  refine⟨_,rfl,?_⟩
  rw[hd]
  exact hn _ _ (VF.put hY hD hS hle hle' hJ' hB)
def RH(step:S->aa->Option (Bool×S))(J:Bool->S->aO->World->Prop)(l:Nat)(p:aa):Prop:=∀s r Γ w v n,GQ step p s=some r->J true s Γ w->VR Γ [] w (.agg (ac p)) v->
 CallsIn Fence.wide n Pg fV #[v,.func (.yield l) #[] #[]] w fun e w'=>∃Γ',e=.returned (.bool r.1)/\Γ.Le w Γ' w'/\J r.1 r.2 Γ' w'
theorem VF.visitc(hY:Yd Pg GE l ac step J)(hD:Dd stA kA){p:aa}(hp:RH step J l p){r:Bool×S}(hr:GQ step p s=some r){o:Oper}{x y d:Nat}{tys:Array TypeId}(h7:stA.tmps.getD y .undef=yv l)(h8:stA.tmps.getD x .undef=.agg (ac p))
  (ho:o.op=.call {callee:=.value (.func fV),args:=#[.tmp x,.tmp y],argTypes:=tys}) (hd:o.dst=some d) (hB:stB=⟨stA.tmps.set d (.bool r.1),List.replicate kA .dead,[]⟩)
  {jR:Act->World->Prop} {Q:Exit->Act->World->Prop} (h:VF J Γ0 w0 true s stA a w) (hn:∀a' w',VF J Γ0 w0 r.1 r.2 stB a' w'->jR ⟨a',ds⟩ w'):o.wpIn Fence.wide n Pg ⟨a,ds⟩ w jR Q:=by
 obtain⟨Γ,hJ,hle,hS⟩:=h.again hY hD
 have h1:=hS.opv ds (.tmp y)
 have h2:=hS.opv ds (.tmp x)
 have e1:opv (DN GE Γ w).GE stA.tmps (.tmp y)=yv l:=h7
 have e2:opv (DN GE Γ w).GE stA.tmps (.tmp x)=.agg (ac p):=h8
 rw[e1]at h1;rw[e2]at h2
 have hev:(Act.mk a ds).eval (.tmp y)=.func (.yield l) #[] #[]:=by
  generalize (Act.mk a ds).eval (.tmp y)=v at h1
  cases h1;rfl
 refine Me ho (g:=fV) (fs:=#[]) (cs:=#[]) rfl call130 (R:=fun e w'=>∃Γ',e=.returned (.bool r.1)/\Γ.Le w Γ' w'/\J r.1 r.2 Γ' w') ?_ ?_
 ·have:=hp s r Γ w _ (n - 1) hr hJ (h2.clo (by simp only[PVal.cl];exact ah p))
  simpa[hev]using this
 ·rintro e w' ⟨Γ',rfl,hle',hJ'⟩
  refine⟨_,rfl,?_⟩
  rw[hd]
  exact hn _ _ (VF.put hY hD hS hle hle' hJ' hB)
theorem VF.fin{x:Bool}{H:List ax}(h:VF J Γ0 w0 b s (vE H x) a w):(results f130 a).run Pg w=.ok (.bool x) w:=by
 obtain⟨Γ,hJ,hle,E,bs,ow,hS⟩:=h
 obtain⟨v,h1,h2,_⟩:=nl hS (fn:=f130) (r:=.bool x) (by kernel_rfl)
 cases h2
 exact h1
theorem Mm{N:Nat}{L:List (Nat×PVal)}(h:QM 0 L)(k:Nat){H:List ax}(hH:H=List.replicate k .dead):Dd (aN N L H []) k:=⟨cF h,hH,rfl⟩
theorem Mh(ks:List aa):(sl ac ks).cl 0:=am ah ks
theorem P4(l:Nat)(ks:List aa)(i:Int):Dd (Qi l ks i) 1:=Mm (by exact aI trivial<|aI (Mh ks)<|aI trivial<|aI trivial trivial) 1 rfl
theorem P5(l:Nat)(ks:List aa)(i:Int):Dd (Rl l ks i) 1:=Mm (by exact aI trivial<|aI (Mh ks)<|aI trivial<|aI trivial<|aI trivial trivial) 1 rfl
theorem P6(l:Nat)(ks:List aa)(i:Int)(b:Bool):Dd (St l ks i b) 2:=Mm (by exact aI trivial<|aI (Mh ks)<|aI trivial<|aI trivial<|aI trivial trivial) 2 rfl
theorem K8(hY:Yd Pg GE l ac step J)(p:aa)(hk:∀x∈p.Kids,RH step J l x):RH step J l p:=by
 intro s r Γ w v n hv hJ hvr
 refine callsIn_of_wp func130 (c:=bV) rfl trivial ?_
 have h0:VF J Γ w true s (aN 23 [(0,.agg (ac p)),(1,yv l)] [] []) (#[v,.func (.yield l) #[] #[]]++Array.replicate 21 undef) w:=by
  refine⟨Γ,hJ,.refl _ _,_,_,_,(hY.base _ _ _ _ hJ).fresh 0 (tmps:=[.agg (ac p),yv l]++List.replicate 21 .undef) (by simp) fun t q u hq hu=>?_⟩
  by_cases ht:t<2
  ·rw[vac (by simpa using ht)]at hq
   rw[vaH (by simpa using ht)]at hu
   match t,ht with
   |0,_=>simp at hq hu;subst hq;subst hu;exact hvr
   |1,_=>simp at hq hu;subst hq;subst hu;exact .val _
  ·rw[vad (by simpa using ht),vaL]at hq
   split at hq<;>cases hq
   exact .undef u
 show bV.wpIn Fence.wide n Pg _ ⟨_,[]⟩ w
 rw[PZ]at hv
 obtain⟨q,hq,hv⟩:=aw hv
 have hb:Pg.funcs.size=Pg.funcs.size:=rfl
 have hret:∀{b:Bool} {s:S} {x:Bool} {H:List ax} {a':Act} {w':World},a'.defers=[]->VF J Γ w b s (vE H x) a'.tmps w'->b=r.1->s=r.2->x=r.1->
   bodyPost Pg f130 (fun e w'=>∃Γ',e=.returned (.bool r.1)/\Γ.Le w Γ' w'/\J r.1 r.2 Γ' w') .ret a' w':=by
  rintro b s x H a' w' hd h rfl rfl rfl
  refine⟨hd,.bool r.1,h.fin,?_⟩
  obtain⟨Γ',hJ',hle,_⟩:=h
  exact⟨Γ',rfl,hle,hJ'⟩
 rw[RT]
 refine wpIn_seq (wpIn_mono (VF.piece hY (Vd p l) (k:=0) (Mm (by exact aI (ah p)<|aI trivial trivial) 0 rfl) h0) ?_)
 rintro e ⟨a1,ds1⟩ w1 ⟨rfl,rfl,h1⟩
 have d2:(PVal.eptr (ac p)).cl 0:=by simp only[PVal.cl];exact ah p
 have d3:(PVal.agg (ac p)).cl 0:=by simp only[PVal.cl];exact ah p
 refine wpIn_seq (wpIn_seq (wpIn_mono (VF.reg hY Tx (k:=1) (kB:=1) (r:=q) (stB:=aN 23 [(1,yv l),(2,.eptr (ac p)),(7,yv l),(8,.agg (ac p)),(9,.bool q.1)] [.dead] []) (Mm (by exact aI trivial<|aI d2 trivial) 1 rfl) (Mm (by exact aI trivial<|aI d2<|aI trivial<|aI d3<|aI trivial trivial) 1 rfl) (Ve p l) (TI p l q.1)
  (fun a w jR Q h hn=>VF.yieldc hY (kA:=1) (Mm (by exact aI trivial<|aI d2<|aI trivial<|aI d3 trivial) 1 rfl) hq (f:=7) (x:=8) (d:=9) rfl rfl Q7 Sr rfl h hn) h1) ?_))
 rintro e ⟨a2,ds2⟩ w2 ⟨rfl,rfl,h2⟩
 refine wpIn_cond (h2.ev (t:=10) (x:=!q.1) rfl) ?_
 have dS2:∀b:Bool,Dd (aN 23 [(1,yv l),(2,.eptr (ac p)),(10,.bool b)] [.dead] []) 1:=fun b=>Mm (by exact aI trivial<|aI d2<|aI trivial trivial) 1 rfl
 obtain⟨q1,q2⟩:=q
 cases q1 with
 |false=>
  cases hv
  refine wpIn_mono (VF.piece hY (Vf p l) (dS2 true) h2) ?_
  rintro e ⟨a3,ds3⟩ w3 ⟨rfl,rfl,h3⟩
  exact hret rfl h3 rfl rfl rfl
 | true =>
  simp only at hv
  split at hv
  case isFalse=>cases hv
  rename_i hlen
  refine wpIn_skip ?_
  refine wpIn_seq (wpIn_seq (wpIn_mono (VF.piece hY (Vg p l) (dS2 false) h2) ?_))
  rintro e ⟨a3,ds3⟩ w3 ⟨rfl,rfl,h3⟩
  refine wpIn_block (wpIn_loop_ghost (fun k a w'=>a.defers=[]/\∃(i:Nat) (s':S),k=p.Kids.length - i/\i<=p.Kids.length/\IQ step (p.Kids.drop i) s'=some r/\VF J Γ w true s' (Qi l p.Kids (i:Int)) a.tmps w') (p.Kids.length)
   ⟨rfl,0,q2,rfl,vaJ _,hv,h3⟩ ?_)
  rintro k ⟨a4,ds4⟩ w4 ⟨hd4,i,s',rfl,hi,hvl,h4⟩
  simp only at hd4;subst hd4
  rw[Sq]
  refine wpIn_seq (wpIn_mono (VF.piece hY (Vh l p.Kids i) (P4 _ _ _) h4) ?_)
  rintro e ⟨a5,ds5⟩ w5 ⟨rfl,rfl,h5⟩
  refine wpIn_seq (wpIn_cond (h5.ev (t:=15) (x:=decide ((i:Int)<(p.Kids.length:Int))) rfl) ?_)
  by_cases hlt:i<p.Kids.length
  ·rw[vbd (by omega)]
   refine wpIn_skip ?_
   have hdrop:p.Kids.drop i=p.Kids[i]::p.Kids.drop (i+1):=vbm hlt
   rw[hdrop,IQ]at hvl
   obtain⟨q',hq',hvl⟩:=aw hvl
   have hx:dv p.Kids (i:Int)=some p.Kids[i]:=cd _ _ hlt
   generalize hxx:p.Kids[i]=x at *
   have hxm:x∈p.Kids:=hxx▸vaw hlt
   have e2:(PVal.eptr (ac x)).cl 0:=by simp only[PVal.cl];exact ah x
   have e3:(PVal.agg (ac x)).cl 0:=by simp only[PVal.cl];exact ah x
   refine wpIn_seq (wpIn_block (wpIn_seq (wpIn_mono (VF.piece hY (Vi l p.Kids i x hx) (P5 _ _ _) h5) ?_)))
   rintro e ⟨a6,ds6⟩ w6 ⟨rfl,rfl,h6⟩
   refine wpIn_seq (wpIn_mono (VF.reg hY Ty (k:=2) (kB:=2) (r:=q') (stB:=Uq l p.Kids i x q'.1) (Mm (by exact aI trivial<|aI e2<|aI (Mh _)<|aI trivial<|aI trivial trivial) 2 rfl) (Mm (by exact aI trivial<|aI (Mh _)<|aI trivial<|aI trivial<|aI e3<|aI trivial<|aI trivial trivial) 2 rfl) (Vj l p.Kids i x) (TJ l p.Kids i x q'.1)
    (fun a w jR Q h hn=>VF.visitc hY (kA:=2) (Mm (by exact aI trivial<|aI (Mh _)<|aI trivial<|aI trivial<|aI e3<|aI trivial trivial) 2 rfl) (hk x hxm) hq' (y:=19) (x:=18) (d:=20) rfl rfl Q8 Ss rfl h hn) h6) ?_)
   rintro e ⟨a7,ds7⟩ w7 ⟨rfl,rfl,h7⟩
   refine wpIn_cond (h7.ev (t:=21) (x:=!q'.1) rfl) ?_
   obtain⟨q1,q2⟩:=q'
   cases q1 with
   |false=>
    cases hvl
    refine wpIn_mono (VF.piece hY (Vk l p.Kids i) (P6 _ _ _ _) h7) ?_
    rintro e ⟨a8,ds8⟩ w8 ⟨rfl,rfl,h8⟩
    exact hret rfl h8 rfl rfl rfl
   |true=>
    refine wpIn_skip ?_
    refine wpIn_mono (VF.piece hY (Vl l p.Kids i) (P6 _ _ _ _) h7) ?_
    rintro e ⟨a8,ds8⟩ w8 ⟨rfl,rfl,h8⟩
    refine⟨p.Kids.length - (i+1),by omega,rfl,i+1,q2,rfl,hlt,hvl,?_⟩
    have e:bA ((i:Int)+1)=((i+1:Nat):Int):=by rw[nK (by omega) (by omega)];omega
    rw[e]at h8
    exact VF.redo (st0:=⟨(Qi l p.Kids ((i+1:Nat):Int)).tmps,[.dead,.dead],[]⟩) hY (k:=2) ⟨(P4 l p.Kids _).c,rfl,rfl⟩ h8 1
  ·rw[decide_eq_false (by omega)]
   refine wpIn_exit ?_
   have hi':i=p.Kids.length:=by omega
   rw[vcs (by omega),IQ]at hvl
   cases hvl
   refine wpIn_mono (VF.piece hY (Vm l p.Kids i) (P5 _ _ _) h5) ?_
   rintro e ⟨a6,ds6⟩ w6 ⟨rfl,rfl,h6⟩
   exact hret rfl h6 rfl rfl rfl
mutual
theorem Kb(hY:Yd Pg GE l ac step J):∀p:aa,RH step J l p
 |⟨o,n,k,ks⟩=>K8 hY ⟨o,n,k,ks⟩ (Hz hY ks)
theorem Hz(hY:Yd Pg GE l ac step J):∀ks:List aa,∀x∈ks,RH step J l x
 |[],x,hx=>by simp at hx
 | y :: ks,x,hx => by
  rcases vaG.1 hx with h|h
  ·exact h▸Kb hY y
  ·exact Hz hY ks x h
end
end
open Go
set_option linter.unusedSimpArgs false
def i6(l:List ag):List ag:=l.mergeSort fun x y=>decide (x<=y)
abbrev Kq(x y:ag):Prop:=Op.bytesLess x y=true
theorem oC:∀(x:ag),Op.bytesLess x x=false
 |[]=>rfl
 |a::x=>by
  unfold Op.bytesLess
  rw[oC x]
  simp[UInt8.lt_irrefl]
theorem mY:∀{x y z:ag},Kq x y->Kq y z->Kq x z
 |_,_,[],h1,h2=>by simp[Kq,Op.bytesLess]at h2
 |_,[],_::_,h1,h2=>by simp[Kq,Op.bytesLess]at h1
 |[],_::_,_::_,_,_=>rfl
 | a :: x,b :: y,c :: z,h1,h2 => by
  unfold Kq Op.bytesLess at h1 h2 ⊢
  simp only[va4,vai,vae,vaZ]at h1 h2 ⊢
  rcases h1 with h1|⟨rfl,h1⟩
  ·rcases h2 with h2|⟨rfl,h2⟩
   ·exact .inl (UInt8.lt_trans h1 h2)
   ·exact .inl h1
  ·rcases h2 with h2|⟨rfl,h2⟩
   ·exact .inl h2
   ·exact .inr ⟨rfl,mY h1 h2⟩
theorem o0:∀{x y:ag},Op.bytesLess x y=false->Op.bytesLess y x=false->x=y
 |[],[],_,_=>rfl
 |[],_::_,h,_=>by simp[Op.bytesLess]at h
 |_::_,[],_,h=>by simp[Op.bytesLess]at h
 | a :: x,b :: y,h1,h2 => by
  unfold Op.bytesLess at h1 h2
  simp only[Bool.or_eq_false_iff,vbh,Bool.and_eq_false_imp,vaZ]at h1 h2
  have hab:a=b:=by
   have k1:=UInt8.not_lt.1 h1.1
   have k2:=UInt8.not_lt.1 h2.1
   exact UInt8.le_antisymm k2 k1
  subst hab
  rw[o0 (h1.2 rfl) (h2.2 rfl)]
theorem P3:∀(x y:ag),Op.bytesLess x y=decide (x<y)
 |[],[]=>by simp[Op.bytesLess]
 |_::_,[]=>by simp[Op.bytesLess]
 |[],_::_=>by simp[Op.bytesLess]
 |a::x,b::y=>by
  unfold Op.bytesLess
  rw[P3 x y,vb8]
  simp[List.cons_lt_cons_iff]
theorem LC(x y:ag):decide (x<=y)= !Op.bytesLess y x:=by
 rw[P3]
 rw[<-decide_not]
 rfl
theorem AX(l:List ag):(i6 l).Pairwise fun x y=>Op.bytesLess y x=false:=by
 have:=List.pairwise_mergeSort (le:=fun x y:ag=>decide (x<=y)) (fun a b c h1 h2=>by
  rw[LC]at h1 h2 ⊢
  simp only[va1]at h1 h2 ⊢
  cases h:Op.bytesLess c a with
  |false=>rfl
  | true =>
   exfalso
   by_cases hb:Op.bytesLess a b=true
   ·have:=mY h hb
    unfold Kq at this
    rw[h2]at this
    cases this
   ·have:a=b:=o0 (by simpa using hb) h1
    subst this
    rw[h2]at h
    cases h) (fun a b=>by
  rw[LC,LC]
  cases h:Op.bytesLess b a with
  |false=>rfl
  | true =>
   cases h':Op.bytesLess a b with
   |false=>rfl
   |true=>
    have:=mY h h'
    unfold Kq at this
    rw[oC]at this
    cases this) l
 refine vcK ?_ this
 intro a b h
 rw[LC]at h
 simpa using h
theorem MY(l:List ag)(x:ag):x∈i6 l↔x∈l:=List.mem_mergeSort
def KO(x:ag):List ag->List ag
 |[]=>[x]
 |y::r=>if Op.bytesLess y x=true then y::KO x r else x::y::r
def EN:List ag->List ag
 |[]=>[]
 |x::r=>KO x (EN r)
theorem Bz(x:ag):∀l,(KO x l).Perm (x::l)
 |[]=>.refl _
 | y :: r => by
  unfold KO
  split
  ·exact((Bz x r).cons y).trans (List.Perm.swap x y r)
  ·exact .refl _
theorem EO:∀l,(EN l).Perm l
 |[]=>.refl _
 |x::r=>(Bz x (EN r)).trans ((EO r).cons x)
abbrev O2(l:List ag):Prop:=l.Pairwise fun x y=>Op.bytesLess y x=false
theorem Cy(x:ag):∀{l},O2 l->O2 (KO x l)
 |[],_=>by simp[KO,O2]
 | y :: r,h => by
  unfold O2 at h ⊢
  have h':=va3.1 h
  unfold KO
  split
  ·rename_i hy
   rw[va3]
   refine⟨fun z hz=>?_,Cy x h'.2⟩
   rcases vaG.1 ((Bz x r).mem_iff.1 hz)with rfl|hz
   ·cases hc:Op.bytesLess z y with
    |false=>rfl
    |true=>have:=mY hy hc;unfold Kq at this;rw[oC]at this;cases this
   ·exact h'.1 z hz
  ·rename_i hy
   have hy:Op.bytesLess y x=false:=by simpa using hy
   rw[va3]
   refine⟨fun z hz=>?_,h⟩
   rcases vaG.1 hz with rfl|hz
   ·exact hy
   ·have hz:=h'.1 z hz
    cases hc:Op.bytesLess z x with
    |false=>rfl
    | true =>
     exfalso
     by_cases hxy:Op.bytesLess x y=true
     ·have:=mY hc hxy
      unfold Kq at this
      rw[hz]at this;cases this
     ·have:x=y:=o0 (by simpa using hxy) hy
      subst this
      rw[hz]at hc;cases hc
theorem zV:∀l,O2 (EN l)
 |[]=>by simp[EN,O2]
 |x::r=>Cy x (zV r)
theorem FW:∀{a b:List ag},O2 a->O2 b->a.Perm b->a=b
 |[],b,_,_,h=>(List.Perm.nil_eq h)
 |x::a,[],_,_,h=>by have:=h.length_eq;simp at this
 | x :: a,y :: b,ha,hb,h => by
  unfold O2 at ha hb
  have ha':=va3.1 ha
  have hb':=va3.1 hb
  have hxy:x=y:=by
   rcases vaG.1 (h.mem_iff.1 (vbE:x∈x::a))with hx|hx
   ·exact hx
   ·rcases vaG.1 (h.mem_iff.2 (vbE:y∈y::b))with hy|hy
    ·exact hy.symm
    ·exact o0 (hb'.1 x hx) (ha'.1 y hy)
  subst hxy
  congr 1
  exact FW ha'.2 hb'.2 (List.Perm.cons_inv h)
theorem Jz(l:List ag):EN l=i6 l:=FW (zV l) (AX l) ((EO l).trans (List.mergeSort_perm l _).symm)
end Go.Proofs.YtggeppllafbidaaGreatDoor
namespace Go.Proofs
open Go.Shelf
noncomputable def Tryz.laysM171_ren : Go.Shelf.Ren := ⟨fun | 171 => 140 | 243 => 168 | 246 => 185 | 283 => 194 | 284 => 195 | 285 => 196 | 286 => 197 | 129 => 156 | 317 => 199 | 318 => 200 | 319 => 201 | 320 => 202 | 337 => 203 | 338 => 204 | n => n, fun | 3 => 3 | 9 => 9 | 2 => 2 | 4 => 4 | 171 => 159 | 0 => 0 | 53 => 138 | 37 => 122 | 5 => 5 | 173 => 161 | 212 => 165 | 51 => 136 | 20 => 20 | 213 => 166 | 46 => 116 | 232 => 167 | 233 => 168 | n => n, fun | 17 => 1 | 18 => 2 | 19 => 3 | n => n⟩
theorem Tryz.laysM171 : Go.Proofs.LaysM.n171 Tryz.prog Tryz.laysM171_ren := {
 mixed := by kernel_rfl
 f129 := Tryz.func156.trans (congrArg some (by kernel_rfl))
 f171 := Tryz.func140.trans (congrArg some (by kernel_rfl))
 f243 := Tryz.func168.trans (congrArg some (by kernel_rfl))
 f246 := Tryz.func185.trans (congrArg some (by kernel_rfl))
 f283 := Tryz.func194.trans (congrArg some (by kernel_rfl))
 f284 := Tryz.func195.trans (congrArg some (by kernel_rfl))
 f285 := Tryz.func196.trans (congrArg some (by kernel_rfl))
 f286 := Tryz.func197.trans (congrArg some (by kernel_rfl))
 f317 := Tryz.func199.trans (congrArg some (by kernel_rfl))
 f318 := Tryz.func200.trans (congrArg some (by kernel_rfl))
 f319 := Tryz.func201.trans (congrArg some (by kernel_rfl))
 f320 := Tryz.func202.trans (congrArg some (by kernel_rfl))
 f337 := Tryz.func203.trans (congrArg some (by kernel_rfl))
 f338 := Tryz.func204.trans (congrArg some (by kernel_rfl))
 t0 := Tryz.underlying0
 a0 := Tryz.isAgg0
 z0 := Tryz.sizeOf0
 v0 := Tryz.zeroValue0
 t2 := Tryz.underlying2
 a2 := Tryz.isAgg2
 z2 := Tryz.sizeOf2
 v2 := Tryz.zeroValue2
 t3 := Tryz.underlying3
 a3 := Tryz.isAgg3
 z3 := Tryz.sizeOf3
 v3 := Tryz.zeroValue3
 t4 := Tryz.underlying4
 a4 := Tryz.isAgg4
 z4 := Tryz.sizeOf4
 v4 := Tryz.zeroValue4
 t5 := Tryz.underlying5
 a5 := Tryz.isAgg5
 z5 := Tryz.sizeOf5
 v5 := Tryz.zeroValue5
 t9 := Tryz.underlying9
 a9 := Tryz.isAgg9
 z9 := Tryz.sizeOf9
 v9 := Tryz.zeroValue9
 t20 := Tryz.underlying20
 a20 := Tryz.isAgg20
 z20 := Tryz.sizeOf20
 v20 := Tryz.zeroValue20
 t37 := Tryz.underlying122
 a37 := Tryz.isAgg122
 z37 := Tryz.sizeOf122
 v37 := Tryz.zeroValue122
 t46 := Tryz.underlying116
 a46 := Tryz.isAgg116
 z46 := Tryz.sizeOf116
 v46 := Tryz.zeroValue116
 t51 := Tryz.underlying136
 a51 := Tryz.isAgg136
 z51 := Tryz.sizeOf136
 v51 := Tryz.zeroValue136
 t53 := Tryz.underlying138
 a53 := Tryz.isAgg138
 z53 := Tryz.sizeOf138
 v53 := Tryz.zeroValue138
 t171 := Tryz.underlying159
 a171 := Tryz.isAgg159
 z171 := Tryz.sizeOf159
 v171 := Tryz.zeroValue159
 t173 := Tryz.underlying161
 a173 := Tryz.isAgg161
 z173 := Tryz.sizeOf161
 v173 := Tryz.zeroValue161
 t212 := Tryz.underlying165
 a212 := Tryz.isAgg165
 z212 := Tryz.sizeOf165
 v212 := Tryz.zeroValue165
 t213 := Tryz.underlying166
 a213 := Tryz.isAgg166
 z213 := Tryz.sizeOf166
 t232 := Tryz.underlying167
 a232 := Tryz.isAgg167
 z232 := Tryz.sizeOf167
 v232 := Tryz.zeroValue167
 t233 := Tryz.underlying168
 a233 := Tryz.isAgg168
 z233 := Tryz.sizeOf168
 v233 := Tryz.zeroValue168
 g17 := by kernel_rfl
 g18 := by kernel_rfl
 g19 := by kernel_rfl
 i0 := by kernel_rfl
 i2 := by kernel_rfl
 i3 := by kernel_rfl
 i4 := by kernel_rfl
 i5 := by kernel_rfl
 i9 := by kernel_rfl
 i20 := by kernel_rfl
 i37 := by kernel_rfl
 i46 := by kernel_rfl
 i51 := by kernel_rfl
 i53 := by kernel_rfl
 i171 := by kernel_rfl
 i173 := by kernel_rfl
 i212 := by kernel_rfl
 i232 := by kernel_rfl
 i233 := by kernel_rfl
 m17 := by kernel_rfl
 m18 := by kernel_rfl
 m19 := by kernel_rfl }
noncomputable def Tryz.lays190_ren : Go.Shelf.Ren := ⟨fun | 190 => 107 | 125 => 132 | 258 => 131 | 128 => 155 | 129 => 156 | 302 => 146 | 303 => 147 | 304 => 148 | 305 => 149 | 306 => 150 | 307 => 151 | 308 => 152 | 309 => 153 | 310 => 154 | 333 => 172 | 329 => 173 | 330 => 174 | 334 => 175 | 335 => 176 | 336 => 177 | 344 => 193 | n => n, fun | 31 => 24 | 9 => 9 | 3 => 3 | 46 => 116 | 0 => 0 | 51 => 136 | 53 => 138 | 4 => 4 | 183 => 128 | 182 => 127 | 131 => 133 | 5 => 5 | 218 => 143 | 222 => 147 | 228 => 156 | 229 => 149 | n => n, fun | n => n⟩
theorem Tryz.lays190 : Go.Proofs.Lays.n190 Tryz.prog Tryz.lays190_ren := {
 mixed := by kernel_rfl
 f125 := Tryz.func132.trans (congrArg some (by kernel_rfl))
 f128 := Tryz.func155.trans (congrArg some (by kernel_rfl))
 f129 := Tryz.func156.trans (congrArg some (by kernel_rfl))
 f190 := Tryz.func107.trans (congrArg some (by kernel_rfl))
 f258 := Tryz.func131.trans (congrArg some (by kernel_rfl))
 f302 := Tryz.func146.trans (congrArg some (by kernel_rfl))
 f303 := Tryz.func147.trans (congrArg some (by kernel_rfl))
 f304 := Tryz.func148.trans (congrArg some (by kernel_rfl))
 f305 := Tryz.func149.trans (congrArg some (by kernel_rfl))
 f306 := Tryz.func150.trans (congrArg some (by kernel_rfl))
 f307 := Tryz.func151.trans (congrArg some (by kernel_rfl))
 f308 := Tryz.func152.trans (congrArg some (by kernel_rfl))
 f309 := Tryz.func153.trans (congrArg some (by kernel_rfl))
 f310 := Tryz.func154.trans (congrArg some (by kernel_rfl))
 f329 := Tryz.func173.trans (congrArg some (by kernel_rfl))
 f330 := Tryz.func174.trans (congrArg some (by kernel_rfl))
 f333 := Tryz.func172.trans (congrArg some (by kernel_rfl))
 f334 := Tryz.func175.trans (congrArg some (by kernel_rfl))
 f335 := Tryz.func176.trans (congrArg some (by kernel_rfl))
 f336 := Tryz.func177.trans (congrArg some (by kernel_rfl))
 f344 := Tryz.func193.trans (congrArg some (by kernel_rfl))
 t0 := Tryz.underlying0
 a0 := Tryz.isAgg0
 z0 := Tryz.sizeOf0
 v0 := Tryz.zeroValue0
 t3 := Tryz.underlying3
 a3 := Tryz.isAgg3
 z3 := Tryz.sizeOf3
 v3 := Tryz.zeroValue3
 t4 := Tryz.underlying4
 a4 := Tryz.isAgg4
 z4 := Tryz.sizeOf4
 v4 := Tryz.zeroValue4
 t5 := Tryz.underlying5
 a5 := Tryz.isAgg5
 z5 := Tryz.sizeOf5
 v5 := Tryz.zeroValue5
 t9 := Tryz.underlying9
 a9 := Tryz.isAgg9
 z9 := Tryz.sizeOf9
 v9 := Tryz.zeroValue9
 t31 := Tryz.underlying24
 a31 := Tryz.isAgg24
 z31 := Tryz.sizeOf24
 v31 := Tryz.zeroValue24
 t46 := Tryz.underlying116
 a46 := Tryz.isAgg116
 z46 := Tryz.sizeOf116
 v46 := Tryz.zeroValue116
 t51 := Tryz.underlying136
 a51 := Tryz.isAgg136
 z51 := Tryz.sizeOf136
 v51 := Tryz.zeroValue136
 t53 := Tryz.underlying138
 a53 := Tryz.isAgg138
 z53 := Tryz.sizeOf138
 v53 := Tryz.zeroValue138
 t131 := Tryz.underlying133
 a131 := Tryz.isAgg133
 z131 := Tryz.sizeOf133
 v131 := Tryz.zeroValue133
 t182 := Tryz.underlying127
 a182 := Tryz.isAgg127
 z182 := Tryz.sizeOf127
 v182 := Tryz.zeroValue127
 t183 := Tryz.underlying128
 a183 := Tryz.isAgg128
 z183 := Tryz.sizeOf128
 v183 := Tryz.zeroValue128
 t218 := Tryz.underlying143
 a218 := Tryz.isAgg143
 z218 := Tryz.sizeOf143
 v218 := Tryz.zeroValue143
 t222 := Tryz.underlying147
 a222 := Tryz.isAgg147
 z222 := Tryz.sizeOf147
 v222 := Tryz.zeroValue147
 t228 := Tryz.underlying156
 a228 := Tryz.isAgg156
 z228 := Tryz.sizeOf156
 v228 := Tryz.zeroValue156
 t229 := Tryz.underlying149
 a229 := Tryz.isAgg149
 z229 := Tryz.sizeOf149
 v229 := Tryz.zeroValue149 }
noncomputable def Tryz.lays194_ren : Go.Shelf.Ren := ⟨fun | 194 => 108 | n => n, fun | 31 => 24 | 9 => 9 | 3 => 3 | 4 => 4 | 0 => 0 | n => n, fun | n => n⟩
theorem Tryz.lays194 : Go.Proofs.Lays.n194 Tryz.prog Tryz.lays194_ren := {
 mixed := by kernel_rfl
 f194 := Tryz.func108.trans (congrArg some (by kernel_rfl))
 t0 := Tryz.underlying0
 a0 := Tryz.isAgg0
 z0 := Tryz.sizeOf0
 v0 := Tryz.zeroValue0
 t3 := Tryz.underlying3
 a3 := Tryz.isAgg3
 z3 := Tryz.sizeOf3
 v3 := Tryz.zeroValue3
 t4 := Tryz.underlying4
 a4 := Tryz.isAgg4
 z4 := Tryz.sizeOf4
 v4 := Tryz.zeroValue4
 t9 := Tryz.underlying9
 a9 := Tryz.isAgg9
 z9 := Tryz.sizeOf9
 v9 := Tryz.zeroValue9
 t31 := Tryz.underlying24
 a31 := Tryz.isAgg24
 z31 := Tryz.sizeOf24
 v31 := Tryz.zeroValue24 }
noncomputable def Tryz.lc72_ren : Go.Shelf.Ren := ⟨fun | 41 => 72 | n => n, fun | 22 => 24 | 23 => 9 | 4 => 4 | n => n, fun | n => n⟩
theorem Tryz.lc72 : Go.Proofs.SlLaysE0.n41 Tryz.prog Tryz.lc72_ren := {
 mixed := by kernel_rfl
 f41 := ⟨Tryz.f72.name, by decide, Tryz.func72.trans (congrArg some (by kernel_rfl))⟩
 t4 := Tryz.underlying4
 a4 := Tryz.isAgg4
 z4 := Tryz.sizeOf4
 v4 := Tryz.zeroValue4
 t22 := Tryz.underlying24
 a22 := Tryz.isAgg24
 z22 := Tryz.sizeOf24
 v22 := Tryz.zeroValue24 }
end Go.Proofs
namespace Go.Proofs.YtggeppllafbidaaGreatDoor
open Go Go.Sort Go.Proofs.Tryz
set_option maxRecDepth 100000
def LB(n:Int):Option ag:=if(decide (-9223372036854775808<=n)&&decide (n<=9223372036854775807))=true then some (Lib.itoa n)else none
theorem Ol:gK=Lib.pow10Tab:=by kernel_rfl
theorem PA{n:Int}{r:ag}(h:LB n=some r):CC Pg GE 140 [.int .i64 n] (.str r) []:=by
 rcases aT h with⟨b,h⟩|⟨b,h⟩
 ·obtain rfl:=lf h
  simp only[vae,vai]at b
  refine CC.grownIS call140 fun E Γ bs ow w a st hE hS=>?_
  have htab:Lib.TabIs Pg w "internal/strconv.uint64pow10" .u64 Lib.pow10Tab:=Q2 hS (g:=1) (by rw[hE,←Ol];simp[GE]) (by kernel_rfl)
  refine(Any.strconv_Itoa Tryz.laysM171 n b.1 b.2 w htab).mono fun e w' he=>?_
  obtain⟨rfl,k,os,rfl⟩:=he
  exact⟨rfl,.of_grow _ _ _⟩
 ·cases h
theorem Jw{w:World}{b:Nat}{cur:Array Value}{e:TypeId}{l:List ag}(hh:w.heap[b]? =some (.cells cur e (0,0)))(ht:cur.toList.take l.length=l.map fun s=>Value.string ⟨s.toArray⟩):Holds encStr w b 0 l.toArray:=by
 intro j hj
 have hj':j<l.length:=by simpa using hj
 rw[vaD]
 refine⟨?_,frozen_of_row w b j cur e hh⟩
 rw[cell_of_row w b j cur e _ hh]
 have h1:(cur.toList.take l.length)[j]? =(l.map fun s=>Value.string ⟨s.toArray⟩)[j]?:=by rw[ht]
 rw[vak hj']at h1
 simp only[vaT,vax,vab hj',vaf]at h1
 rw[h1,getElem!_pos _ j hj]
 simp[encStr]
theorem Hq{w:World}{b n:Nat}{cur:Array Value}{e:TypeId}{os:Array Obj}(d l:List ag)(hh:w.heap[b]? =some (.cells cur e (0,0)))(hd:d.length<=cur.size)(hl:d.take l.length=l):(∀b',b'<w.heap.size->b'≠b->(grow (putRow encStr (Sort.ahead w n) b 0 d.toArray) os).heap[b']? =w.heap[b']?)/\w.heap.size<=(grow (putRow encStr (Sort.ahead w n) b 0 d.toArray) os).heap.size/\
   ∃cur',(grow (putRow encStr (Sort.ahead w n) b 0 d.toArray) os).heap[b]? =some (.cells cur' e (0,0))/\cur'.size=cur.size/\cur'.toList.take l.length=l.map fun s=>Value.string ⟨s.toArray⟩:=by
 have hb:b<w.heap.size:=(vao.1 hh).1
 have hsz:(putRow encStr (Sort.ahead w n) b 0 d.toArray).heap.size=w.heap.size:=by simp[putRow,mapBlock,Sort.ahead]
 refine⟨fun b' h1 h2=>?_,?_,putCells encStr 0 d.toArray cur,?_,by simp[putCells],?_⟩
 ·show((putRow encStr (Sort.ahead w n) b 0 d.toArray).heap++os)[b']? =_
  rw[vaH (by rw[hsz];exact h1)]
  show(w.heap.modify b (onCells _))[b']? =_
  rw[vbV,van (fun e=>h2 e.symm)]
 ·show _<=((putRow encStr (Sort.ahead w n) b 0 d.toArray).heap++os).size
  rw[Array.size_append,hsz];omega
 ·show((putRow encStr (Sort.ahead w n) b 0 d.toArray).heap++os)[b]? =_
  rw[vaH (by rw[hsz];exact hb)]
  show(w.heap.modify b (onCells _))[b]? =_
  rw[vbV,vaj rfl,hh]
  rfl
 ·have hll:l.length<=d.length:=by have h0:=vbr List.length hl;rw[vaR]at h0;omega
  refine vbc fun i=>?_
  by_cases hi:i<l.length
  ·have hdl:i<d.length:=by omega
   have hdi:d[i]=l[i]:=by
    have h1:(d.take l.length)[i]? =l[i]?:=by rw[hl]
    rw[vak hi,vab hdl,vab hi]at h1
    exact vbo h1
   rw[vak hi]
   simp only[vaT,putCells,Array.getElem?_mapIdx,vax,vab hi,vaf]
   have hc:cur[i]? =some (cur[i]'(by omega)):=va6 (by omega)
   rw[hc]
   simp only[vaf]
   rw[vaj ⟨vaJ _,by simp;omega⟩,Nat.sub_zero,getElem!_pos _ i (by simpa using hdl)]
   simp[encStr,hdi]
  ·rw[vaA (by simp[putCells];omega),vaA (by simp;omega)]
theorem lR(l:List ag):(i6 l).length=l.length:=by unfold i6;exact List.length_mergeSort _
theorem Nq{n:Nat}(h:n<=dB):n<4611686018427387904:=by unfold dB at h;omega
theorem PP:Nj Pg 107 9 (fun s=>Value.string ⟨s.toArray⟩) i6 (fun _ _ _=>.tuple #[]):={
 call:=call107
 row:=fun w b cap cur l hh hc hl hm hla ht=>by
  have hlen:=Nq hla
  refine(Any.slices_Sort_string Tryz.lays190 b 0 cap l w (Jw hh ht) ((vao.1 hh).1) hlen).mono fun r w' hr=>?_
  obtain⟨rfl,n,os,rfl⟩:=hr
  obtain⟨k1,k2,cur',k3,k4,k5⟩:=Hq (n:=n) (os:=os) (i6 l) (i6 l) hh (by rw[lR];omega) (vb0)
  exact⟨rfl,by rw[lR];exact hl,rfl,rfl,rfl,k2,k1,cur',k3,by omega,k5⟩
 none:=fun w=>⟨by simp[i6],Any.slices_Sort_string_none Tryz.lays190 Option.none 0 w⟩}
theorem H6(l:List ag):(Lib.compact l++List.replicate (l.length - (Lib.compact l).length) []).take (Lib.compact l).length=Lib.compact l:=by simp
theorem Cs(l:List ag):(Lib.compact l).length<=l.length:=by
 unfold Lib.compact Lib.compactUpTo
 rw[vaC]
 exact vaX (vaU _ _) (by simp)
theorem KE:Nj Pg 108 9 (fun s=>Value.string ⟨s.toArray⟩) Lib.compact (fun x k c=>.slice x k c):={
 call:=call108
 row:=fun w b cap cur l hh hc hl hm hla ht=>by
  have hlen:=Nq hla
  refine(calls_of_every_depth fun D=>AnyS.slices_Compact_string_in Tryz.lays194 D b 0 cap l w (Jw hh ht) (by omega) hl).mono fun r w' hr=>?_
  obtain⟨rfl,q,rfl⟩:=hr
  have hcl:=Cs l
  obtain⟨k1,k2,cur',k3,k4,k5⟩:=Hq (n:=q) (os:=#[]) (Lib.compact l++List.replicate (l.length - (Lib.compact l).length) []) (Lib.compact l) hh (by simp;omega) (H6 l)
  rw[grow_empty]at k1 k2 k3
  exact⟨rfl,by omega,rfl,rfl,rfl,k2,k1,cur',k3,by omega,k5⟩
 none:=fun w=>⟨by rfl,calls_of_every_depth fun D=>AnyS.slices_Compact_string_empty_in Tryz.lays194 D Option.none 0 w⟩}
def kF(a b:List ag):Option (List ag):=(app ([]:List ag) a).bind fun l=>(app l b).bind fun l2=>some (Lib.compact (EN l2))
noncomputable def Ko:Code:=f67.body.getD .skip
theorem T4:Pg.cellsOf 9=1:=by kernel_rfl
theorem PU(l:List ag)(h:l.length<=dB):aB Pg GE 0 (dj Ko [true,true,false]) (EX .normal (fa 15 5 (i6 l) 9)) (fa 15 5 l 9):=
 aB.inplace (t:=5) (d1:=11) (d2:=12) PP T4 h rfl rfl rfl rfl rfl rfl (by decide) (.inl ⟨rfl,lR l⟩)
theorem PV(l:List ag)(h:l.length<=dB):aB Pg GE 0 (dj Ko [true,true,true,false]) (EX .normal (fa 15 4 (Lib.compact l) 9)) (fa 15 5 l 9):=
 aB.inplace3 (t:=5) (d1:=13) (d2:=14) KE T4 h rfl rfl rfl rfl rfl rfl (by decide) (fun _ _ _=>rfl) rfl rfl rfl (by decide) (by decide)
theorem O8{α:Type}{l r z:List α}(h:app l r=some z):z.length<=dB:=by
 unfold app at h
 split at h
 ·cases h;simpa using ‹_›
 ·cases h
theorem vC{a b:List ag}{r:List ag}(h:kF a b=some r):CC Pg GE 67 [sl cS a,sl cS b] (sl cS r) [(0,9)]:=by
 obtain⟨l,bl,h⟩:=aw h
 obtain⟨l2,bl2,h⟩:=aw h
 obtain rfl:=lf h
 rw[Jz]
 have h2:=O8 bl2
 have h3:(i6 l2).length<=dB:=by rw[lR];exact h2
 exact C.ev (A:=[8,10]) mixed call67 func67 (c:=Ko) rfl (aI (am dS a)<|aI (am dS b) trivial)
  [.v (sl cS ([]:List ag)),.v (sl cS l),.v (sl cS l2),.pa 0,.pc (fa 15 5 l2 9) .normal (fa 15 5 (i6 l2) 9),.pa 0,.pc (fa 15 5 (i6 l2) 9) .normal (fa 15 4 (Lib.compact (i6 l2)) 9)]
  (Eq.mp (by kernel_rfl) (aI (aW.mk' (v:=PVal.str) CE ([]:List ag) 0 (by kernel_rfl))<|aI (aW.ap bl)<|aI (aW.ap bl2)<|aI (fr (fa 15 5 l2 9))<|aI (PU l2 h2)<|
   aI (fr (fa 15 5 (i6 l2) 9))<|aI (PV (i6 l2) h3)<|aI (rP (sl cS (Lib.compact (i6 l2)))) (am dS (Lib.compact (i6 l2)))))
abbrev fB:Nat:=105
abbrev fW:Nat:=129
noncomputable def bW:Code:=f129.body.getD .skip
noncomputable def bB:Code:=f105.body.getD .skip
theorem GY(p:aa):CC Pg GE fB [.agg (ac p)] (.func (.func fW) [] [.eptr (ac p)]) []:=by
 have z:=se (bM p)<|en (aI (rP (.func (.func fW) [] [.eptr (ac p)]))<|(aI trivial (aI (show iB 0 (ac p)from ah p) trivial)))
 exact C.evp (A:=[]) mixed call105 func105 (c:=bB) rfl (aI (ah p) trivial) z (by kernel_rfl)
theorem RU:bW=.region (SJ bW) (jS bW) false:=by kernel_rfl
theorem RY:List.range (jS bW).size=[0,1]++2::([]:List Nat):=by kernel_rfl
theorem RW:[0,1].map (fun i=>(jS bW)[i]?)=((jS bW).toList.take 2).map some:=by kernel_rfl
theorem RX:((jS bW).toList.take 2).all Ff=true:=by kernel_rfl
theorem Ti:(jS bW)[2]? =some (LJ bW 2):=by kernel_rfl
theorem Th:(LJ bW 2).guard=none:=by kernel_rfl
theorem RV:(LJ bW 2).op=.call {callee:=.value (.func fV),args:=#[.tmp 3,.tmp 4],argTypes:=Q5 (LJ bW 2)}:=by kernel_rfl
theorem Tg:(LJ bW 2).dst=some 5:=by kernel_rfl
theorem QI(p:aa)(l:Nat):cB Pg GE [] (jS bW) (fun st=>FG st (aN 6 [(3,.agg (ac p)),(4,yv l)] [] [])) ((jS bW).toList.take 2) 0 (aN 6 [(0,yv l),(1,.eptr (ac p))] [] []):=by
 have z:=sv (az p)<|en (fr (aN 6 [(3,.agg (ac p)),(4,yv l)] [] []))
 exact Am z (by kernel_rfl)
section
variable{S:Type}{step:S->aa->Option (Bool×S)}{J:Bool->S->aO->World->Prop}{l:Nat}
theorem Nv(hY:Yd Pg GE l ac step J)(p:aa){s:S}{r:Bool×S}{Γ:aO}{w:World}{v:Value}{n:Nat}(hv:GQ step p s=some r)(hJ:J true s Γ w)(hvr:VR Γ [] w (.eptr (ac p)) v):CallsIn Fence.wide n Pg fW #[.func (.yield l) #[] #[],v] w fun e w'=>(∃u,e=.returned u)/\∃Γ',Γ.Le w Γ' w'/\J r.1 r.2 Γ' w':=by
 refine callsIn_of_wp func129 (c:=bW) rfl trivial ?_
 have h0:VF J Γ w true s (aN 6 [(0,yv l),(1,.eptr (ac p))] [] []) (#[.func (.yield l) #[] #[],v]++Array.replicate 4 undef) w:=by
  refine⟨Γ,hJ,.refl _ _,_,_,_,(hY.base _ _ _ _ hJ).fresh 0 (tmps:=[yv l,.eptr (ac p)]++List.replicate 4 .undef) (by simp) fun t q u hq hu=>?_⟩
  by_cases ht:t<2
  ·rw[vac (by simpa using ht)]at hq
   rw[vaH (by simpa using ht)]at hu
   match t,ht with
   |0,_=>simp at hq hu;subst hq;subst hu;exact .val _
   |1,_=>simp at hq hu;subst hq;subst hu;exact hvr
  ·rw[vad (by simpa using ht),vaL]at hq
   split at hq<;>cases hq
   exact .undef u
 show bW.wpIn Fence.wide n Pg _ ⟨_,[]⟩ w
 have d2:(PVal.eptr (ac p)).cl 0:=ah p
 have d3:(PVal.agg (ac p)).cl 0:=ah p
 have key:(Code.region (SJ bW) (jS bW) false).wpIn Fence.wide n Pg (bodyPost Pg f129 fun e w'=>(∃u,e=.returned u)/\∃Γ',Γ.Le w Γ' w'/\J r.1 r.2 Γ' w') ⟨#[.func (.yield l) #[] #[],v]++Array.replicate 4 undef,[]⟩ w:=by
  refine wpIn_region ?_
  rw[RY]
  obtain⟨Γ1,hJ1,hle1,hS⟩:=VF.again hY (k:=0) (Mm (L:=[(0,yv l),(1,.eptr (ac p))]) (by exact aI trivial<|aI d2 trivial) 0 rfl) h0
  refine wF (A:=[]) (K:=fun st=>FG st (aN 6 [(3,.agg (ac p)),(4,yv l)] [] [])) (fun Γ' bs' ow' a' w' st hS' hK=>?_) _ _ Γ1 _ _ _ w _ RW (BV RX) hS (QI p l)
  obtain⟨Γ2,bs2,ow2,hS2⟩:=FG.sr hS' hK
  refine yX Ti Th (VF.visitc hY (kA:=0) (stB:=aN 6 [(3,.agg (ac p)),(4,yv l),(5,.bool r.1)] [] []) (Mm (by exact aI d3<|aI trivial trivial) 0 rfl) (Kb hY p) hv (y:=4) (x:=3) (d:=5) rfl rfl RV Tg rfl ⟨Γ2,hY.side _ _ _ _ hJ1 _ _ _ _ _ _ hS2,hle1.trans hS2.step.le,_,_,_,hS2⟩ fun a3 w3 h3=>?_)
  obtain⟨Γ3,hJ3,hle3,E,bs3,ow3,hS3⟩:=h3
  obtain⟨u,e1,_⟩:=nl hS3 (fn:=f129) (r:=.tuple []) (by kernel_rfl)
  exact⟨rfl,u,e1,⟨u,rfl⟩,Γ3,hle3,hJ3⟩
 rw[<-RU]at key
 exact key
end
abbrev UZ:Nat:=64
noncomputable def P2:Code:=f64.body.getD .skip
def OV:Code->Code
 |.rangeFunc _ _ a _=>a
 |_=>.skip
def OW:Code->Code
 |.rangeFunc _ _ _ b=>b
 |_=>.skip
abbrev Ue:Code:=dj P2 [false]
abbrev Uf:Code:=dj P2 [true,false]
abbrev Ug:Code:=dj P2 [true,true,false,false]
abbrev OU:Code:=dj P2 [true,true,false,true,false]
abbrev Ts:Code:=dj P2 [true,true,true,false]
theorem QH:P2=.seq Ue (.seq Uf (.seq (.seq Ug (.block 0 (.rangeFunc (.tmp 6) #[7] (OV OU) (OW OU)))) (.seq Ts .ret))):=by kernel_rfl
def nf(s:List ag)(x:aa):Option (Bool×List ag):=if(x.Op==3)=true then(app s [x.Name]).bind fun l=>some (true,l)else some (true,s)
def mt(p:aa):Option (List ag):=(GQ nf p []).bind fun q=>(kF q.2 []).bind fun r=>some r
abbrev OR(s:List ag):List ax:=[.dead,.cells [sl cS s] [(0,9)]]
abbrev TA(s:List ag):av:=aN 18 [(3,.bptr 1 0)] (OR s) []
theorem U5(p:aa):aB Pg GE 0 Ue (EX .normal (aN 18 [(1,.eptr (ac p))] [.dead] [])) (aN 18 [(0,.agg (ac p))] [] []):=by
 have z:=se (bM p)<|eF .normal (aN 18 [(1,.eptr (ac p))] [.dead] [])
 exact dU (A:=[]) mixed z (by kernel_rfl)
theorem U6(p:aa):aB Pg GE 0 Uf (EX .normal (aN 18 [(1,.eptr (ac p)),(3,.bptr 1 0)] (OR []) [])) (aN 18 [(1,.eptr (ac p))] [.dead] []):=by
 have z:=sx (show iV Pg 24=some [sl cS ([]:List ag)] by kernel_rfl)<|eF .normal (aN 18 [(1,.eptr (ac p)),(3,.bptr 1 0)] (OR []) [])
 exact dU (A:=[]) mixed z (by kernel_rfl)
abbrev stR(p:aa):av:=aN 18 [(3,.bptr 1 0),(6,.func (.func fW) [] [.eptr (ac p)])] (OR []) []
theorem U7(p:aa):aB Pg GE 0 Ug (EX .normal (stR p)) (aN 18 [(1,.eptr (ac p)),(3,.bptr 1 0)] (OR []) []):=by
 have z:=sv (az p)<|ba (GY p)<|eF .normal (stR p)
 exact dU (A:=[]) mixed z (by kernel_rfl)
abbrev TB(s:List ag)(x:aa):av:=aN 18 [(3,.bptr 1 0),(4,.bptr 2 0)] (OR s++[.cells (IU x) []]) []
theorem U8(s:List ag)(x:aa):aB Pg GE 2 (OV OU) (EX .normal (TB s x)) (aN 18 [(3,.bptr 1 0),(7,.agg (ac x))] (OR s) []):=by
 have z:=sx eX<|sx (bv x)<|eF .normal (TB s x)
 exact dU (A:=[]) mixed z (by kernel_rfl)
abbrev TC(r:List ag):av:=aN 18 [(3,.bptr 1 0)] (OR r++[.dead]) []
theorem U9(s:List ag)(x:aa){r:Bool×List ag}(h:nf s x=some r):r.1=true/\aB Pg GE 2 (OW OU) (EX .normal (TC r.2)) (TB s x):=by
 unfold nf at h
 rcases aT h with⟨c1,h⟩|⟨c1,h⟩
 ·obtain⟨l,bl,h⟩:=aw h
  cases h
  refine⟨rfl,?_⟩
  have z:=ss<|sg 0 c1<|ss<|sv (aW.mk' (v:=PVal.str) CE ([x.Name]:List ag) 1 (by kernel_rfl))<|sv (aW.ap bl)<|eF .normal (TC l)
  exact dU (A:=[11]) mixed z (by kernel_rfl)
 ·cases h
  refine⟨rfl,?_⟩
  have z:=ss<|sg 0 c1<|eF .normal (TC s)
  exact dU (A:=[11]) mixed z (by kernel_rfl)
abbrev TD(r:List ag):av:=aN 18 [(2,sl cS r)] [.dead,.dead] [((2,0),9)]
theorem Va(s:List ag){r:List ag}(h:kF s []=some r):aB Pg GE 2 (.seq Ts .ret) (EX .ret (TD r)) (TA s):=by
 have z:=sv (show ch Pg 24 [sl cS s]=some (sl cS s) by kernel_rfl)<|ba (vC h)<|eF .ret (TD r)
 exact dU (A:=[]) mixed z (by kernel_rfl)
abbrev y8(fn:FuncId)(a:Array Value)(D:Nat):Loop:={state:=.ready,pending:=none,fn:=fn,tmps:=a,params:=#[7],assign:=OV OU,body:=OW OU,defers:=D}
def JF(Γe:aO)(we:World)(bs:bg)(a:Array Value)(fn:FuncId)(l D:Nat)(b:Bool)(s:List ag)(Γ:aO)(w:World):Prop:=
 b=true/\∃ow,SR Pg (DN GE Γe we) Γ bs ow w a (TA s)/\¬bu bs ow l/\¬bu bs ow D/\w.heap[l]? =some (.loop (y8 fn a D))/\w.heap[D]? =some (.deferred (some []))
theorem cx{w:World}{b:Nat}{o:Obj}(h:w.heap[b]? =some o):b<w.heap.size:=(vao.1 h).1
theorem RF{Γe:aO}{we:World}{bs:bg}{a:Array Value}{fn:FuncId}{l D:Nat}(hl:we.heap.size<=l)(hD:we.heap.size<=D)(hne:D≠l)(hb:bs.length=2):Yd Pg GE l ac nf (JF Γe we bs a fn l D) where
 base:=fun b s Γ w ⟨_,ow,h,_⟩=>h.base
 side:=fun b s Γ w ⟨h0,ow,h,hTl,hTD,hhl,hhD⟩ Γ' bs' ow' w' a' st' h'=>
  ⟨h0,ow,h.aside h',hTl,hTD,(h'.step.keep l (cx hhl) id).1.trans hhl,(h'.step.keep D (cx hhD) id).1.trans hhD⟩
 yield:=fun s Γ w x v n r ⟨h0,ow,h,hTl,hTD,hhl,hhD⟩ hv hr=>by
  obtain⟨hr1,hS4⟩:=U9 s x hr
  refine⟨_,_,_,_,run_yield hhl rfl,?_⟩
  have hz:(((#[7]:Array Tmp).zip #[v]).foldl (fun tmps (t,a)=>tmps.setIfInBounds t a) a)=a.setIfInBounds 7 v:=by simp
  show RoundIn Fence.wide n Pg l fn (((#[7]:Array Tmp).zip #[v]).foldl (fun tmps (t,a)=>tmps.setIfInBounds t a) a) (OV OU) (OW OU) w _
  rw[hz]
  have h7:SR Pg (DN GE Γe we) Γ bs ow w (a.setIfInBounds 7 v) (aN 18 [(3,.bptr 1 0),(7,.agg (ac x))] (OR s) []):=h.set (d:=7) (p:=.agg (ac x)) (hv.mono (.refl _ _) (fun i b hi=>by simp at hi))
  refine roundIn_of_wpIn trivial (wpIn_mono (aB.on (U8 s x) (by decide) h7 (by rw[hb];decide) (some l) [] n) ?_)
  rintro e ⟨a1,ds1⟩ w1 ⟨rfl,Γ1,bs1,ow1,st1,h1,⟨rfl,rfl⟩,hbs1,hle1,hsz1,hk1⟩
  obtain⟨k1,t1⟩:=hk1 l (cx hhl) hTl
  obtain⟨k1D,t1D⟩:=hk1 D (cx hhD) hTD
  have hl1:=k1.trans hhl
  refine⟨_,run_beginRound hl1 rfl,?_⟩
  obtain⟨h1',hle1'⟩:=h1.putOther (l:=l) (o:=.loop {y8 fn a D with state:=.busy}) t1 (.inr hl) (fun c t fr e=>by rw[hl1]at e;cases e)
  have hb1:2<=bs1.length:=by have:=h1.bl;rw[this];exact vcz rfl
  refine wpIn_mono (aB.on hS4 (by decide) h1' hb1 (some l) [] n) ?_
  rintro e ⟨a2,ds2⟩ w2 ⟨rfl,Γ2,bs2,ow2,st2,h2,⟨rfl,rfl⟩,hbs2,hle2,hsz2,hk2⟩
  have hl1':(w1.putObj l (.loop {y8 fn a D with state:=.busy})).heap[l]? =some (.loop {y8 fn a D with state:=.busy}):=World.putObj_heap_same (cx hl1)
  have hD1':(w1.putObj l (.loop {y8 fn a D with state:=.busy})).heap[D]? =some (.deferred (some [])):=(World.putObj_heap_other hne).trans (k1D.trans hhD)
  obtain⟨k2,t2⟩:=hk2 l (cx hl1') t1
  obtain⟨k2D,t2D⟩:=hk2 D (cx hD1') t1D
  have hl2:=k2.trans hl1'
  refine⟨_,_,run_endRound none hl2,?_⟩
  obtain⟨h3,hle3⟩:=h2.putOther (l:=l) (o:=.loop {{y8 fn a D with state:=.busy}with state:=if(none:Option Code).isNone then .ready else .done,pending:=none}) t2 (.inr hl) (fun c t fr e=>by rw[hl2]at e;cases e)
  have hle:Γ.Le w Γ2 (w2.putObj l (.loop {{y8 fn a D with state:=.busy}with state:=if(none:Option Code).isNone then .ready else .done,pending:=none})):=((hle1.trans hle1').trans hle2).trans hle3
  obtain⟨ow3,h4,hT4⟩:=h.back rfl h3 hle (H':=OR r.2) (fun i hi=>(hbs2 i (by omega)).trans (hbs1 i (by omega))) (by
   refine⟨trivial,⟨rfl,aI (up (am dS r.2)) trivial,fun x hx=>hx⟩,trivial⟩) hb.symm
  refine⟨Γ2,by rw[hr1];rfl,hle,hr1,ow3,h4,fun hx=>t2 (hT4 l hx),fun hx=>t2D (hT4 D hx),?_,?_⟩
  ·exact World.putObj_heap_same (cx hl2)
  ·exact(World.putObj_heap_other hne).trans (k2D.trans hD1')
theorem Aq{p:aa}{r:List ag}(h:mt p=some r):CC Pg GE UZ [.agg (ac p)] (sl cS r) [(0,9)]:=by
 obtain⟨q,hq,h⟩:=aw h
 obtain⟨r',hu,h⟩:=aw h
 cases h
 refine⟨aI (ah p) trivial,call64,fun Γ bs ow w vs hS=>(callsIn_wide (n:=0)).1 (callsIn_of_wp_marks func64 (c:=P2) rfl trivial ?_)⟩
 obtain rfl:bs=[]:=vam hS.bl
 obtain⟨v,rfl⟩:∃v,vs=#[v]:=vbH.1 hS.sz
 have hB:F9 GE Γ w:=hS.base
 have hE:xg GE 0 (DN GE Γ w):=hB.good
 have hvr:VR Γ [] w (.agg (ac p)) v:=hS.tm 0 _ _ rfl rfl
 have h0:SR Pg (DN GE Γ w) Γ [] (fun _=>none) w (#[v]++Array.replicate 17 undef) (aN 18 [(0,.agg (ac p))] [] []):=by
  refine hB.fresh (a:=#[v]++Array.replicate 17 undef) 0 (tmps:=[.agg (ac p)]++List.replicate 17 .undef) (by simp) fun t q u hq hu=>?_
  by_cases ht:t<1
  ·rw[vac (by simpa using ht)]at hq
   rw[vaH (by simpa using ht)]at hu
   match t,ht with
   |0,_=>simp at hq hu;subst hq;subst hu;exact hvr
  ·rw[vad (by show 1<=t;omega),vaL]at hq
   split at hq<;>cases hq
   exact .undef u
 show P2.wpIn Fence.wide 0 Pg _ ⟨#[v]++Array.replicate 17 undef,[]⟩ w
 rw[QH]
 refine wpIn_seq (wpIn_mono (aB.wideE (U5 p) hE h0 0 []) ?_)
 rintro e ⟨a1,ds1⟩ w1 ⟨rfl,Γ1,bs1,ow1,st1,h1,rfl,rfl⟩
 refine wpIn_seq (wpIn_mono (aB.wideE (U6 p) hE h1 0 []) ?_)
 rintro e ⟨a2,ds2⟩ w2 ⟨rfl,Γ2,bs2,ow2,st2,h2,rfl,rfl⟩
 refine wpIn_seq (wpIn_seq (wpIn_mono (aB.wideE (U7 p) hE h2 0 []) ?_))
 rintro e ⟨a3,ds3⟩ w3 ⟨rfl,Γ3,bs3,ow3,st3,h3,rfl,rfl⟩
 have h6:=h3.opv [] (.tmp 6)
 have e6:opv (DN GE Γ w).GE (stR p).tmps (.tmp 6)=.func (.func fW) [] [.eptr (ac p)]:=rfl
 rw[e6]at h6
 have hbl:bs3.length=2:=h3.bl
 refine wpIn_block (wpIn_rangeFunc fun fn _=>?_)
 obtain⟨g1,l1⟩:=h3.allocO (.deferred (some []))
 obtain⟨g2,l2⟩:=g1.allocO (.loop (y8 fn a3 w3.heap.size))
 have gF:=g2.forgetT (tm:=(TA []).tmps) rfl
 have hsz3:w.heap.size<=w3.heap.size:=h3.step.size
 have htl:∀b,w3.heap.size<=b->¬bu bs3 ow3 b:=fun b hb hx=>by
  rcases hx with⟨i,hi⟩|hx
  ·have hil:i<(stR p).boxes.length:=by rw[<-h3.bl];exact ak hi
   have:=(h3.bx i b _ hi (vab hil)).2.1
   omega
  ·cases hL:ow3 b with
   |none=>exact hx hL
   |some L=>have:=(h3.on b L hL).1;omega
 generalize hvf:(Act.mk a3 []).eval (.tmp 6)=vf at h6
 cases h6 with
 |func _ _ _ fs cs hl1 hl2 hf hc=>
 obtain rfl:fs=#[]:=vaY hl1
 obtain⟨cv,rfl⟩:∃v,cs=#[v]:=vbH.1 hl2
 have hcv:VR Γ3 bs3 w3 (.eptr (ac p)) cv:=hc 0 _ _ rfl rfl
 have hJ:JF Γ w bs3 a3 fn (w3.heap.size+1) w3.heap.size true [] Γ3 ((w3.alloc (.deferred (some []))).alloc (.loop (y8 fn a3 w3.heap.size))):=by
  refine⟨rfl,ow3,gF,htl _ (by omega),htl _ (var _),?_,?_⟩
  ·have:=World.alloc_heap_new (w3.alloc (.deferred (some []))) (.loop (y8 fn a3 w3.heap.size))
   rwa[World.size_alloc]at this
  ·rw[da _ _ (by rw[World.size_alloc];omega)]
   exact World.alloc_heap_new w3 _
 have hY:=RF (Γe:=Γ) (we:=w) (bs:=bs3) (a:=a3) (fn:=fn) (l:=w3.heap.size+1) (D:=w3.heap.size) (by omega) hsz3 (by omega) hbl
 refine⟨_,_,_,{target:=.fn (.func fW) #[cv],args:=#[.func (.yield (w3.heap.size+1)) #[] #[]]},(w3.alloc (.deferred (some []))).alloc (.loop (y8 fn a3 w3.heap.size)),fW,#[.func (.yield (w3.heap.size+1)) #[] #[],cv],(w3.alloc (.deferred (some []))).alloc (.loop (y8 fn a3 w3.heap.size)),run_enterLoop_outer fn a3 #[7] (OV OU) (OW OU),?_,fun _ _=>trivial,?_,fun hx=>by simp[Fence.wide]at hx,?_⟩
 ·have hvf':(Act.mk a3 []).eval (.tmp 6)=.func (.func fW) #[] #[cv]:=hvf
  simp only[resolve,hvf',Deferred.ofValue]
  simp[Act.eval]
 ·simp[invoke,call129]
 ·refine(Nv hY p (n:=0 - 1) hq hJ (((hcv.mono l1 (.refl _)).mono l2 (.refl _)).clo (show iB 0 (ac p)from ah p))).mono ?_
  rintro e w4 ⟨⟨u,rfl⟩,Γ4,hle4,hq1,ow4,h4,tl4,tD4,hl4,hD4⟩
  refine⟨none,_,run_endLoop hl4 (by simp),?_⟩
  obtain⟨h5,hle5⟩:=h4.putOther (l:=w3.heap.size+1) (o:=.loop {y8 fn a3 w3.heap.size with state:=.exhausted}) tl4 (.inr (show w.heap.size<=_ by omega)) (fun c t fr e=>by rw[hl4]at e;cases e)
  have hD5:(w4.putObj (w3.heap.size+1) (.loop {y8 fn a3 w3.heap.size with state:=.exhausted})).heap[w3.heap.size]? =some (.deferred (some [])):=(World.putObj_heap_other (by omega)).trans hD4
  generalize w4.putObj (w3.heap.size+1) (.loop {y8 fn a3 w3.heap.size with state:=.exhausted})=w5 at h5 hle5 hD5
  show(Code.seq Ts .ret).wpIn Fence.wide 0 Pg _ ⟨a3,[{target:=.collected w3.heap.size,args:=#[]}]⟩ w5
  refine wpIn_mono (wpIn_wide.2 (aB.on (Va q.2 hu) (by decide) h5 (by rw[hbl];decide) none [{target:=.collected w3.heap.size,args:=#[]}])) ?_
  rintro e ⟨a6,ds6⟩ w6 ⟨rfl,Γ6,bs6,ow6,st6,h6,⟨rfl,rfl⟩,hbs6,hle6,hsz6,hk6⟩
  obtain⟨k6,t6⟩:=hk6 _ (cx hD5) tD4
  have hD6:=k6.trans hD5
  obtain⟨h7,hle7⟩:=h6.putOther (l:=w3.heap.size) (o:=.deferred none) t6 (.inr hsz3) (fun c t fr e=>by rw[hD6]at e;cases e)
  refine⟨by simp,.inl ⟨w3.heap.size,_,rfl,run_takeDeferred hD6,?_⟩⟩
  have hS7:SR Pg ⟨GE,Γ,w,bu [] ow⟩ Γ6 bs6 ow6 (w6.putObj w3.heap.size (.deferred none)) a6 (TD r):={h7 with
   bn:=fun i b hb=>(h7.bn i b hb).elim False.elim .inr
   on:=fun b L hL=>⟨(h7.on b L hL).1,(h7.on b L hL).2.elim False.elim .inr⟩
   gx:=hS.gx
   step:={h7.step with keep:=fun b hb _=>h7.step.keep b hb (fun hx=>hx)}}
  obtain⟨vr,e1,e2,e3⟩:=nl hS7 (fn:=f64) (r:=sl cS r) (by kernel_rfl)
  refine⟨vr,e1,vr,Γ6,vp (cZ f64.results.toList) [(0,9)] ow6,rfl,?_⟩
  have hrs:f64.results.toList=[.tmp 2]:=by kernel_rfl
  have hf:=hS7.finish (H':=[]) (src:=cZ f64.results.toList) (ro:=[(0,9)]) e2 (am dS r) trivial (fun x hx=>by
   simp only[vaV]at hx
   subst hx
   refine⟨?_,fun u v'=>e3 0 u v' ?_⟩
   ·rw[hrs];exact vaV.2 rfl
   ·rw[hrs];trivial) (fun x hx y hy _=>by
   simp only[vaV]at hx hy
   rw[hx,hy])
  simpa using hf
theorem G4:ma Pg 72 9:=Mf Tryz.lc72 rfl rfl (by kernel_rfl) call72
theorem KA{l r:List ag}(h:vj l=some r):CC Pg GE 72 [sl cS l] (sl cS r) [(0,9)]:=aW.cloneCC G4 h
end Go.Proofs.YtggeppllafbidaaGreatDoor
