/- PROVED: a part of the proof. Conditions: none. -/
import Derived.Test.YtankopenjcbeeaaGreatDoords18
import Derived.Test.YtankopenjcbeeaaGreatDoords11
import Derived.Shelf.SlicesE.DeleteFunc
import Derived.Shelf.SlicesE.Index
set_option linter.unusedSimpArgs false
set_option linter.unusedVariables false
noncomputable section
namespace Go.Proofs.YtankopenjcbeeaaGreatDoor
open Go Go.Sort Go.Proofs.Tryz
set_option linter.unusedVariables false
set_option maxRecDepth 100000
set_option linter.unusedSimpArgs false
abbrev qeO:Nat:=61
abbrev PY:Nat:=82
abbrev VY:Nat:=31
abbrev qdd:Nat:=83
noncomputable def WZ:Code:=f61.body.getD .skip
noncomputable def Cq:Code:=f82.body.getD .skip
noncomputable def IK:Code:=f83.body.getD .skip
theorem FW{P:Program}{a:Act}{w:World}{Q:Exit->Act->World->Prop}{ops:Array Oper}{L:List Nat}{i:Nat}{o:Oper}{f:FuncId}{vs:Array Value}{R:Ending->World->Prop}(hi:ops[i]? =some o)(hg:o.guard=none)(hrun:(execOp a.eval o).run P w=.ok (.enter f vs) w)
  (hc:Calls P f vs w R) (h:∀e w',R e w'->∃v,e=.returned v/\wpOps P ops Q L (a.put o.dst v) w'):wpOps P ops Q (i::L) a w:=by
 rw[wpOps_cons]
 unfold wpOp
 rw[hi]
 simp only
 rw[vaJ (by simp[Region.wanted,hg])]
 refine .inl ?_
 unfold Oper.wp
 rw[hrun,Oper.upon_enter]
 refine hc.mono λe w' he=>?_
 obtain⟨v,rfl,hx⟩:=h e w' he
 exact hx
def qc7(o:Oper):TypeId:=match o.op with
 |.binOp _ _ _ _ s=>s
 |_=>0
theorem ya{P:Program}{a:Act}{w:World}{o:Oper}{f:FuncId}{args:Array Operand}{tys:Array TypeId}(ho:o.op=.call {callee:=.value (.func f),args:=args,argTypes:=tys})(hc:∀vs w,(callFunc f vs).run P w=.ok (.enter f vs) w):(execOp a.eval o).run P w=.ok (.enter f (args.map a.eval)) w:=by
 simp only[execOp,ho]
 simp[resolve,Act.eval,Deferred.ofValue,invoke,hc]
theorem HS{Γ:aP}{w:World}{l:List ac}{b off:Nat}{vals:Nat->Nat->Value}{sz:Nat}(hsz:∀(i:Nat) e,(l.map cS)[i]? =some e->e.length=sz)
  (hc:∀(i:Nat) e (k:Nat) p,(l.map cS)[i]? =some e->e[k]? =some p->w.cell? ⟨b,off+i * sz+k,none⟩=some (vals i k))
  (hv:∀(i:Nat) e (k:Nat) p,(l.map cS)[i]? =some e->e[k]? =some p->VR Γ [] w p (vals i k)):∀j,j<l.length->w.cell? ⟨b,off+j,none⟩=some (encStr l[j]!):=λj hj=>by
 have hx:(l.map cS)[j]? =some (cS l[j]):=by simp[hj]
 have hs1:sz=1:=by have:=hsz j _ hx;simp[cS]at this;exact this.symm
 subst hs1
 have e1:=hc j _ 0 (.str l[j]) hx rfl
 have e2:=hv j _ 0 (.str l[j]) hx rfl
 rw[show off+j * 1+0=off+j by omega]at e1
 rw[e1,getElem!_pos l j hj]
 generalize vals j 0=q at e2
 cases e2
 rfl
theorem O7(T:TypeId):EqlAt Pg T encStr (λx y=>x==y):=⟨λx y w=>by
 have:=(EqlAt.string Pg T).1 ⟨x.toArray⟩ ⟨y.toArray⟩ w
 simpa[encStr]using this,λop a b x y w=>(EqlAt.string Pg T).2 op a b ⟨x.toArray⟩ ⟨y.toArray⟩ w⟩
theorem QU(l:List ac)(x:ac):decide (Lib.idxBy (λx y=>x==y) l x>=0)=l.any λy=>y==x:=by
 have:=Lib.idxBy_nonneg_iff (λx y=>x==y) l x
 rw[show decide (Lib.idxBy (λx y=>x==y) l x>=0)=decide (0<=Lib.idxBy (λx y=>x==y) l x)from rfl]
 rw[this]
 congr 1
 funext y
 exact Bool.eq_iff_iff.2 (by simp only[va0];exact eq_comm)
theorem Pb{Γ:aP}{W:World}{v:Value}{ps:List ac}{x:ac}(hv:VR Γ [] W (sl cS ps) v)(hl:ps.length<=bF):Calls Pg qdd #[v,encStr x] W λe w'=>e=.returned (.int .i64 (Lib.idxBy (λx y=>x==y) ps x))/\w'=W:=by
 have hIx:Calls Pg 90 #[v,encStr x] W λe w'=>e=.returned (.int .i64 (Lib.idxBy (λx y=>x==y) ps x))/\w'=W:=by
  unfold sl at hv
  generalize hes:ps.map cS=es at hv
  cases hv with
  | sliceNil =>
   have hn:ps=[]:=by cases ps with
    |nil=>rfl
    |cons x l=>simp at hes
   subst hn
   exact AnyE.slices_Index_empty Tryz.ix90 none 0 _ W
  | sliceE a cap =>
   have hn:ps=[]:=by cases ps with
    |nil=>rfl
    |cons x l=>simp at hes
   subst hn
   exact AnyE.slices_Index_empty Tryz.ix90 (some a) cap _ W
  |slice _ b off cap n sz vals h0 hcap hg hn hsz hc hvv=>
   subst hes
   have h:=AnyE.slices_Index Tryz.ix90 encStr (λx y=>x==y) (O7 _) b off (ps.map cS).length cap ps x W (by simp) (by rw[vbd];unfold bF at hl;omega) (HS (Γ:=Γ) hsz hc hvv)
   rw[show ps.take (ps.map cS).length=ps from List.take_of_length_le (by simp)]at h
   exact h
 refine calls_of_wp func83 (c:=IK) rfl ?_
 have hn:f83.ntmps=8:=by kernel_rfl
 refine(λ(key:∀A0:Act,A0.tmps.size=8->A0.tmps[0]? =some v->A0.tmps[1]? =some (encStr x)->A0.defers=[]->IK.wp Pg _ A0 W)=>key _ ?_ ?_ ?_ rfl) ?_
 ·rw[hn];simp
 ·rw[hn];simp
 ·rw[hn];simp
 intro A0 z0 z1 z2 z3
 have hb:IK=.seq (.region (Hb (aC IK [false])) #[cx (aC IK [false]) 0] false) (.seq (.region (Hb (aC IK [true,false])) #[cx (aC IK [true,false]) 0,cx (aC IK [true,false]) 1,cx (aC IK [true,false]) 2,cx (aC IK [true,false]) 3] false) .ret):=by kernel_rfl
 rw[hb]
 have d0:(cx (aC IK [false]) 0).dst=some 4:=by kernel_rfl
 have o1:(cx (aC IK [true,false]) 0).op=.move (.tmp 0):=by kernel_rfl
 have d1:(cx (aC IK [true,false]) 0).dst=some 5:=by kernel_rfl
 have o2:(cx (aC IK [true,false]) 1).op=.move (.tmp 1):=by kernel_rfl
 have d2:(cx (aC IK [true,false]) 1).dst=some 6:=by kernel_rfl
 have o3:(cx (aC IK [true,false]) 2).op=.call {callee:=.value (.func 90),args:=#[.tmp 5,.tmp 6],argTypes:=LD (cx (aC IK [true,false]) 2)}:=by kernel_rfl
 have d3:(cx (aC IK [true,false]) 2).dst=some 7:=by kernel_rfl
 have o4:(cx (aC IK [true,false]) 3).op=.assign (.tmp 7):=by kernel_rfl
 have d4:(cx (aC IK [true,false]) 3).dst=some 4:=by kernel_rfl
 refine wp_seq (uo (cm (o:=cx (aC IK [false]) 0) (by kernel_rfl) (by kernel_rfl) (v:=.int .i64 0) (w':=W) (by kernel_rfl) ?_))
 rw[d0]
 show Code.wp Pg _ _ _ W
 refine wp_seq (uo (cm (o:=cx (aC IK [true,false]) 0) (by kernel_rfl) (by kernel_rfl) (v:=v) (w':=W) ?_ ?_))
 ·have:(A0.put (some 4) (.int .i64 0)).eval (.tmp 0)=v:=aV (by simp only[ce];exact z1)
  simp[execOp,o1,this]
 rw[d1]
 refine cm (o:=cx (aC IK [true,false]) 1) (by kernel_rfl) (by kernel_rfl) (v:=encStr x) (w':=W) ?_ ?_
 ·have:((A0.put (some 4) (.int .i64 0)).put (some 5) v).eval (.tmp 1)=encStr x:=aV (by simp only[ce];exact z2)
  simp[execOp,o2,this]
 rw[d2]
 have e5:(((A0.put (some 4) (.int .i64 0)).put (some 5) v).put (some 6) (encStr x)).eval (.tmp 5)=v:=aV (by simp only[ce,bS,z0];rfl)
 have e6:(((A0.put (some 4) (.int .i64 0)).put (some 5) v).put (some 6) (encStr x)).eval (.tmp 6)=encStr x:=aV (by simp only[ce,bS,z0];rfl)
 have hrun:=ya (a:=((A0.put (some 4) (.int .i64 0)).put (some 5) v).put (some 6) (encStr x)) (w:=W) o3 call90
 rw[show(#[Operand.tmp 5,.tmp 6]:Array Operand).map (((A0.put (some 4) (.int .i64 0)).put (some 5) v).put (some 6) (encStr x)).eval=#[v,encStr x] by simp[e5,e6]]at hrun
 refine FW (o:=cx (aC IK [true,false]) 2) (by kernel_rfl) (by kernel_rfl) hrun hIx ?_
 rintro e w' ⟨rfl,rfl⟩
 refine⟨_,rfl,?_⟩
 rw[d3]
 refine cm (o:=cx (aC IK [true,false]) 3) (by kernel_rfl) (by kernel_rfl) (v:=.int .i64 (Lib.idxBy (λx y=>x==y) ps x)) (w':=w') ?_ ?_
 ·have:((((A0.put (some 4) (.int .i64 0)).put (some 5) v).put (some 6) (encStr x)).put (some 7) (.int .i64 (Lib.idxBy (λx y=>x==y) ps x))).eval (.tmp 7)=.int .i64 (Lib.idxBy (λx y=>x==y) ps x):=aV (by simp only[ce,bS,z0];rfl)
  simp[execOp,o4,this]
 rw[d4]
 show Code.wp Pg _ _ _ w'
 refine wp_ret ⟨by simp only[aT];exact z3,.int .i64 (Lib.idxBy (λx y=>x==y) ps x),?_,rfl,rfl⟩
 have hg:(((((A0.put (some 4) (.int .i64 0)).put (some 5) v).put (some 6) (encStr x)).put (some 7) (.int .i64 (Lib.idxBy (λx y=>x==y) ps x))).put (some 4) (.int .i64 (Lib.idxBy (λx y=>x==y) ps x))).tmps[4]? =some (.int .i64 (Lib.idxBy (λx y=>x==y) ps x)):=by simp only[ce,bS,z0];rfl
 simp[results,vas,hg]
theorem qk.same{Γ:aP}{w W:World}(hB:qk GE Γ w)(hk:∀b,b<w.heap.size->W.heap[b]? =w.heap[b]?):qk GE Γ W/\Γ.Le w Γ W:=by
 have hlt:∀b n,Γ b=some n->b<w.heap.size:=λb n h=>by obtain⟨c,t,fr,h1,_⟩:=hB.wi b n h;exact cM h1
 have hle:Γ.Le w Γ W:=λb n hb _=>⟨n,hb,vaj _,λo _=>bj (hk b (hlt b n hb)) o⟩
 refine⟨{
  wi:=λb n h=>by obtain⟨c,t,fr,h1,h2⟩:=hB.wi b n h;exact⟨c,t,fr,(hk b (hlt b n h)).trans h1,h2⟩
  gl:=λg cs hg=>(hB.gl g cs hg).mono hle (.refl _)
  gc:=hB.gc
  gx:=λg cs hg=>by
   obtain⟨k1,c,t,fr,k2,k3⟩:=hB.gx g cs hg
   have:=(hk g k1).trans k2
   exact⟨cM this,c,t,fr,this,k3⟩},hle⟩
theorem Xs(d:bD):gO Pg 32 (.eptr ((aQ d).drop 1)) []=some (sl cS d.Params):=MZ d
theorem Sf{Γ:aP}{W:World}{cv:Value}{d:bD}(hB:qk GE Γ W)(hcv:VR Γ [] W (.eptr (aQ d)) cv)(hl:d.Params.length<=bF)(x:ac):Calls Pg PY #[encStr x,cv] W λe w'=>e=.returned (.bool (d.Params.any λy=>y==x))/\w'=W:=by
 obtain⟨v4,hfa,hv4⟩:=nb (P:=Pg) hcv (MM d)
 have hS:=hB.fresh (P:=Pg) (a:=#[]) 0 (tmps:=[]) rfl (λt p v hp=>by simp at hp)
 obtain⟨v5,hld,hv5⟩:=pl (P:=Pg) hS hv4 (Xs d)
 have hF:=Pb (x:=x) hv5 hl
 refine calls_of_wp func82 (c:=Cq) rfl ?_
 have hn:f82.ntmps=9:=by kernel_rfl
 refine(λ(key:∀A0:Act,A0.tmps.size=9->A0.tmps[0]? =some (encStr x)->A0.tmps[1]? =some cv->A0.defers=[]->Cq.wp Pg _ A0 W)=>key _ ?_ ?_ ?_ rfl) ?_
 ·rw[hn];simp
 ·rw[hn];simp
 ·rw[hn];simp
 intro A0 z0 z1 z2 z3
 have hb:Cq=.seq (.region (Hb (aC Cq [false])) #[cx (aC Cq [false]) 0] false) (.seq (.region (Hb (aC Cq [true,false])) #[cx (aC Cq [true,false]) 0,cx (aC Cq [true,false]) 1,cx (aC Cq [true,false]) 2,cx (aC Cq [true,false]) 3,cx (aC Cq [true,false]) 4,cx (aC Cq [true,false]) 5] false) .ret):=by kernel_rfl
 rw[hb]
 have d0:(cx (aC Cq [false]) 0).dst=some 3:=by kernel_rfl
 have o1:(cx (aC Cq [true,false]) 0).op=.fieldAddr 65 (.tmp 1) 1:=by kernel_rfl
 have d1:(cx (aC Cq [true,false]) 0).dst=some 4:=by kernel_rfl
 have o2:(cx (aC Cq [true,false]) 1).op=.load 32 (.tmp 4):=by kernel_rfl
 have d2:(cx (aC Cq [true,false]) 1).dst=some 5:=by kernel_rfl
 have o3:(cx (aC Cq [true,false]) 2).op=.move (.tmp 0):=by kernel_rfl
 have d3:(cx (aC Cq [true,false]) 2).dst=some 6:=by kernel_rfl
 have o4:(cx (aC Cq [true,false]) 3).op=.call {callee:=.value (.func qdd),args:=#[.tmp 5,.tmp 6],argTypes:=LD (cx (aC Cq [true,false]) 3)}:=by kernel_rfl
 have d4:(cx (aC Cq [true,false]) 3).dst=some 7:=by kernel_rfl
 have d5:(cx (aC Cq [true,false]) 4).dst=some 8:=by kernel_rfl
 have o6:(cx (aC Cq [true,false]) 5).op=.assign (.tmp 8):=by kernel_rfl
 have d6:(cx (aC Cq [true,false]) 5).dst=some 3:=by kernel_rfl
 refine wp_seq (uo (cm (o:=cx (aC Cq [false]) 0) (by kernel_rfl) (by kernel_rfl) (v:=.bool false) (w':=W) (by kernel_rfl) ?_))
 rw[d0]
 show Code.wp Pg _ _ _ W
 refine wp_seq (uo (cm (o:=cx (aC Cq [true,false]) 0) (by kernel_rfl) (by kernel_rfl) (v:=v4) (w':=W) ?_ ?_))
 ·have:(A0.put (some 3) (.bool false)).eval (.tmp 1)=cv:=aV (by simp only[ce];exact z2)
  simp[execOp,o1,this,hfa]
 rw[d1]
 generalize hA1:(A0.put (some 3) (.bool false)).put (some 4) v4=A1
 have y0:A1.tmps.size=9:=by rw[<-hA1];simp only[bS];exact z0
 have y1:A1.tmps[0]? =some (encStr x):=by rw[<-hA1];simp only[ce];exact z1
 have y4:A1.tmps[4]? =some v4:=by rw[<-hA1];simp only[ce,bS,z0];rfl
 have y3:A1.defers=[]:=by rw[<-hA1];simp only[aT];exact z3
 clear hA1
 refine cm (o:=cx (aC Cq [true,false]) 1) (by kernel_rfl) (by kernel_rfl) (v:=v5) (w':=W) ?_ ?_
 ·have:A1.eval (.tmp 4)=v4:=aV y4
  simp[execOp,o2,this,hld]
 rw[d2]
 refine cm (o:=cx (aC Cq [true,false]) 2) (by kernel_rfl) (by kernel_rfl) (v:=encStr x) (w':=W) ?_ ?_
 ·have:(A1.put (some 5) v5).eval (.tmp 0)=encStr x:=aV (by simp only[ce];exact y1)
  simp[execOp,o3,this]
 rw[d3]
 have e5:((A1.put (some 5) v5).put (some 6) (encStr x)).eval (.tmp 5)=v5:=aV (by simp only[ce,bS,y0];rfl)
 have e6:((A1.put (some 5) v5).put (some 6) (encStr x)).eval (.tmp 6)=encStr x:=aV (by simp only[ce,bS,y0];rfl)
 have hrun:=ya (a:=(A1.put (some 5) v5).put (some 6) (encStr x)) (w:=W) o4 call83
 rw[show(#[Operand.tmp 5,.tmp 6]:Array Operand).map ((A1.put (some 5) v5).put (some 6) (encStr x)).eval=#[v5,encStr x] by simp[e5,e6]]at hrun
 refine FW (o:=cx (aC Cq [true,false]) 3) (by kernel_rfl) (by kernel_rfl) hrun hF ?_
 rintro e w' ⟨rfl,rfl⟩
 refine⟨_,rfl,?_⟩
 rw[d4]
 generalize hA2:((A1.put (some 5) v5).put (some 6) (encStr x)).put (some 7) (.int .i64 (Lib.idxBy (λx y=>x==y) d.Params x))=A2
 have x0:A2.tmps.size=9:=by rw[<-hA2];simp only[bS];exact y0
 have x7:A2.tmps[7]? =some (.int .i64 (Lib.idxBy (λx y=>x==y) d.Params x)):=by rw[<-hA2];simp only[ce,bS,y0];rfl
 have x3:A2.defers=[]:=by rw[<-hA2];simp only[aT];exact y3
 clear hA2
 have o5:(cx (aC Cq [true,false]) 4).op=.binOp .geq 3 (.tmp 7) (.const (.int .i64 0)) (qc7 (cx (aC Cq [true,false]) 4)):=by kernel_rfl
 refine cm (o:=cx (aC Cq [true,false]) 4) (by kernel_rfl) (by kernel_rfl) (v:=.bool (d.Params.any λy=>y==x)) (w':=w') ?_ ?_
 ·have e7:A2.eval (.tmp 7)=.int .i64 (Lib.idxBy (λx y=>x==y) d.Params x):=aV x7
  have hp:M7 Pg .geq 3 (.int .i64 (Lib.idxBy (λx y=>x==y) d.Params x)) (.int .i64 0)=some (.bool (decide (Lib.idxBy (λx y=>x==y) d.Params x>=0))):=rfl
  obtain⟨vb,hb1,hb2⟩:=Kg (P:=Pg) (w:=w') (Γ:=Γ) (bs:=[]) (.int .i64 _) (.int .i64 0) (.tmp 7) (.const (.int .i64 0)) hp
  rw[QU]at hb2
  have hv:vb=.bool (d.Params.any λy=>y==x):=by cases hb2;rfl
  subst hv
  have ec:A2.eval (.const (.int .i64 0))=.int .i64 0:=rfl
  simp only[execOp,o5,Sem.run_bind,e7,ec]at hb1 ⊢
  rw[hb1];rfl
 rw[d5]
 refine cm (o:=cx (aC Cq [true,false]) 5) (by kernel_rfl) (by kernel_rfl) (v:=.bool (d.Params.any λy=>y==x)) (w':=w') ?_ ?_
 ·have:(A2.put (some 8) (.bool (d.Params.any λy=>y==x))).eval (.tmp 8)=.bool (d.Params.any λy=>y==x):=aV (by simp only[ce,bS,x0];rfl)
  simp[execOp,o6,this]
 rw[d6]
 show Code.wp Pg _ _ _ w'
 refine wp_ret ⟨by simp only[aT];exact x3,.bool (d.Params.any λy=>y==x),?_,rfl,rfl⟩
 have hg:((A2.put (some 8) (.bool (d.Params.any λy=>y==x))).put (some 3) (.bool (d.Params.any λy=>y==x))).tmps[3]? =some (.bool (d.Params.any λy=>y==x)):=by simp only[ce,bS,x0];rfl
 simp[results,vas,hg]
def Pn(d:bD)(s:ac):Bool:=d.Params.any λy=>y==s
noncomputable def qeM:Code:=f31.body.getD .skip
theorem QV(d:bD):fX [] d=some (-1):=by
 have h:dI [] d 0 0=some (.inr ()):=by
  unfold dI
  exact L2 (by unfold eD;rfl)
 unfold fX
 rw[show(([]:List ac).length:Int)=0 from rfl,h];rfl
theorem Sa(d:bD):CC Pg GE VY [sl cS ([]:List ac),.func (.func PY) [] [.eptr (aQ d)]] (sl cS ([]:List ac)) []:=by
 have z:=RE (qJ _ (QV d))<|sg 0 (show((-1:Int)==-1)=true from rfl)<|en (aI (rP (sl cS ([]:List ac)))<|(ak eU ([]:List ac)))
 exact C.evp (A:=[]) mixed call31 func31 (c:=qeM) rfl (aI (ak eU ([]:List ac))<|aI (aI vzz (aI (show eP 0 (aQ d)from fZ d) trivial)) trivial) z (by kernel_rfl)
structure UB(Γ1 Γ3:aP)(w1 w3:World):Prop where
 wi:∀b n,Γ3 b=some n->∃c t fr,w3.heap[b]? =some (.cells c t fr)/\n<=c.size
 keep:∀b,b<w1.heap.size->w3.heap[b]? =w1.heap[b]?/\Γ3 b=Γ1 b
 os:w3.os=w1.os
 tape:w3.tape=w1.tape
 output:w3.output=w1.output
 size:w1.heap.size<=w3.heap.size
 drawn:dr w1<=dr w3
theorem Vq{Γ1 Γ2:aP}{w1 w2:World}{cv v5:Value}{d:bD}{l:List ac}{ow2:Nat->Option fR}(hB1:qk GE Γ1 w1)(hcv:VR Γ1 [] w1 (.eptr (aQ d)) cv)(hps:d.Params.length<=bF)
  (h2:SR Pg (oW GE Γ1 w1) Γ2 [] ow2 w2 #[v5] ⟨[sl cS l],[],[((0,0),eS)]⟩) (hl:l.length<=bF):
  Calls Pg VY #[v5,.func (.func PY) #[] #[cv]] w2 λe w3=>∃v7 Γ3,e=.returned v7/\VR Γ3 [] w3 (sl cS (l.filter λs=>!Pn d s)) v7/\UB Γ1 Γ3 w1 w3:=by
 have hk2:∀b,b<w1.heap.size->w2.heap[b]? =w1.heap[b]?:=λb hb=>(h2.step.keep b hb id).1
 have hlt1:∀b n,Γ1 b=some n->b<w1.heap.size:=λb n h=>by obtain⟨c,t,fr,q1,_⟩:=hB1.wi b n h;exact cM q1
 have hempty:l=[]->VR Γ1 [] w2 (sl cS ([]:List ac)) v5->Calls Pg VY #[v5,.func (.func PY) #[] #[cv]] w2 λe w3=>∃v7 Γ3,e=.returned v7/\VR Γ3 [] w3 (sl cS (l.filter λs=>!Pn d s)) v7/\UB Γ1 Γ3 w1 w3:=by
  rintro rfl hv
  obtain⟨hB2,hle2⟩:=hB1.same hk2
  have hT:aR [] (λ_=>none)=λ_=>False:=by
   funext b
   exact propext ⟨λh=>h.elim (λ⟨i,hi⟩=>by simp at hi) (λhx=>hx rfl),False.elim⟩
  have hfr:=hB2.fresh (P:=Pg) (a:=#[v5,.func (.func PY) #[] #[cv]]) 0 (tmps:=[sl cS ([]:List ac),.func (.func PY) [] [.eptr (aQ d)]]) rfl (λt p v hp hv'=>by
   match t,hp,hv' with
   |0,hp,hv'=>simp at hp hv';subst hp;subst hv';exact hv
   | 1,hp,hv' =>
    simp at hp hv';subst hp;subst hv'
    exact .func _ _ _ _ _ rfl rfl (λi p v hp=>by simp at hp) (λi p v hp hv=>by
     match i,hp,hv with
     |0,hp,hv=>simp at hp hv;subst hp;subst hv;exact hcv.mono hle2 (.refl _)
     |i+1,hp,_=>simp at hp)
   |t+2,hp,_=>simp at hp)
  have hC:=(Sa d).2.2 Γ1 [] (λ_=>none) w2 #[v5,.func (.func PY) #[] #[cv]] (by rw[hT];exact hfr)
  refine hC.mono λe w3 he=>?_
  obtain⟨v7,Γ',ow',rfl,hS⟩:=he
  rw[hT]at hS
  have hv7:VR Γ' [] w3 (sl cS ([]:List ac)) v7:=hS.tm 0 _ _ rfl rfl
  refine⟨v7,Γ1,rfl,?_,λb n hb=>?_,λb hb=>⟨?_,rfl⟩,hS.step.os.trans h2.step.os,hS.step.tape.trans h2.step.tape,hS.step.output.trans h2.step.output,vay h2.step.size hS.step.size,vay h2.step.drawn hS.step.drawn⟩
  ·rw[List.filter_nil]
   unfold sl at hv7 ⊢
   rw[vbX]at hv7 ⊢
   cases hv7 with
   |sliceNil=>exact .sliceNil
   |sliceE a cap=>exact .sliceE a cap
   |slice _ b off cap n sz vals h0 hcap hg hn hsz hc hvv=>exact .sliceE _ _
  ·obtain⟨c,t,fr,q1,q2⟩:=hB2.wi b n hb
   exact⟨c,t,fr,((hS.step.keep b (cM q1) id).1).trans q1,q2⟩
  ·exact((hS.step.keep b (vau hb h2.step.size) id).1).trans (hk2 b hb)
 obtain⟨u,v,hu,hpv,hown,hob⟩:=h2.ot 0 0 eS (by simp)
 have hvu:u=v5:=by simpa using hu.symm
 subst hvu
 have hvr:VR Γ2 [] w2 (sl cS l) u:=h2.tm 0 _ _ rfl rfl
 unfold sl at hvr
 generalize hes:l.map cS=es at hvr
 cases hvr with
 | sliceNil =>
  have hn:l=[]:=by cases l with
   |nil=>rfl
   |cons x l=>simp at hes
  exact hempty hn (by unfold sl;rw[vbX];exact .sliceNil)
 | sliceE x cap =>
  have hn:l=[]:=by cases l with
   |nil=>rfl
   |cons x l=>simp at hes
  exact hempty hn (by unfold sl;rw[vbX];exact .sliceE x cap)
 | slice _ b off cap m sz vals hz0 hcap hg hm hszs hc hvv =>
  rw[vW]at hpv
  cases hpv
  obtain⟨k,xs,⟨hx1,hx2⟩,hx3⟩:=hown
  rcases hx2 with⟨hx2,_⟩|⟨g',cap',cur,hx2,_,hheap,hkc,hcm,hcs,htake⟩
  ·cases hx2
  ·cases hx2
   subst hes
   rw[Vo,vbl]at hcs htake
   have hlen:(l.map cS).length=l.length:=by simp
   have hcap':l.length<=cap:=by rw[<-hlen];exact hcap
   have hcs':cur.size=cap:=by omega
   have hbl:=h2.on b _ (hob b rfl)
   have hb1:w1.heap.size<=b:=hbl.2.resolve_left id
   have hcell:=HS (Γ:=Γ2) hszs hc hvv
   have hrow:cur.toList.take l.length=l.map λs=>Value.string ⟨s.toArray⟩:=by
    refine vaL λi=>?_
    by_cases hi:i<l.length
    ·rw[vao hi]
     simp only[vaA,vah,vaa hi,van]
     have e1:=hcell i hi
     rw[vaD,cell_of_row w2 b i cur eS _ hheap,getElem!_pos l i hi]at e1
     rw[e1]
    ·rw[vav (by simp;omega),vav (by simp;omega)]
   have gives:∀(W:World) (x:ac),(∀j,j<w1.heap.size->W.heap[j]? =w1.heap[j]?)->FnGives Pg PY #[cv] #[encStr x] (.bool (Pn d x)) W:=λW x hW=>by
    obtain⟨hBW,hle⟩:=hB1.same hW
    refine(Sf hBW (hcv.mono hle (.refl _)) hps x).mono λe w' he=>?_
    obtain⟨rfl,rfl⟩:=he
    exact⟨rfl,0,rfl⟩
   have hcall:=AnyE.slices_DeleteFunc (P:=Pg) Tryz.df31 encStr (λ_=>rfl) (Pn d) PY #[cv] call82 [] Tryz.zeroValue9 b 0 cap l.toArray w2
    (λW x hb=>gives W x λj hj=>(hb.block j (vau hj h2.step.size)).trans (hk2 j hj))
    (λn os dk x hdk=>gives _ x λj hj=>by
     obtain⟨k1,_⟩:=sS (n:=n) (os:=os) dk.toList [] hheap (by rw[Array.length_toList,hdk];simp;omega) (by simp)
     rw[Array.toArray_toList]at k1
     exact(k1 j (vau hj h2.step.size) (by omega)).trans (hk2 j hj))
    (FC hheap hrow) (by simp;unfold bF at hl;omega) (by simpa using hcap)
   have hsz5:l.toArray.size=l.length:=by simp
   rw[hsz5]at hcall
   rw[hlen]
   refine hcall.mono λe w3 he=>?_
   obtain⟨rfl,q,rfl⟩:=he
   generalize hR:(l.filter λx=>!Pn d x)=r
   have hrl:r.length<=l.length:=by rw[<-hR];exact vbp _ _
   obtain⟨k1,k2,cur',k3,k4,k5⟩:=sS (n:=q) (os:=#[]) (r++List.replicate (l.length - r.length) []) r hheap (by simp;omega) (by simp)
   rw[grow_empty]at k1 k2 k3
   refine⟨_,Γ1.put b r.length,rfl,?_,λx n hx=>?_,λx hx=>⟨?_,Γ1.put_other (by omega)⟩,h2.step.os,h2.step.tape,h2.step.output,vay h2.step.size k2,vay h2.step.drawn (vD (vbq _ _))⟩
   ·have:=VR.slice (Γ:=Γ1.put b r.length) (bs:=[]) (w:=putRow encStr (Sort.ahead w2 q) b 0 (r++List.replicate (l.length - r.length) []).toArray) (r.map cS) b 0 cap r.length 1 (λi _=>.string ⟨(r[i]!).toArray⟩) (by decide) (by simp;omega) (Γ1.put_same _ _) (by simp)
     (λi x hx=>by rw[vah]at hx;cases hf:r[i]? with
      |none=>rw[hf]at hx;cases hx
      |some s=>rw[hf]at hx;cases hx;rfl)
     (λi x k q' hx hq=>by
      rw[vah]at hx
      cases hf:r[i]? with
      |none=>rw[hf]at hx;cases hx
      |some s=>
       rw[hf]at hx;cases hx
       have hil:=ah hf
       have hk:k=0:=by have:=ah hq;simp[cS]at this;exact this
       subst hk
       rw[show 0+i * 1+0=i by omega,cell_of_row _ b i cur' eS _ k3]
       have h1:(cur'.toList.take r.length)[i]? =(r.map λs=>Value.string ⟨s.toArray⟩)[i]?:=by rw[k5]
       rw[vao hil]at h1
       simp only[vaA,vah]at h1
       rw[h1]
       simp[hil])
     (λi x k q' hx hq=>by
      rw[vah]at hx
      cases hf:r[i]? with
      |none=>rw[hf]at hx;cases hx
      |some s=>
       rw[hf]at hx;cases hx
       have hk:k=0:=by have:=ah hq;simp[cS]at this;exact this
       subst hk
       simp[cS]at hq;subst hq
       have:r[i]! =s:=by rw[vbE,hf];rfl
       rw[this]
       exact .str s)
    rw[vbd]at this
    exact this
   ·by_cases hxb:x=b
    ·subst hxb;rw[Γ1.put_same]at hx;cases hx;exact⟨cur',eS,(0,0),k3,by omega⟩
    ·rw[Γ1.put_other hxb]at hx
     obtain⟨c,t,fr,q1,q2⟩:=hB1.wi x n hx
     have hxl:=cM q1
     exact⟨c,t,fr,((k1 x (vau hxl h2.step.size) hxb).trans (hk2 x hxl)).trans q1,q2⟩
   ·exact(k1 x (vau hx h2.step.size) (by omega)).trans (hk2 x hx)
def DV(d:bD):Option (List ac):=(GG d.Body).bind λl=>if(decide (l.length<=bF)&&decide (d.Params.length<=bF))=true then some (l.filter λs=>!Pn d s)else none
abbrev qc8:Code:=aC WZ [false]
abbrev Hf:Code:=aC WZ [true,false]
abbrev XN(d:bD):ay:=aM 8 [(1,.eptr (aQ d))] [.dead] []
theorem qbW(d:bD):cC Pg GE 0 qc8 (EX .normal (XN d)) (aM 8 [(0,.agg (aQ d))] [] []):=by
 have z:=se (FY d)<|eF .normal (XN d)
 exact dX (A:=[]) mixed z (by kernel_rfl)
theorem Vy(d:bD):gO Pg 50 (.eptr ((aQ d).drop 2)) []=some (.agg (aj d.Body)):=M0 d
theorem U9:WZ=.seq qc8 (.seq (.region (Hb Hf) #[cx Hf 0,cx Hf 1,cx Hf 2,cx Hf 3,cx Hf 4,cx Hf 5] false) .ret):=by kernel_rfl
theorem HX{d:bD}{r:List ac}(h:DV d=some r):CC Pg GE qeO [.agg (aQ d)] (sl cS r) []:=by
 obtain⟨l,hcl,h⟩:=KZ h
 rcases OB h with⟨c1,h⟩|⟨_,h⟩
 rotate_left
 ·cases h
 obtain⟨hl,hps⟩:l.length<=bF/\d.Params.length<=bF:=by simpa using c1
 obtain rfl:=lf h
 refine⟨aI (fZ d) trivial,call61,λΓ bs ow w vs hS=>calls_of_wp func61 (c:=WZ) rfl ?_⟩
 obtain rfl:bs=[]:=vag hS.bl
 obtain⟨v,rfl⟩:∃v,vs=#[v]:=vbz.1 hS.sz
 have hB:qk GE Γ w:=hS.base
 have hE:mj GE 0 (oW GE Γ w):=hB.good
 have hvr:VR Γ [] w (.agg (aQ d)) v:=hS.tm 0 _ _ rfl rfl
 have h0:SR Pg (oW GE Γ w) Γ [] (λ_=>none) w (#[v]++Array.replicate 7 undef) (aM 8 [(0,.agg (aQ d))] [] []):=by
  refine hB.fresh (a:=#[v]++Array.replicate 7 undef) 0 (tmps:=[.agg (aQ d)]++List.replicate 7 .undef) (by simp) λt q u hq hu=>?_
  by_cases ht:t<1
  ·rw[vac (by simpa using ht)]at hq
   rw[vaH (by simpa using ht)]at hu
   match t,ht with
   |0,_=>simp at hq hu;subst hq;subst hu;exact hvr
  ·rw[vae (by show 1<=t;omega),vaE]at hq
   split at hq<;>cases hq
   exact .undef u
 show WZ.wp Pg _ ⟨#[v]++Array.replicate 7 undef,[]⟩ w
 rw[U9]
 refine wp_seq (wp_mono (qbW d none (oW GE Γ w) [] ⟨#[v]++Array.replicate 7 undef,[]⟩ w hE rfl ⟨Γ,[],_,h0,λi hi=>absurd hi (vaw _)⟩) ?_)
 rintro e ⟨a1,ds1⟩ w1 ⟨rfl,st1,⟨Γ1,bs1,ow1,h1,_⟩,rfl,rfl⟩
 have hB1:qk GE Γ1 w1:=h1.base
 have hz1:a1.size=8:=h1.sz
 obtain⟨cv,hcv1⟩:∃cv,a1[1]? =some cv:=⟨a1[1]'(by omega),by simp[hz1]⟩
 have hcv:VR Γ1 [] w1 (.eptr (aQ d)) cv:=(h1.tm 1 _ _ rfl hcv1).clo (show eP 0 (aQ d)from fZ d)
 obtain⟨v3,hfa,hv3⟩:=nb (P:=Pg) hcv (MN d)
 obtain⟨v4,hld,hv4⟩:=pl (P:=Pg) (hB1.fresh (P:=Pg) (a:=#[]) 0 (tmps:=[]) rfl (λt p v hp=>by simp at hp)) hv3 (Vy d)
 have hT:aR [] (λ_=>none)=λ_=>False:=by
  funext b
  exact propext ⟨λh=>h.elim (λ⟨i,hi⟩=>by simp at hi) (λhx=>hx rfl),False.elim⟩
 have hfr:=hB1.fresh (P:=Pg) (a:=#[v4]) 0 (tmps:=[.agg (aj d.Body)]) rfl (λt p v hp hv'=>by
  match t,hp,hv' with
  |0,hp,hv'=>simp at hp hv';subst hp;subst hv';exact hv4
  |t+1,hp,_=>simp at hp)
 have hC:=(I4 _ hcl).2.2 Γ1 [] (λ_=>none) w1 #[v4] (by rw[hT];exact hfr)
 rw[hT]at hC
 have o1:(cx Hf 0).op=.fieldAddr 65 (.tmp 1) 2:=by kernel_rfl
 have d1:(cx Hf 0).dst=some 3:=by kernel_rfl
 have o2:(cx Hf 1).op=.load 50 (.tmp 3):=by kernel_rfl
 have d2:(cx Hf 1).dst=some 4:=by kernel_rfl
 have o3:(cx Hf 2).op=.call {callee:=.value (.func 81),args:=#[.tmp 4],argTypes:=LD (cx Hf 2)}:=by kernel_rfl
 have d3:(cx Hf 2).dst=some 5:=by kernel_rfl
 have o4:(cx Hf 3).op=.makeFunc (.func PY) #[] #[.tmp 1]:=by kernel_rfl
 have d4:(cx Hf 3).dst=some 6:=by kernel_rfl
 have o5:(cx Hf 4).op=.call {callee:=.value (.func VY),args:=#[.tmp 5,.tmp 6],argTypes:=LD (cx Hf 4)}:=by kernel_rfl
 have d5:(cx Hf 4).dst=some 7:=by kernel_rfl
 have o6:(cx Hf 5).op=.assign (.tmp 7):=by kernel_rfl
 have d6:(cx Hf 5).dst=some 2:=by kernel_rfl
 refine wp_seq (uo (cm (o:=cx Hf 0) (by kernel_rfl) (by kernel_rfl) (v:=v3) (w':=w1) ?_ ?_))
 ·have:(Act.mk a1 []).eval (.tmp 1)=cv:=aV hcv1
  simp[execOp,o1,this,hfa]
 rw[d1]
 refine cm (o:=cx Hf 1) (by kernel_rfl) (by kernel_rfl) (v:=v4) (w':=w1) ?_ ?_
 ·have:((Act.mk a1 []).put (some 3) v3).eval (.tmp 3)=v3:=aV (by simp only[ce,hz1];rfl)
  simp[execOp,o2,this,hld]
 rw[d2]
 generalize hA1:((Act.mk a1 []).put (some 3) v3).put (some 4) v4=A1
 have y0:A1.tmps.size=8:=by rw[<-hA1];simp only[bS];exact hz1
 have y1:A1.tmps[1]? =some cv:=by rw[<-hA1];simp only[ce];exact hcv1
 have y4:A1.tmps[4]? =some v4:=by rw[<-hA1];simp only[ce,bS,hz1];rfl
 have y3:A1.defers=[]:=by rw[<-hA1];simp only[aT]
 clear hA1
 have hrun:=ya (a:=A1) (w:=w1) o3 call81
 rw[show(#[Operand.tmp 4]:Array Operand).map A1.eval=#[v4] by simp[aV y4]]at hrun
 refine FW (o:=cx Hf 2) (by kernel_rfl) (by kernel_rfl) hrun hC ?_
 rintro e w2 ⟨v5,Γ2,ow2,rfl,h2⟩
 refine⟨_,rfl,?_⟩
 rw[d3]
 refine cm (o:=cx Hf 3) (by kernel_rfl) (by kernel_rfl) (v:=.func (.func PY) #[] #[cv]) (w':=w2) ?_ ?_
 ·have:(A1.put (some 5) v5).eval (.tmp 1)=cv:=aV (by simp only[ce];exact y1)
  simp[execOp,o4,this]
  rfl
 rw[d4]
 generalize hA2:(A1.put (some 5) v5).put (some 6) (.func (.func PY) #[] #[cv])=A2
 have x0:A2.tmps.size=8:=by rw[<-hA2];simp only[bS];exact y0
 have x5:A2.tmps[5]? =some v5:=by rw[<-hA2];simp only[ce,bS,y0];rfl
 have x6:A2.tmps[6]? =some (.func (.func PY) #[] #[cv]):=by rw[<-hA2];simp only[ce,bS,y0];rfl
 have x3:A2.defers=[]:=by rw[<-hA2];simp only[aT];exact y3
 clear hA2
 have hrun2:=ya (a:=A2) (w:=w2) o5 call31
 rw[show(#[Operand.tmp 5,.tmp 6]:Array Operand).map A2.eval=#[v5,.func (.func PY) #[] #[cv]] by simp[aV x5,aV x6]]at hrun2
 refine FW (o:=cx Hf 4) (by kernel_rfl) (by kernel_rfl) hrun2 (Vq hB1 hcv hps h2 hl) ?_
 rintro e w3 ⟨v7,Γ3,rfl,hv7,hW⟩
 refine⟨_,rfl,?_⟩
 rw[d5]
 refine cm (o:=cx Hf 5) (by kernel_rfl) (by kernel_rfl) (v:=v7) (w':=w3) ?_ ?_
 ·have:(A2.put (some 7) v7).eval (.tmp 7)=v7:=aV (by simp only[ce,bS,x0];rfl)
  simp[execOp,o6,this]
 rw[d6]
 show Code.wp Pg _ _ _ w3
 have hlt1:∀b n,Γ1 b=some n->b<w1.heap.size:=λb n h=>by obtain⟨c,t,fr,q1,_⟩:=hB1.wi b n h;exact cM q1
 have hle:Γ1.Le w1 Γ3 w3:=λb n hb _=>⟨n,by rw[(hW.keep b (hlt1 b n hb)).2];exact hb,vaj _,λo _=>bj (hW.keep b (hlt1 b n hb)).1 o⟩
 have hB3:qk GE Γ3 w3:={
  wi:=hW.wi
  gl:=λg cs hg=>(hB1.gl g cs hg).mono hle (.refl _)
  gc:=hB1.gc
  gx:=λg cs hg=>by
   obtain⟨k1,c,t,fr,k2,k3⟩:=hB1.gx g cs hg
   have:=(hW.keep g k1).1.trans k2
   exact⟨cM this,c,t,fr,this,k3⟩}
 have hF:=hB3.fresh (P:=Pg) (a:=#[v7]) 0 (tmps:=[sl cS (l.filter λs=>!Pn d s)]) rfl (λt p v hp hv'=>by
  match t,hp,hv' with
  |0,hp,hv'=>simp at hp hv';subst hp;subst hv';exact hv7
  |t+1,hp,_=>simp at hp)
 refine wp_ret ⟨by simp only[aT];exact x3,v7,?_,v7,Γ3,λ_=>none,rfl,{hF with
  bn:=λi b hb=>by simp at hb
  on:=λb L hL=>by simp at hL
  gx:=hS.gx
  step:=⟨hW.os.trans h1.step.os,hW.tape.trans h1.step.tape,hW.output.trans h1.step.output,vay h1.step.size hW.size,vay h1.step.drawn hW.drawn,λb hb _=>?_,h1.step.le.trans hle⟩}⟩
 ·have hg:((A2.put (some 7) v7).put (some 2) v7).tmps[2]? =some v7:=by simp only[ce,bS,x0];rfl
  simp[results,vas,hg]
 ·have k1:=h1.step.keep b hb id
  have k3:=hW.keep b (vau hb h1.step.size)
  exact⟨k3.1.trans k1.1,k3.2.trans k1.2⟩
open Go Go.Proofs.Tryz
noncomputable def XZ:Code:=f60.body.getD .skip
def qdX:List Nat:=[]
theorem qaQ:ZF Pg qdX 60 f60 XZ:=zf call60 func60 rfl mixed
section
variable(t1:aw)(v:ac)(is:Bool)(t20:waA)(t21:Int)(t22:Int)(m2:(List (ac×Bool)))(v2:aw)(m:ac)(m3:waA)(m4:Int)(m5:ac)(m6:Int)(m7:waE)(m8:waF)(m9:waD)(m10:waC)(m11:Int)(m12:Bool)(m13:waA)(m14:waH)(m15:waI)(m16:waG)(m17:Int)(m18:ac)(m19:waC)(m20:waA)(m21:Int)(m22:ac)(m23:Int)(m24:waB)(m25:waB)(m26:waB)(m27:ac)(m28:waA)(m29:Int)(m30:ac)(m31:Int)(m32:waE)(m33:waF)(m34:waD)(m35:waC)(m36:Int)(m37:Bool)(m38:waA)(m39:waH)(m40:waI)(m41:waG)(m42:Int)(m43:ac)(m44:waC)(m45:waA)(m46:Int)(m47:ac)(m48:Int)(m49:waB)(m50:waB)(m51:waB)
def ky:Option Bool:=
 if is=true then
  some (!((pg m2 v).getD false))
 else
  some false
theorem qM:OJ 4 (cA XZ 8174) (ky v is m2) .normal (λo=>aM 50 [(1,.eptr (aq t1)),(2,.bptr 0 0),(3,.bptr 3 0),(8,.str v),(20,sl cS t20),(21,.int .i64 t21),(22,.int .i64 t22),(41,.bool o)] [.cells [.bptr 1 0] [],.cells [.mapr 2] [],.map (bA PVal.bool m2),.cells [.func (.func 60) [] [.eptr (aq v2),.bptr 0 0,.bptr 3 0]] [],.cells [.str m,sl cS m3,.int .i64 m4,.str m5,.int .i64 m6,sl aj m7,sl aD m8,sl aN m9,sl ai m10,.int .i64 m11,.bool m12,sl cS m13,sl bv m14,sl bP m15,sl aS m16,.int .i64 m17,.str m18,sl ai m19,sl cS m20,.int .i64 m21,.str m22,.int .i64 m23,sl aa m24,sl aa m25,sl aa m26] [],.cells [.str m27,sl cS m28,.int .i64 m29,.str m30,.int .i64 m31,sl aj m32,sl aD m33,sl aN m34,sl ai m35,.int .i64 m36,.bool m37,sl cS m38,sl bv m39,sl bP m40,sl aS m41,.int .i64 m42,.str m43,sl ai m44,sl cS m45,.int .i64 m46,.str m47,.int .i64 m48,sl aa m49,sl aa m50,sl aa m51] []] []) (aM 50 [(1,.eptr (aq t1)),(2,.bptr 0 0),(3,.bptr 3 0),(8,.str v),(10,.bool is),(20,sl cS t20),(21,.int .i64 t21),(22,.int .i64 t22)] [.cells [.bptr 1 0] [],.cells [.mapr 2] [],.map (bA PVal.bool m2),.cells [.func (.func 60) [] [.eptr (aq v2),.bptr 0 0,.bptr 3 0]] [],.cells [.str m,sl cS m3,.int .i64 m4,.str m5,.int .i64 m6,sl aj m7,sl aD m8,sl aN m9,sl ai m10,.int .i64 m11,.bool m12,sl cS m13,sl bv m14,sl bP m15,sl aS m16,.int .i64 m17,.str m18,sl ai m19,sl cS m20,.int .i64 m21,.str m22,.int .i64 m23,sl aa m24,sl aa m25,sl aa m26] [],.cells [.str m27,sl cS m28,.int .i64 m29,.str m30,.int .i64 m31,sl aj m32,sl aD m33,sl aN m34,sl ai m35,.int .i64 m36,.bool m37,sl cS m38,sl bv m39,sl bP m40,sl aS m41,.int .i64 m42,.str m43,sl ai m44,sl cS m45,.int .i64 m46,.str m47,.int .i64 m48,sl aa m49,sl aa m50,sl aa m51] []] []):=qaQ.j<|
 tf (λc7=>tg 2 c7<|ts<|ts<|tv (Hu (f:=PVal.bool) underlying84 underlying9 V7 m2 v)<|tE) λc7=>tg 2 c7<|tE
end
section
variable(R156:eI)(t1:aw)(t20:waA)(t21:Int)(v:aw)(m:ac)(m3:waA)(m4:Int)(m5:ac)(m6:Int)(m7:waE)(m8:waF)(m9:waD)(m10:waC)(m11:Int)(m12:Bool)(m13:waA)(m14:waH)(m15:waI)(m16:waG)(m17:Int)(m18:ac)(m19:waC)(m20:waA)(m21:Int)(m22:ac)(m23:Int)(m24:waB)(m25:waB)(m26:waB)(t22:Int)(m2:(List (ac×Bool)))
def dW:ay:=aM 50 [(1,.eptr (aq t1)),(2,.bptr 0 0),(3,.bptr 3 0),(20,sl cS t20),(21,.int .i64 t21),(22,.int .i64 t22)] [.cells [.bptr 1 0] [],.cells [.mapr 2] [],.map (bA PVal.bool m2),.cells [.func (.func 60) [] [.eptr (aq v),.bptr 0 0,.bptr 3 0]] [],.cells [.str m,sl cS m3,.int .i64 m4,.str m5,.int .i64 m6,sl aj m7,sl aD m8,sl aN m9,sl ai m10,.int .i64 m11,.bool m12,sl cS m13,sl bv m14,sl bP m15,sl aS m16,.int .i64 m17,.str m18,sl ai m19,sl cS m20,.int .i64 m21,.str m22,.int .i64 m23,sl aa m24,sl aa m25,sl aa m26] []] []
def fm(o:(List (ac×Bool))):ay:=aM 50 [] [.cells [.bptr 1 0] [],.cells [.mapr 2] [],.map (bA PVal.bool o),.cells [.func (.func 60) [] [.eptr (aq v),.bptr 0 0,.bptr 3 0]] [],.cells [.str m,sl cS m3,.int .i64 m4,.str m5,.int .i64 m6,sl aj m7,sl aD m8,sl aN m9,sl ai m10,.int .i64 m11,.bool m12,sl cS m13,sl bv m14,sl bP m15,sl aS m16,.int .i64 m17,.str m18,sl ai m19,sl cS m20,.int .i64 m21,.str m22,.int .i64 m23,sl aa m24,sl aa m25,sl aa m26] []] []
instance iS_syntax_Reach_1_Reach_1_L1:KS 4 (dW t1 t20 t21 v m m3 m4 m5 m6 m7 m8 m9 m10 m11 m12 m13 m14 m15 m16 m17 m18 m19 m20 m21 m22 m23 m24 m25 m26 t22 m2):=⟨rfl,(bk (aI (cT (bQ t1)) (aI (bH rfl) (aI (bH rfl) (aI (up (ak eU t20)) (aI vzz (aI vzz vzz))))))),(aI (aI (bH rfl) trivial) (aI (aI (bH rfl) trivial) (aI (Hh PVal.bool (λx=>trivial) m2) (aI (aI (aI vzz (aI (cT (bQ v)) (aI (bH rfl) (aI (bH rfl) trivial)))) trivial) (aI (aI vzz (aI (up (ak eU m3)) (aI vzz (aI vzz (aI vzz (aI (up (ak b7 m7)) (aI (up (ak dh m8)) (aI (up (ak dy m9)) (aI (up (ak bE m10)) (aI vzz (aI vzz (aI (up (ak eU m13)) (aI (up (ak ff m14)) (aI (up (ak jb m15)) (aI (up (ak eA m16)) (aI vzz (aI vzz (aI (up (ak bE m19)) (aI (up (ak eU m20)) (aI vzz (aI vzz (aI vzz (aI (up (ak aJ m24)) (aI (up (ak aJ m25)) (aI (up (ak aJ m26)) trivial))))))))))))))))))))))))) trivial)))))⟩
instance iO_syntax_Reach_1_Reach_1_L1{o:((List (ac×Bool)))}:KS 4 (fm v m m3 m4 m5 m6 m7 m8 m9 m10 m11 m12 m13 m14 m15 m16 m17 m18 m19 m20 m21 m22 m23 m24 m25 m26 o):=⟨rfl,(bk vzz),(aI (aI (bH rfl) trivial) (aI (aI (bH rfl) trivial) (aI (Hh PVal.bool (λx=>trivial) o) (aI (aI (aI vzz (aI (cT (bQ v)) (aI (bH rfl) (aI (bH rfl) trivial)))) trivial) (aI (aI vzz (aI (up (ak eU m3)) (aI vzz (aI vzz (aI vzz (aI (up (ak b7 m7)) (aI (up (ak dh m8)) (aI (up (ak dy m9)) (aI (up (ak bE m10)) (aI vzz (aI vzz (aI (up (ak eU m13)) (aI (up (ak ff m14)) (aI (up (ak jb m15)) (aI (up (ak eA m16)) (aI vzz (aI vzz (aI (up (ak bE m19)) (aI (up (ak eU m20)) (aI vzz (aI vzz (aI vzz (aI (up (ak aJ m24)) (aI (up (ak aJ m25)) (aI (up (ak aJ m26)) trivial))))))))))))))))))))))))) trivial)))))⟩
def jA:Option ((Int×(List (ac×Bool)))⊕(((List (ac×Bool))))):=
 if decide (t22<t21)=true then
  (dw t20 t22).bind λx5=>
  (ed t1 x5).bind λr6=>
  (ky x5 r6.2 m2).bind λo8=>
  if o8=true then
   (nK ([x5]:List ac) m2).bind λr10=>
   (R156 x5 v r10 v).bind λr11=>
   some (.inl (fh (t22+1),r11))
  else
   some (.inl (fh (t22+1),m2))
 else
  some (.inr m2)
def kz:Option (((List (ac×Bool)))):=loop (λ(zz:Int×(List (ac×Bool)))=>jA R156 t1 t20 t21 v zz.1 zz.2) (t22,m2)
theorem qh(hR156:gk R156):OL 4 (cA XZ 63) (jA R156 t1 t20 t21 v t22 m2) (λ(zz:Int×(List (ac×Bool)))=>dW t1 t20 t21 v m m3 m4 m5 m6 m7 m8 m9 m10 m11 m12 m13 m14 m15 m16 m17 m18 m19 m20 m21 m22 m23 m24 m25 m26 zz.1 zz.2) (λ_=>.exit 0) (fm v m m3 m4 m5 m6 m7 m8 m9 m10 m11 m12 m13 m14 m15 m16 m17 m18 m19 m20 m21 m22 m23 m24 m25 m26) (dW t1 t20 t21 v m m3 m4 m5 m6 m7 m8 m9 m10 m11 m12 m13 m14 m15 m16 m17 m18 m19 m20 m21 m22 m23 m24 m25 m26 t22 m2):=qaQ.lx<|
 tF (tb λx5 bx5=>tb λr6 br6=>tb λo8 bo8=>tv (cz.ia (k:=.i64) bx5)<|tv (cH Iw (.str x5) [])<|tv (bN t1)<|ck (dp _ br6)<|tx zt<|tx (dQ r6.1)<|gz 0<|cu (qM t1 x5 r6.2 t20 t21 t22 m2 v m m3 m4 m5 m6 m7 m8 m9 m10 m11 m12 m13 m14 m15 m16 m17 m18 m19 m20 m21 m22 m23 m24 m25 m26 r6.1.Name r6.1.Params r6.1.Body.Op r6.1.Body.Name r6.1.Body.N r6.1.Body.Kids r6.1.Body.Params r6.1.Body.Alts r6.1.Body.Types r6.1.Mode r6.1.Typed r6.1.Sig.Vars r6.1.Sig.Needs r6.1.Sig.Abs r6.1.Sig.Bounds r6.1.Sig.Type_.Op r6.1.Sig.Type_.Name r6.1.Sig.Type_.Args r6.1.Sig.Type_.Names r6.1.Sig.Type_.Pred.Op r6.1.Sig.Type_.Pred.Name r6.1.Sig.Type_.Pred.N r6.1.Sig.Type_.Pred.Kids r6.1.Sig.Type_.Preds r6.1.Sig.Metric _ bo8)<|tF (tb λr10 br10=>tb λr11 br11=>ts<|tv (bK [x5] 1 rfl)<|tc [1,2] (nL _ br10)<|ts<|tc [0,1,2,3] (hR156 _ _ _ _ _ br11)<|tE)<|tE)<|tE
theorem qN(hR156:gk R156):OJ 4 (.loop (cA XZ 63)) (kz R156 t1 t20 t21 v t22 m2) (.exit 0) (fm v m m3 m4 m5 m6 m7 m8 m9 m10 m11 m12 m13 m14 m15 m16 m17 m18 m19 m20 m21 m22 m23 m24 m25 m26) (dW t1 t20 t21 v m m3 m4 m5 m6 m7 m8 m9 m10 m11 m12 m13 m14 m15 m16 m17 m18 m19 m20 m21 m22 m23 m24 m25 m26 t22 m2):=sQ λ_=>qh _ _ _ _ _ _ _ _ _ _ _ _ _ _ _ _ _ _ _ _ _ _ _ _ _ _ _ _ _ _ _ _ hR156
end
def lC(R156:eI)(name:ac)(a:aw)(k2:(List (ac×Bool)))(c:aw):Option ((List (ac×Bool))):=
 (ed a name).bind λr1=>
 if(!r1.2)=true then
  some k2
 else
  (DV r1.1).bind λr3=>
  (kz R156 a r3 (r3.length:Int) c 0 k2).bind λo12=>
  some o12
theorem ub(R156:eI)(hR156:gk R156){name:ac}{a:aw}{k2:(List (ac×Bool))}{c:aw}:OG 60 [.str name,.eptr (aq a),.bptr 0 0,.bptr 3 0] [] [.cells [.bptr 1 0] [],.cells [.mapr 2] [],.map (bA PVal.bool k2),.cells [.func (.func 60) [] [.eptr (aq c),.bptr 0 0,.bptr 3 0]] []] (lC R156 name a k2 c) (λr=>.tuple []) [] (λr=>[.cells [.bptr 1 0] [],.cells [.mapr 2] [],.map (bA PVal.bool r),.cells [.func (.func 60) [] [.eptr (aq c),.bptr 0 0,.bptr 3 0]] []]):=qaQ.g 4<|
 tb λr1 br1=>tv (bN a)<|ck (dp _ br1)<|tx zt<|tx (dQ r1.1)<|tF tE<|tb λr3 br3=>tb λo12 bo12=>tv (mY r1.1 [])<|ck (HX br3)<|cb (cz.ln r3)<|cu (qN R156 a r3 (r3.length:Int) c r1.1.Name r1.1.Params r1.1.Body.Op r1.1.Body.Name r1.1.Body.N r1.1.Body.Kids r1.1.Body.Params r1.1.Body.Alts r1.1.Body.Types r1.1.Mode r1.1.Typed r1.1.Sig.Vars r1.1.Sig.Needs r1.1.Sig.Abs r1.1.Sig.Bounds r1.1.Sig.Type_.Op r1.1.Sig.Type_.Name r1.1.Sig.Type_.Args r1.1.Sig.Type_.Names r1.1.Sig.Type_.Pred.Op r1.1.Sig.Type_.Pred.Name r1.1.Sig.Type_.Pred.N r1.1.Sig.Type_.Pred.Kids r1.1.Sig.Type_.Preds r1.1.Sig.Metric 0 k2 hR156 _ bo12)<|tE
def lD:((ac×aw×(List (ac×Bool))×aw)->Option ((List (ac×Bool))))->(ac×aw×(List (ac×Bool))×aw)->Option ((List (ac×Bool))):=λ(rec:(ac×aw×(List (ac×Bool))×aw)->Option ((List (ac×Bool)))) (x:ac×aw×(List (ac×Bool))×aw)=>lC (λname a k2 c=>rec (name,a,k2,c)) x.1 x.2.1 x.2.2.1 x.2.2.2
def nA(name:ac)(a:aw)(k2:(List (ac×Bool)))(c:aw):Option ((List (ac×Bool))):=Bq lD (name,a,k2,c)
theorem uL{name:ac}{a:aw}{k2:(List (ac×Bool))}{c:aw}:OG 60 [.str name,.eptr (aq a),.bptr 0 0,.bptr 3 0] [] [.cells [.bptr 1 0] [],.cells [.mapr 2] [],.map (bA PVal.bool k2),.cells [.func (.func 60) [] [.eptr (aq c),.bptr 0 0,.bptr 3 0]] []] (nA name a k2 c) (λr=>.tuple []) [] (λr=>[.cells [.bptr 1 0] [],.cells [.mapr 2] [],.map (bA PVal.bool r),.cells [.func (.func 60) [] [.eptr (aq c),.bptr 0 0,.bptr 3 0]] []]):=N4 λ_ h=>
 fg (F:=lD) (M:=λ(x:ac×aw×(List (ac×Bool))×aw) (r:(List (ac×Bool)))=>C Pg GE 60 [.str x.1,.eptr (aq x.2.1),.bptr 0 0,.bptr 3 0] [] [.cells [.bptr 1 0] [],.cells [.mapr 2] [],.map (bA PVal.bool x.2.2.1),.cells [.func (.func 60) [] [.eptr (aq x.2.2.2),.bptr 0 0,.bptr 3 0]] []] (.tuple []) [] [.cells [.bptr 1 0] [],.cells [.mapr 2] [],.map (bA PVal.bool r),.cells [.func (.func 60) [] [.eptr (aq x.2.2.2),.bptr 0 0,.bptr 3 0]] []]) (λrec hrec x r h=>ub _ (λname a k2 c=>N4 λr h=>hrec (name,a,k2,c) r h) _ h) h
noncomputable def qex:Code:=f40.body.getD .skip
def qdQ:List Nat:=[]
theorem qeh:ZF Pg qdQ 40 f40 qex:=zf call40 func40 rfl mixed
def GO(m:aw)(name:ac):Option waA:=
 (xe ([]:List ac)).bind λr1=>
 (nA name m r1 m).bind λr2=>
 (pp r2).bind λr3=>
 some r3
theorem I8{m:aw}{name:ac}:OV 40 [.agg (aq m),.str name] (GO m name) (λr=>sl cS r) [(0,9)]:=qeh.v<|
 tb λr1 br1=>tb λr2 br2=>tb λr3 br3=>te (dM m)<|ti (.cn ⟨[2,3],[],[],[],[],[.map (bA PVal.bool r1),.cells [.mapr 2] []],[.map (bA PVal.bool r1),.cells [.mapr 0] []],.bptr 3 0,.bptr 1 0,[]⟩) (yj _ br1)<|tq (aI (ak eU ([]:List ac)) trivial)<|tq (aI (aI (rM (bA PVal.bool r1)) (Hh (n:=0) PVal.bool (λx=>trivial) r1)) (aI (aI (rW []) (aI (xM [2,3] 0 2 rfl) trivial)) trivial))<|tq (xB [2,3] 1 3 0 rfl)<|tx XE<|ts<|tx qcv<|ts<|ts<|tc [1,3,2,4] (uL _ br2)<|ts<|tc [3,2] (DO br3)<|tE
noncomputable def qbb:Code:=f16.body.getD .skip
def qdG:List Nat:=[27,32]
theorem qcR:ZF Pg qdG 16 f16 qbb:=zf call16 func16 rfl mixed
section
variable(m:aw)(t12:waA)(t13:Int)(out:waA)(t14:Int)
def gG:ay:=aM 33 [(2,.eptr (aq m)),(5,sl cS out),(12,sl cS t12),(13,.int .i64 t13),(14,.int .i64 t14)] [.dead] [((12,0),9),((5,0),9)]
def kJ(o:waA):ay:=aM 33 [(5,sl cS o)] [.dead] [((5,0),9)]
instance iS_depend_Assumes_L1:KS 0 (gG m t12 t13 out t14):=⟨rfl,(bk (aI (cT (bQ m)) (aI (up (ak eU out)) (aI (up (ak eU t12)) (aI vzz (aI vzz vzz)))))),(aI vzz vzz)⟩
instance iO_depend_Assumes_L1{o:waA}:KS 0 (kJ o):=⟨rfl,(bk (aI (up (ak eU o)) trivial)),(aI vzz vzz)⟩
def qT:Option ((waA×Int)⊕(waA)):=
 if decide (t14<t13)=true then
  (dw t12 t14).bind λx3=>
  (ed m x3).bind λr4=>
  if(r4.1.Mode==1)=true then
   (app out ([x3]:List ac)).bind λl6=>
   some (.inl (l6,fh (t14+1)))
  else
   some (.inl (out,fh (t14+1)))
 else
  some (.inr out)
def uR:Option waA:=loop (λ(zz:waA×Int)=>qT m t12 t13 zz.1 zz.2) (out,t14)
theorem AE:OL 0 (cA qbb 119) (qT m t12 t13 out t14) (λ(zz:waA×Int)=>gG m t12 t13 zz.1 zz.2) (λ_=>.exit 0) kJ (gG m t12 t13 out t14):=qcR.lx<|
 tF (tb λx3 bx3=>tb λr4 br4=>tv (cz.ia (k:=.i64) bx3)<|tv (cH Iw (.str x3) [])<|tv (bN m)<|ck (dp _ br4)<|tx zt<|tx (dQ r4.1)<|ts<|tF (tb λl6 bl6=>tv (bK [x3] 1 rfl)<|tv (cz.ap bl6)<|tE)<|tE)<|tE
theorem Bg:OJ 0 (.loop (cA qbb 119)) (uR m t12 t13 out t14) (.exit 0) kJ (gG m t12 t13 out t14):=sQ λ_=>AE _ _ _ _ _
end
def sX(m:aw)(name:ac):Option waA:=
 (GO m name).bind λr1=>
 (uR m r1 (r1.length:Int) ([]:List ac) 0).bind λo7=>
 some o7
theorem uS{m:aw}{name:ac}:OV 16 [.agg (aq m),.str name] (sX m name) (λr=>sl cS r) [(0,9)]:=qcR.v<|
 tb λr1 br1=>tb λo7 bo7=>te (dM m)<|tv (bN m)<|ck (I8 _ br1)<|cb (cz.ln r1)<|cu (Bg m r1 (r1.length:Int) ([]:List ac) 0 _ bo7)<|tE
noncomputable def OP:Code:=f42.body.getD .skip
def qdR:List Nat:=[44,61,78]
theorem T3:ZF Pg qdR 42 f42 OP:=zf call42 func42 rfl mixed
section
variable(name:ac)(m:aw)(t41:Int)(m3:ac)(m4:waA)(m5:Int)(m6:ac)(m7:Int)(m8:waE)(m9:waF)(m10:waD)(m11:waC)(m12:Int)(m13:Bool)(m14:waA)(m15:waH)(m16:waI)(m17:waG)(m18:Int)(m19:ac)(m20:waC)(m21:waA)(m22:Int)(m23:ac)(m24:Int)(m25:waB)(m26:waB)(m27:waB)(t42:Int)(m2:(List Int))
def mJ:ay:=aM 150 [(1,.str name),(2,.eptr (aq m)),(5,.bptr 1 0),(6,.func (.func 66) [] [.bptr 1 0]),(41,.int .i64 t41),(42,.int .i64 t42)] [.dead,.cells [.nptr 1 106,sl (cI .u8) m2] [(1,5)],.cells [.str m3,sl cS m4,.int .i64 m5,.str m6,.int .i64 m7,sl aj m8,sl aD m9,sl aN m10,sl ai m11,.int .i64 m12,.bool m13,sl cS m14,sl bv m15,sl bP m16,sl aS m17,.int .i64 m18,.str m19,sl ai m20,sl cS m21,.int .i64 m22,.str m23,.int .i64 m24,sl aa m25,sl aa m26,sl aa m27] []] []
def uY(o:(List Int)):ay:=aM 150 [(1,.str name),(2,.eptr (aq m)),(5,.bptr 1 0),(6,.func (.func 66) [] [.bptr 1 0])] [.dead,.cells [.nptr 1 106,sl (cI .u8) o] [(1,5)],.cells [.str m3,sl cS m4,.int .i64 m5,.str m6,.int .i64 m7,sl aj m8,sl aD m9,sl aN m10,sl ai m11,.int .i64 m12,.bool m13,sl cS m14,sl bv m15,sl bP m16,sl aS m17,.int .i64 m18,.str m19,sl ai m20,sl cS m21,.int .i64 m22,.str m23,.int .i64 m24,sl aa m25,sl aa m26,sl aa m27] []] []
def uX:Option ((Int×(List Int))⊕(((List Int)))):=
 if decide (t42<t41)=true then
  (RF m.Datas (some t42) (some (fh (t42+1)))).bind λl7=>
  (lN (⟨l7,([]:List dO),([]:List bR),([]:List cf),([]:List e8),([]:List bD)⟩:aw)).bind λr8=>
  (d8 r8 m2).bind λr9=>
  some (.inl (fh (t42+1),r9))
 else
  some (.inr m2)
def zG:Option (((List Int))):=loop (λ(zz:Int×(List Int))=>uX m t41 zz.1 zz.2) (t42,m2)
theorem CR:OL 0 (cA OP 503) (uX m t41 t42 m2) (λ(zz:Int×(List Int))=>mJ name m t41 m3 m4 m5 m6 m7 m8 m9 m10 m11 m12 m13 m14 m15 m16 m17 m18 m19 m20 m21 m22 m23 m24 m25 m26 m27 zz.1 zz.2) (λ_=>.exit 0) (uY name m m3 m4 m5 m6 m7 m8 m9 m10 m11 m12 m13 m14 m15 m16 m17 m18 m19 m20 m21 m22 m23 m24 m25 m26 m27) (mJ name m t41 m3 m4 m5 m6 m7 m8 m9 m10 m11 m12 m13 m14 m15 m16 m17 m18 m19 m20 m21 m22 m23 m24 m25 m26 m27 t42 m2):=T3.l<|
 tF (tb λl7 bl7=>tb λr8 br8=>tb λr9 br9=>tw (pP m)<|tv (XI.sc bl7)<|Mf (Mw l7) (Ms l7)<|ck (lW _ br8)<|tc [1] (dz _ br9)<|tE)<|tE
theorem Ed:OJ 0 (.loop (cA OP 503)) (zG m t41 t42 m2) (.exit 0) (uY name m m3 m4 m5 m6 m7 m8 m9 m10 m11 m12 m13 m14 m15 m16 m17 m18 m19 m20 m21 m22 m23 m24 m25 m26 m27) (mJ name m t41 m3 m4 m5 m6 m7 m8 m9 m10 m11 m12 m13 m14 m15 m16 m17 m18 m19 m20 m21 m22 m23 m24 m25 m26 m27 t42 m2):=sQ λ_=>CR _ _ _ _ _ _ _ _ _ _ _ _ _ _ _ _ _ _ _ _ _ _ _ _ _ _ _ _ _ _
end
section
variable(name:ac)(m:aw)(t58:Int)(m3:ac)(m4:waA)(m5:Int)(m6:ac)(m7:Int)(m8:waE)(m9:waF)(m10:waD)(m11:waC)(m12:Int)(m13:Bool)(m14:waA)(m15:waH)(m16:waI)(m17:waG)(m18:Int)(m19:ac)(m20:waC)(m21:waA)(m22:Int)(m23:ac)(m24:Int)(m25:waB)(m26:waB)(m27:waB)(t59:Int)(m2:(List Int))
def mK:ay:=aM 150 [(1,.str name),(2,.eptr (aq m)),(5,.bptr 1 0),(6,.func (.func 66) [] [.bptr 1 0]),(58,.int .i64 t58),(59,.int .i64 t59)] [.dead,.cells [.nptr 1 106,sl (cI .u8) m2] [(1,5)],.cells [.str m3,sl cS m4,.int .i64 m5,.str m6,.int .i64 m7,sl aj m8,sl aD m9,sl aN m10,sl ai m11,.int .i64 m12,.bool m13,sl cS m14,sl bv m15,sl bP m16,sl aS m17,.int .i64 m18,.str m19,sl ai m20,sl cS m21,.int .i64 m22,.str m23,.int .i64 m24,sl aa m25,sl aa m26,sl aa m27] []] []
def u6(o:(List Int)):ay:=aM 150 [(1,.str name),(2,.eptr (aq m)),(5,.bptr 1 0),(6,.func (.func 66) [] [.bptr 1 0])] [.dead,.cells [.nptr 1 106,sl (cI .u8) o] [(1,5)],.cells [.str m3,sl cS m4,.int .i64 m5,.str m6,.int .i64 m7,sl aj m8,sl aD m9,sl aN m10,sl ai m11,.int .i64 m12,.bool m13,sl cS m14,sl bv m15,sl bP m16,sl aS m17,.int .i64 m18,.str m19,sl ai m20,sl cS m21,.int .i64 m22,.str m23,.int .i64 m24,sl aa m25,sl aa m26,sl aa m27] []] []
def uZ:Option ((Int×(List Int))⊕(((List Int)))):=
 if decide (t59<t58)=true then
  (RF m.Measures (some t59) (some (fh (t59+1)))).bind λl12=>
  (lN (⟨([]:List eZ),([]:List dO),([]:List bR),l12,([]:List e8),([]:List bD)⟩:aw)).bind λr13=>
  (d8 r13 m2).bind λr14=>
  some (.inl (fh (t59+1),r14))
 else
  some (.inr m2)
def zH:Option (((List Int))):=loop (λ(zz:Int×(List Int))=>uZ m t58 zz.1 zz.2) (t59,m2)
theorem CS:OL 0 (cA OP 1015) (uZ m t58 t59 m2) (λ(zz:Int×(List Int))=>mK name m t58 m3 m4 m5 m6 m7 m8 m9 m10 m11 m12 m13 m14 m15 m16 m17 m18 m19 m20 m21 m22 m23 m24 m25 m26 m27 zz.1 zz.2) (λ_=>.exit 2) (u6 name m m3 m4 m5 m6 m7 m8 m9 m10 m11 m12 m13 m14 m15 m16 m17 m18 m19 m20 m21 m22 m23 m24 m25 m26 m27) (mK name m t58 m3 m4 m5 m6 m7 m8 m9 m10 m11 m12 m13 m14 m15 m16 m17 m18 m19 m20 m21 m22 m23 m24 m25 m26 m27 t59 m2):=T3.l<|
 tF (tb λl12 bl12=>tb λr13 br13=>tb λr14 br14=>tw (pQ m)<|tv (XJ.sc bl12)<|Mf (Mx l12) (Mt l12)<|ck (lW _ br13)<|tc [1] (dz _ br14)<|tE)<|tE
theorem Ee:OJ 0 (.loop (cA OP 1015)) (zH m t58 t59 m2) (.exit 2) (u6 name m m3 m4 m5 m6 m7 m8 m9 m10 m11 m12 m13 m14 m15 m16 m17 m18 m19 m20 m21 m22 m23 m24 m25 m26 m27) (mK name m t58 m3 m4 m5 m6 m7 m8 m9 m10 m11 m12 m13 m14 m15 m16 m17 m18 m19 m20 m21 m22 m23 m24 m25 m26 m27 t59 m2):=sQ λ_=>CS _ _ _ _ _ _ _ _ _ _ _ _ _ _ _ _ _ _ _ _ _ _ _ _ _ _ _ _ _ _
end
section
variable(name:ac)(m:aw)(t75:Int)(m3:ac)(m4:waA)(m5:Int)(m6:ac)(m7:Int)(m8:waE)(m9:waF)(m10:waD)(m11:waC)(m12:Int)(m13:Bool)(m14:waA)(m15:waH)(m16:waI)(m17:waG)(m18:Int)(m19:ac)(m20:waC)(m21:waA)(m22:Int)(m23:ac)(m24:Int)(m25:waB)(m26:waB)(m27:waB)(t76:Int)(m2:(List Int))
def mL:ay:=aM 150 [(1,.str name),(2,.eptr (aq m)),(5,.bptr 1 0),(6,.func (.func 66) [] [.bptr 1 0]),(75,.int .i64 t75),(76,.int .i64 t76)] [.dead,.cells [.nptr 1 106,sl (cI .u8) m2] [(1,5)],.cells [.str m3,sl cS m4,.int .i64 m5,.str m6,.int .i64 m7,sl aj m8,sl aD m9,sl aN m10,sl ai m11,.int .i64 m12,.bool m13,sl cS m14,sl bv m15,sl bP m16,sl aS m17,.int .i64 m18,.str m19,sl ai m20,sl cS m21,.int .i64 m22,.str m23,.int .i64 m24,sl aa m25,sl aa m26,sl aa m27] []] []
def vd(o:(List Int)):ay:=aM 150 [(1,.str name),(2,.eptr (aq m)),(5,.bptr 1 0),(6,.func (.func 66) [] [.bptr 1 0])] [.dead,.cells [.nptr 1 106,sl (cI .u8) o] [(1,5)],.cells [.str m3,sl cS m4,.int .i64 m5,.str m6,.int .i64 m7,sl aj m8,sl aD m9,sl aN m10,sl ai m11,.int .i64 m12,.bool m13,sl cS m14,sl bv m15,sl bP m16,sl aS m17,.int .i64 m18,.str m19,sl ai m20,sl cS m21,.int .i64 m22,.str m23,.int .i64 m24,sl aa m25,sl aa m26,sl aa m27] []] []
def u7:Option ((Int×(List Int))⊕(((List Int)))):=
 if decide (t76<t75)=true then
  (RF m.Quals (some t76) (some (fh (t76+1)))).bind λl17=>
  (lN (⟨([]:List eZ),([]:List dO),([]:List bR),([]:List cf),l17,([]:List bD)⟩:aw)).bind λr18=>
  (d8 r18 m2).bind λr19=>
  some (.inl (fh (t76+1),r19))
 else
  some (.inr m2)
def zI:Option (((List Int))):=loop (λ(zz:Int×(List Int))=>u7 m t75 zz.1 zz.2) (t76,m2)
theorem CT:OL 0 (cA OP 2039) (u7 m t75 t76 m2) (λ(zz:Int×(List Int))=>mL name m t75 m3 m4 m5 m6 m7 m8 m9 m10 m11 m12 m13 m14 m15 m16 m17 m18 m19 m20 m21 m22 m23 m24 m25 m26 m27 zz.1 zz.2) (λ_=>.exit 4) (vd name m m3 m4 m5 m6 m7 m8 m9 m10 m11 m12 m13 m14 m15 m16 m17 m18 m19 m20 m21 m22 m23 m24 m25 m26 m27) (mL name m t75 m3 m4 m5 m6 m7 m8 m9 m10 m11 m12 m13 m14 m15 m16 m17 m18 m19 m20 m21 m22 m23 m24 m25 m26 m27 t76 m2):=T3.l<|
 tF (tb λl17 bl17=>tb λr18 br18=>tb λr19 br19=>tw (pR m)<|tv (XK.sc bl17)<|Mf (My l17) (Mu l17)<|ck (lW _ br18)<|tc [1] (dz _ br19)<|tE)<|tE
theorem Ef:OJ 0 (.loop (cA OP 2039)) (zI m t75 t76 m2) (.exit 4) (vd name m m3 m4 m5 m6 m7 m8 m9 m10 m11 m12 m13 m14 m15 m16 m17 m18 m19 m20 m21 m22 m23 m24 m25 m26 m27) (mL name m t75 m3 m4 m5 m6 m7 m8 m9 m10 m11 m12 m13 m14 m15 m16 m17 m18 m19 m20 m21 m22 m23 m24 m25 m26 m27 t76 m2):=sQ λ_=>CT _ _ _ _ _ _ _ _ _ _ _ _ _ _ _ _ _ _ _ _ _ _ _ _ _ _ _ _ _ _
end
section
variable(name:ac)(m:aw)(t91:waJ)(t92:Int)(m3:ac)(m4:waA)(m5:Int)(m6:ac)(m7:Int)(m8:waE)(m9:waF)(m10:waD)(m11:waC)(m12:Int)(m13:Bool)(m14:waA)(m15:waH)(m16:waI)(m17:waG)(m18:Int)(m19:ac)(m20:waC)(m21:waA)(m22:Int)(m23:ac)(m24:Int)(m25:waB)(m26:waB)(m27:waB)(t93:Int)(m2:(List Int))
def jc:ay:=aM 150 [(1,.str name),(2,.eptr (aq m)),(5,.bptr 1 0),(6,.func (.func 66) [] [.bptr 1 0]),(91,sl aQ t91),(92,.int .i64 t92),(93,.int .i64 t93)] [.dead,.cells [.nptr 1 106,sl (cI .u8) m2] [(1,5)],.cells [.str m3,sl cS m4,.int .i64 m5,.str m6,.int .i64 m7,sl aj m8,sl aD m9,sl aN m10,sl ai m11,.int .i64 m12,.bool m13,sl cS m14,sl bv m15,sl bP m16,sl aS m17,.int .i64 m18,.str m19,sl ai m20,sl cS m21,.int .i64 m22,.str m23,.int .i64 m24,sl aa m25,sl aa m26,sl aa m27] []] [((91,0),65)]
def mM(o:(List Int)):ay:=aM 150 [(1,.str name),(2,.eptr (aq m)),(5,.bptr 1 0),(6,.func (.func 66) [] [.bptr 1 0])] [.dead,.cells [.nptr 1 106,sl (cI .u8) o] [(1,5)],.cells [.str m3,sl cS m4,.int .i64 m5,.str m6,.int .i64 m7,sl aj m8,sl aD m9,sl aN m10,sl ai m11,.int .i64 m12,.bool m13,sl cS m14,sl bv m15,sl bP m16,sl aS m17,.int .i64 m18,.str m19,sl ai m20,sl cS m21,.int .i64 m22,.str m23,.int .i64 m24,sl aa m25,sl aa m26,sl aa m27] []] []
instance iS_depend_basis_L4:KS 0 (jc name m t91 t92 m3 m4 m5 m6 m7 m8 m9 m10 m11 m12 m13 m14 m15 m16 m17 m18 m19 m20 m21 m22 m23 m24 m25 m26 m27 t93 m2):=⟨rfl,(bk (aI vzz (aI (cT (bQ m)) (aI (bH rfl) (aI (aI vzz (aI (bH rfl) trivial)) (aI (up (ak fZ t91)) (aI vzz (aI vzz vzz)))))))),(aI vzz (aI (aI (bH rfl) (aI (up (ak (RD .u8) m2)) trivial)) (aI (aI vzz (aI (up (ak eU m4)) (aI vzz (aI vzz (aI vzz (aI (up (ak b7 m8)) (aI (up (ak dh m9)) (aI (up (ak dy m10)) (aI (up (ak bE m11)) (aI vzz (aI vzz (aI (up (ak eU m14)) (aI (up (ak ff m15)) (aI (up (ak jb m16)) (aI (up (ak eA m17)) (aI vzz (aI vzz (aI (up (ak bE m20)) (aI (up (ak eU m21)) (aI vzz (aI vzz (aI vzz (aI (up (ak aJ m25)) (aI (up (ak aJ m26)) (aI (up (ak aJ m27)) trivial))))))))))))))))))))))))) trivial)))⟩
instance iO_depend_basis_L4{o:((List Int))}:KS 0 (mM name m m3 m4 m5 m6 m7 m8 m9 m10 m11 m12 m13 m14 m15 m16 m17 m18 m19 m20 m21 m22 m23 m24 m25 m26 m27 o):=⟨rfl,(bk (aI vzz (aI (cT (bQ m)) (aI (bH rfl) (aI (aI vzz (aI (bH rfl) trivial)) trivial))))),(aI vzz (aI (aI (bH rfl) (aI (up (ak (RD .u8) o)) trivial)) (aI (aI vzz (aI (up (ak eU m4)) (aI vzz (aI vzz (aI vzz (aI (up (ak b7 m8)) (aI (up (ak dh m9)) (aI (up (ak dy m10)) (aI (up (ak bE m11)) (aI vzz (aI vzz (aI (up (ak eU m14)) (aI (up (ak ff m15)) (aI (up (ak jb m16)) (aI (up (ak eA m17)) (aI vzz (aI vzz (aI (up (ak bE m20)) (aI (up (ak eU m21)) (aI vzz (aI vzz (aI vzz (aI (up (ak aJ m25)) (aI (up (ak aJ m26)) (aI (up (ak aJ m27)) trivial))))))))))))))))))))))))) trivial)))⟩
def vg:Option ((Int×(List Int))⊕(((List Int)))):=
 if decide (t93<t92)=true then
  (dw t91 t93).bind λx23=>
  (pN x23).bind λr24=>
  (d8 r24 m2).bind λr25=>
  some (.inl (fh (t93+1),r25))
 else
  some (.inr m2)
def zJ:Option (((List Int))):=loop (λ(zz:Int×(List Int))=>vg t91 t92 zz.1 zz.2) (t93,m2)
theorem CU:OL 0 (cA OP 4087) (vg t91 t92 t93 m2) (λ(zz:Int×(List Int))=>jc name m t91 t92 m3 m4 m5 m6 m7 m8 m9 m10 m11 m12 m13 m14 m15 m16 m17 m18 m19 m20 m21 m22 m23 m24 m25 m26 m27 zz.1 zz.2) (λ_=>.exit 6) (mM name m m3 m4 m5 m6 m7 m8 m9 m10 m11 m12 m13 m14 m15 m16 m17 m18 m19 m20 m21 m22 m23 m24 m25 m26 m27) (jc name m t91 t92 m3 m4 m5 m6 m7 m8 m9 m10 m11 m12 m13 m14 m15 m16 m17 m18 m19 m20 m21 m22 m23 m24 m25 m26 m27 t93 m2):=T3.lx<|
 tF (tb λx23 bx23=>tb λr24 br24=>tb λr25 br25=>tv (AV.ia (k:=.i64) bx23)<|tv (vS x23)<|tx zt<|tx (dQ x23)<|tv (mY x23 [])<|ck (mS _ br24)<|tc [1] (dz _ br25)<|tE)<|tE
theorem Eg:OJ 0 (.loop (cA OP 4087)) (zJ t91 t92 t93 m2) (.exit 6) (mM name m m3 m4 m5 m6 m7 m8 m9 m10 m11 m12 m13 m14 m15 m16 m17 m18 m19 m20 m21 m22 m23 m24 m25 m26 m27) (jc name m t91 t92 m3 m4 m5 m6 m7 m8 m9 m10 m11 m12 m13 m14 m15 m16 m17 m18 m19 m20 m21 m22 m23 m24 m25 m26 m27 t93 m2):=sQ λ_=>CU _ _ _ _ _ _ _ _ _ _ _ _ _ _ _ _ _ _ _ _ _ _ _ _ _ _ _ _ _ _ _
end
section
variable(name:ac)(m:aw)(outer:waA)(t108:waA)(t109:Int)(m3:ac)(m4:waA)(m5:Int)(m6:ac)(m7:Int)(m8:waE)(m9:waF)(m10:waD)(m11:waC)(m12:Int)(m13:Bool)(m14:waA)(m15:waH)(m16:waI)(m17:waG)(m18:Int)(m19:ac)(m20:waC)(m21:waA)(m22:Int)(m23:ac)(m24:Int)(m25:waB)(m26:waB)(m27:waB)(t110:Int)(m2:(List Int))
def jd:ay:=aM 150 [(1,.str name),(2,.eptr (aq m)),(5,.bptr 1 0),(6,.func (.func 66) [] [.bptr 1 0]),(15,sl cS outer),(108,sl cS t108),(109,.int .i64 t109),(110,.int .i64 t110)] [.dead,.cells [.nptr 1 106,sl (cI .u8) m2] [(1,5)],.cells [.str m3,sl cS m4,.int .i64 m5,.str m6,.int .i64 m7,sl aj m8,sl aD m9,sl aN m10,sl ai m11,.int .i64 m12,.bool m13,sl cS m14,sl bv m15,sl bP m16,sl aS m17,.int .i64 m18,.str m19,sl ai m20,sl cS m21,.int .i64 m22,.str m23,.int .i64 m24,sl aa m25,sl aa m26,sl aa m27] []] []
def mN(o:(List Int)):ay:=aM 150 [(1,.str name),(2,.eptr (aq m)),(5,.bptr 1 0),(6,.func (.func 66) [] [.bptr 1 0]),(15,sl cS outer)] [.dead,.cells [.nptr 1 106,sl (cI .u8) o] [(1,5)],.cells [.str m3,sl cS m4,.int .i64 m5,.str m6,.int .i64 m7,sl aj m8,sl aD m9,sl aN m10,sl ai m11,.int .i64 m12,.bool m13,sl cS m14,sl bv m15,sl bP m16,sl aS m17,.int .i64 m18,.str m19,sl ai m20,sl cS m21,.int .i64 m22,.str m23,.int .i64 m24,sl aa m25,sl aa m26,sl aa m27] []] []
instance iS_depend_basis_L5:KS 0 (jd name m outer t108 t109 m3 m4 m5 m6 m7 m8 m9 m10 m11 m12 m13 m14 m15 m16 m17 m18 m19 m20 m21 m22 m23 m24 m25 m26 m27 t110 m2):=⟨rfl,(bk (aI vzz (aI (cT (bQ m)) (aI (bH rfl) (aI (aI vzz (aI (bH rfl) trivial)) (aI (up (ak eU outer)) (aI (up (ak eU t108)) (aI vzz (aI vzz vzz))))))))),(aI vzz (aI (aI (bH rfl) (aI (up (ak (RD .u8) m2)) trivial)) (aI (aI vzz (aI (up (ak eU m4)) (aI vzz (aI vzz (aI vzz (aI (up (ak b7 m8)) (aI (up (ak dh m9)) (aI (up (ak dy m10)) (aI (up (ak bE m11)) (aI vzz (aI vzz (aI (up (ak eU m14)) (aI (up (ak ff m15)) (aI (up (ak jb m16)) (aI (up (ak eA m17)) (aI vzz (aI vzz (aI (up (ak bE m20)) (aI (up (ak eU m21)) (aI vzz (aI vzz (aI vzz (aI (up (ak aJ m25)) (aI (up (ak aJ m26)) (aI (up (ak aJ m27)) trivial))))))))))))))))))))))))) trivial)))⟩
instance iO_depend_basis_L5{o:((List Int))}:KS 0 (mN name m outer m3 m4 m5 m6 m7 m8 m9 m10 m11 m12 m13 m14 m15 m16 m17 m18 m19 m20 m21 m22 m23 m24 m25 m26 m27 o):=⟨rfl,(bk (aI vzz (aI (cT (bQ m)) (aI (bH rfl) (aI (aI vzz (aI (bH rfl) trivial)) (aI (up (ak eU outer)) trivial)))))),(aI vzz (aI (aI (bH rfl) (aI (up (ak (RD .u8) o)) trivial)) (aI (aI vzz (aI (up (ak eU m4)) (aI vzz (aI vzz (aI vzz (aI (up (ak b7 m8)) (aI (up (ak dh m9)) (aI (up (ak dy m10)) (aI (up (ak bE m11)) (aI vzz (aI vzz (aI (up (ak eU m14)) (aI (up (ak ff m15)) (aI (up (ak jb m16)) (aI (up (ak eA m17)) (aI vzz (aI vzz (aI (up (ak bE m20)) (aI (up (ak eU m21)) (aI vzz (aI vzz (aI vzz (aI (up (ak aJ m25)) (aI (up (ak aJ m26)) (aI (up (ak aJ m27)) trivial))))))))))))))))))))))))) trivial)))⟩
def vj:Option ((Int×(List Int))⊕(((List Int)))):=
 if decide (t110<t109)=true then
  (dw t108 t110).bind λx29=>
  (ed m x29).bind λr30=>
  (pN r30.1).bind λr31=>
  (d8 r31 m2).bind λr32=>
  some (.inl (fh (t110+1),r32))
 else
  some (.inr m2)
def zK:Option (((List Int))):=loop (λ(zz:Int×(List Int))=>vj m t108 t109 zz.1 zz.2) (t110,m2)
theorem CV:OL 0 (cA OP 16375) (vj m t108 t109 t110 m2) (λ(zz:Int×(List Int))=>jd name m outer t108 t109 m3 m4 m5 m6 m7 m8 m9 m10 m11 m12 m13 m14 m15 m16 m17 m18 m19 m20 m21 m22 m23 m24 m25 m26 m27 zz.1 zz.2) (λ_=>.exit 8) (mN name m outer m3 m4 m5 m6 m7 m8 m9 m10 m11 m12 m13 m14 m15 m16 m17 m18 m19 m20 m21 m22 m23 m24 m25 m26 m27) (jd name m outer t108 t109 m3 m4 m5 m6 m7 m8 m9 m10 m11 m12 m13 m14 m15 m16 m17 m18 m19 m20 m21 m22 m23 m24 m25 m26 m27 t110 m2):=T3.lx<|
 tF (tb λx29 bx29=>tb λr30 br30=>tb λr31 br31=>tb λr32 br32=>tv (cz.ia (k:=.i64) bx29)<|tv (cH Iw (.str x29) [])<|tv (bN m)<|ck (dp _ br30)<|tx zt<|tx (dQ r30.1)<|tv (mY r30.1 [])<|ck (mS _ br31)<|tc [1] (dz _ br32)<|tE)<|tE
theorem Eh:OJ 0 (.loop (cA OP 16375)) (zK m t108 t109 t110 m2) (.exit 8) (mN name m outer m3 m4 m5 m6 m7 m8 m9 m10 m11 m12 m13 m14 m15 m16 m17 m18 m19 m20 m21 m22 m23 m24 m25 m26 m27) (jd name m outer t108 t109 m3 m4 m5 m6 m7 m8 m9 m10 m11 m12 m13 m14 m15 m16 m17 m18 m19 m20 m21 m22 m23 m24 m25 m26 m27 t110 m2):=sQ λ_=>CV _ _ _ _ _ _ _ _ _ _ _ _ _ _ _ _ _ _ _ _ _ _ _ _ _ _ _ _ _ _ _ _
end
section
variable(name:ac)(m:aw)(t125:waA)(t126:Int)(m3:ac)(m4:waA)(m5:Int)(m6:ac)(m7:Int)(m8:waE)(m9:waF)(m10:waD)(m11:waC)(m12:Int)(m13:Bool)(m14:waA)(m15:waH)(m16:waI)(m17:waG)(m18:Int)(m19:ac)(m20:waC)(m21:waA)(m22:Int)(m23:ac)(m24:Int)(m25:waB)(m26:waB)(m27:waB)(t127:Int)(m2:(List Int))
def mO:ay:=aM 150 [(1,.str name),(2,.eptr (aq m)),(5,.bptr 1 0),(6,.func (.func 66) [] [.bptr 1 0]),(125,sl cS t125),(126,.int .i64 t126),(127,.int .i64 t127)] [.dead,.cells [.nptr 1 106,sl (cI .u8) m2] [(1,5)],.cells [.str m3,sl cS m4,.int .i64 m5,.str m6,.int .i64 m7,sl aj m8,sl aD m9,sl aN m10,sl ai m11,.int .i64 m12,.bool m13,sl cS m14,sl bv m15,sl bP m16,sl aS m17,.int .i64 m18,.str m19,sl ai m20,sl cS m21,.int .i64 m22,.str m23,.int .i64 m24,sl aa m25,sl aa m26,sl aa m27] []] []
def vp(o:(List Int)):ay:=aM 150 [(1,.str name),(2,.eptr (aq m)),(5,.bptr 1 0),(6,.func (.func 66) [] [.bptr 1 0])] [.dead,.cells [.nptr 1 106,sl (cI .u8) o] [(1,5)],.cells [.str m3,sl cS m4,.int .i64 m5,.str m6,.int .i64 m7,sl aj m8,sl aD m9,sl aN m10,sl ai m11,.int .i64 m12,.bool m13,sl cS m14,sl bv m15,sl bP m16,sl aS m17,.int .i64 m18,.str m19,sl ai m20,sl cS m21,.int .i64 m22,.str m23,.int .i64 m24,sl aa m25,sl aa m26,sl aa m27] []] []
def vo:Option ((Int×(List Int))⊕(((List Int)))):=
 if decide (t127<t126)=true then
  (dw t125 t127).bind λx35=>
  (oY m x35).bind λr36=>
  (d8 r36 m2).bind λr37=>
  some (.inl (fh (t127+1),r37))
 else
  some (.inr m2)
def zL:Option (((List Int))):=loop (λ(zz:Int×(List Int))=>vo m t125 t126 zz.1 zz.2) (t127,m2)
theorem CW:OL 0 (cA OP 32759) (vo m t125 t126 t127 m2) (λ(zz:Int×(List Int))=>mO name m t125 t126 m3 m4 m5 m6 m7 m8 m9 m10 m11 m12 m13 m14 m15 m16 m17 m18 m19 m20 m21 m22 m23 m24 m25 m26 m27 zz.1 zz.2) (λ_=>.exit 10) (vp name m m3 m4 m5 m6 m7 m8 m9 m10 m11 m12 m13 m14 m15 m16 m17 m18 m19 m20 m21 m22 m23 m24 m25 m26 m27) (mO name m t125 t126 m3 m4 m5 m6 m7 m8 m9 m10 m11 m12 m13 m14 m15 m16 m17 m18 m19 m20 m21 m22 m23 m24 m25 m26 m27 t127 m2):=T3.l<|
 tF (tb λx35 bx35=>tb λr36 br36=>tb λr37 br37=>tv (cz.ia (k:=.i64) bx35)<|tv (cH Iw (.str x35) [])<|tv (bN m)<|ck (qY _ br36)<|tc [1] (dz _ br37)<|tE)<|tE
theorem Ei:OJ 0 (.loop (cA OP 32759)) (zL m t125 t126 t127 m2) (.exit 10) (vp name m m3 m4 m5 m6 m7 m8 m9 m10 m11 m12 m13 m14 m15 m16 m17 m18 m19 m20 m21 m22 m23 m24 m25 m26 m27) (mO name m t125 t126 m3 m4 m5 m6 m7 m8 m9 m10 m11 m12 m13 m14 m15 m16 m17 m18 m19 m20 m21 m22 m23 m24 m25 m26 m27 t127 m2):=sQ λ_=>CW _ _ _ _ _ _ _ _ _ _ _ _ _ _ _ _ _ _ _ _ _ _ _ _ _ _ _ _ _ _ _
end
section
variable(t139:waA)(t140:Int)(m2:ac)(m3:waA)(m4:Int)(m5:ac)(m6:Int)(m7:waE)(m8:waF)(m9:waD)(m10:waC)(m11:Int)(m12:Bool)(m13:waA)(m14:waH)(m15:waI)(m16:waG)(m17:Int)(m18:ac)(m19:waC)(m20:waA)(m21:Int)(m22:ac)(m23:Int)(m24:waB)(m25:waB)(m26:waB)(t141:Int)(m:(List Int))
def mP:ay:=aM 150 [(5,.bptr 1 0),(6,.func (.func 66) [] [.bptr 1 0]),(139,sl cS t139),(140,.int .i64 t140),(141,.int .i64 t141)] [.dead,.cells [.nptr 1 106,sl (cI .u8) m] [(1,5)],.cells [.str m2,sl cS m3,.int .i64 m4,.str m5,.int .i64 m6,sl aj m7,sl aD m8,sl aN m9,sl ai m10,.int .i64 m11,.bool m12,sl cS m13,sl bv m14,sl bP m15,sl aS m16,.int .i64 m17,.str m18,sl ai m19,sl cS m20,.int .i64 m21,.str m22,.int .i64 m23,sl aa m24,sl aa m25,sl aa m26] []] [((139,0),9)]
def vw(o:(List Int)):ay:=aM 150 [(5,.bptr 1 0)] [.dead,.cells [.nptr 1 106,sl (cI .u8) o] [(1,5)],.cells [.str m2,sl cS m3,.int .i64 m4,.str m5,.int .i64 m6,sl aj m7,sl aD m8,sl aN m9,sl ai m10,.int .i64 m11,.bool m12,sl cS m13,sl bv m14,sl bP m15,sl aS m16,.int .i64 m17,.str m18,sl ai m19,sl cS m20,.int .i64 m21,.str m22,.int .i64 m23,sl aa m24,sl aa m25,sl aa m26] []] []
def vq:Option ((Int×(List Int))⊕(((List Int)))):=
 if decide (t141<t140)=true then
  (dw t139 t141).bind λx41=>
  (d8 x41 m).bind λr42=>
  some (.inl (fh (t141+1),r42))
 else
  some (.inr m)
def zM:Option (((List Int))):=loop (λ(zz:Int×(List Int))=>vq t139 t140 zz.1 zz.2) (t141,m)
theorem CX:OL 0 (cA OP 65527) (vq t139 t140 t141 m) (λ(zz:Int×(List Int))=>mP t139 t140 m2 m3 m4 m5 m6 m7 m8 m9 m10 m11 m12 m13 m14 m15 m16 m17 m18 m19 m20 m21 m22 m23 m24 m25 m26 zz.1 zz.2) (λ_=>.exit 12) (vw m2 m3 m4 m5 m6 m7 m8 m9 m10 m11 m12 m13 m14 m15 m16 m17 m18 m19 m20 m21 m22 m23 m24 m25 m26) (mP t139 t140 m2 m3 m4 m5 m6 m7 m8 m9 m10 m11 m12 m13 m14 m15 m16 m17 m18 m19 m20 m21 m22 m23 m24 m25 m26 t141 m):=T3.l<|
 tF (tb λx41 bx41=>tb λr42 br42=>tv (cz.ia (k:=.i64) bx41)<|tv (cH Iw (.str x41) [])<|tc [1] (dz _ br42)<|tE)<|tE
theorem Ej:OJ 0 (.loop (cA OP 65527)) (zM t139 t140 t141 m) (.exit 12) (vw m2 m3 m4 m5 m6 m7 m8 m9 m10 m11 m12 m13 m14 m15 m16 m17 m18 m19 m20 m21 m22 m23 m24 m25 m26) (mP t139 t140 m2 m3 m4 m5 m6 m7 m8 m9 m10 m11 m12 m13 m14 m15 m16 m17 m18 m19 m20 m21 m22 m23 m24 m25 m26 t141 m):=sQ λ_=>CX _ _ _ _ _ _ _ _ _ _ _ _ _ _ _ _ _ _ _ _ _ _ _ _ _ _ _ _ _
end
def Fm(m:aw)(name:ac):Option ac:=
 (ed m name).bind λr1=>
 if(r1.1.Mode==1)=true then
  (pN r1.1).bind λr3=>
  (d8 r3 ([]:List Int)).bind λr4=>
  (D8 r4).bind λr5=>
  some r5
 else
  (zG m (m.Datas.length:Int) 0 ([]:List Int)).bind λo10=>
  (zH m (m.Measures.length:Int) 0 o10).bind λo15=>
  (zI m (m.Quals.length:Int) 0 o15).bind λo20=>
  (kh m).bind λr21=>
  (zJ r21 (r21.length:Int) 0 o20).bind λo26=>
  (Bl m name).bind λr27=>
  (zK m r27.1 (r27.1.length:Int) 0 o26).bind λo33=>
  (zL m r27.2 (r27.2.length:Int) 0 o33).bind λo38=>
  (sX m name).bind λr39=>
  (zM r39 (r39.length:Int) 0 o38).bind λo43=>
  (D8 o43).bind λr44=>
  some r44
theorem IP{m:aw}{name:ac}:OV 42 [.agg (aq m),.str name] (Fm m name) (λr=>.str r) []:=T3.v<|
 tb λr1 br1=>te (dM m)<|qe9 XA<|tv (bN m)<|ck (dp _ br1)<|tx zt<|tx (dQ r1.1)<|ts<|tF (tb λr3 br3=>tb λr4 br4=>tb λr5 br5=>tv (mY r1.1 [])<|ck (mS _ br3)<|tc [1] (dz _ br4)<|tc [1] (Do br5)<|tE)<|tb λo10 bo10=>tb λo15 bo15=>tb λo20 bo20=>tb λr21 br21=>tb λo26 bo26=>tb λr27 br27=>tb λo33 bo33=>tb λo38 bo38=>tb λr39 br39=>tb λo43 bo43=>tb λr44 br44=>tw (pP m)<|cb (XI.ln m.Datas)<|cu (Ed name m (m.Datas.length:Int) r1.1.Name r1.1.Params r1.1.Body.Op r1.1.Body.Name r1.1.Body.N r1.1.Body.Kids r1.1.Body.Params r1.1.Body.Alts r1.1.Body.Types r1.1.Mode r1.1.Typed r1.1.Sig.Vars r1.1.Sig.Needs r1.1.Sig.Abs r1.1.Sig.Bounds r1.1.Sig.Type_.Op r1.1.Sig.Type_.Name r1.1.Sig.Type_.Args r1.1.Sig.Type_.Names r1.1.Sig.Type_.Pred.Op r1.1.Sig.Type_.Pred.Name r1.1.Sig.Type_.Pred.N r1.1.Sig.Type_.Pred.Kids r1.1.Sig.Type_.Preds r1.1.Sig.Metric 0 ([]:List Int) _ bo10)<|tw (pQ m)<|cb (XJ.ln m.Measures)<|cu (Ee name m (m.Measures.length:Int) r1.1.Name r1.1.Params r1.1.Body.Op r1.1.Body.Name r1.1.Body.N r1.1.Body.Kids r1.1.Body.Params r1.1.Body.Alts r1.1.Body.Types r1.1.Mode r1.1.Typed r1.1.Sig.Vars r1.1.Sig.Needs r1.1.Sig.Abs r1.1.Sig.Bounds r1.1.Sig.Type_.Op r1.1.Sig.Type_.Name r1.1.Sig.Type_.Args r1.1.Sig.Type_.Names r1.1.Sig.Type_.Pred.Op r1.1.Sig.Type_.Pred.Name r1.1.Sig.Type_.Pred.N r1.1.Sig.Type_.Pred.Kids r1.1.Sig.Type_.Preds r1.1.Sig.Metric 0 o10 _ bo15)<|tw (pR m)<|cb (XK.ln m.Quals)<|cu (Ef name m (m.Quals.length:Int) r1.1.Name r1.1.Params r1.1.Body.Op r1.1.Body.Name r1.1.Body.N r1.1.Body.Kids r1.1.Body.Params r1.1.Body.Alts r1.1.Body.Types r1.1.Mode r1.1.Typed r1.1.Sig.Vars r1.1.Sig.Needs r1.1.Sig.Abs r1.1.Sig.Bounds r1.1.Sig.Type_.Op r1.1.Sig.Type_.Name r1.1.Sig.Type_.Args r1.1.Sig.Type_.Names r1.1.Sig.Type_.Pred.Op r1.1.Sig.Type_.Pred.Name r1.1.Sig.Type_.Pred.N r1.1.Sig.Type_.Pred.Kids r1.1.Sig.Type_.Preds r1.1.Sig.Metric 0 o15 _ bo20)<|tv (bN m)<|ck (ra _ br21)<|cb (AV.ln r21)<|cu (Eg name m r21 (r21.length:Int) r1.1.Name r1.1.Params r1.1.Body.Op r1.1.Body.Name r1.1.Body.N r1.1.Body.Kids r1.1.Body.Params r1.1.Body.Alts r1.1.Body.Types r1.1.Mode r1.1.Typed r1.1.Sig.Vars r1.1.Sig.Needs r1.1.Sig.Abs r1.1.Sig.Bounds r1.1.Sig.Type_.Op r1.1.Sig.Type_.Name r1.1.Sig.Type_.Args r1.1.Sig.Type_.Names r1.1.Sig.Type_.Pred.Op r1.1.Sig.Type_.Pred.Name r1.1.Sig.Type_.Pred.N r1.1.Sig.Type_.Pred.Kids r1.1.Sig.Type_.Preds r1.1.Sig.Metric 0 o20 _ bo26)<|tv (bN m)<|ck (Bo _ br27)<|cb (cz.ln r27.1)<|cu (Eh name m r27.2 r27.1 (r27.1.length:Int) r1.1.Name r1.1.Params r1.1.Body.Op r1.1.Body.Name r1.1.Body.N r1.1.Body.Kids r1.1.Body.Params r1.1.Body.Alts r1.1.Body.Types r1.1.Mode r1.1.Typed r1.1.Sig.Vars r1.1.Sig.Needs r1.1.Sig.Abs r1.1.Sig.Bounds r1.1.Sig.Type_.Op r1.1.Sig.Type_.Name r1.1.Sig.Type_.Args r1.1.Sig.Type_.Names r1.1.Sig.Type_.Pred.Op r1.1.Sig.Type_.Pred.Name r1.1.Sig.Type_.Pred.N r1.1.Sig.Type_.Pred.Kids r1.1.Sig.Type_.Preds r1.1.Sig.Metric 0 o26 _ bo33)<|cb (cz.ln r27.2)<|cu (Ei name m r27.2 (r27.2.length:Int) r1.1.Name r1.1.Params r1.1.Body.Op r1.1.Body.Name r1.1.Body.N r1.1.Body.Kids r1.1.Body.Params r1.1.Body.Alts r1.1.Body.Types r1.1.Mode r1.1.Typed r1.1.Sig.Vars r1.1.Sig.Needs r1.1.Sig.Abs r1.1.Sig.Bounds r1.1.Sig.Type_.Op r1.1.Sig.Type_.Name r1.1.Sig.Type_.Args r1.1.Sig.Type_.Names r1.1.Sig.Type_.Pred.Op r1.1.Sig.Type_.Pred.Name r1.1.Sig.Type_.Pred.N r1.1.Sig.Type_.Pred.Kids r1.1.Sig.Type_.Preds r1.1.Sig.Metric 0 o33 _ bo38)<|tv (bN m)<|ck (uS _ br39)<|cb (cz.ln r39)<|cu (Ej r39 (r39.length:Int) r1.1.Name r1.1.Params r1.1.Body.Op r1.1.Body.Name r1.1.Body.N r1.1.Body.Kids r1.1.Body.Params r1.1.Body.Alts r1.1.Body.Types r1.1.Mode r1.1.Typed r1.1.Sig.Vars r1.1.Sig.Needs r1.1.Sig.Abs r1.1.Sig.Bounds r1.1.Sig.Type_.Op r1.1.Sig.Type_.Name r1.1.Sig.Type_.Args r1.1.Sig.Type_.Names r1.1.Sig.Type_.Pred.Op r1.1.Sig.Type_.Pred.Name r1.1.Sig.Type_.Pred.N r1.1.Sig.Type_.Pred.Kids r1.1.Sig.Type_.Preds r1.1.Sig.Metric 0 o38 _ bo43)<|tc [1] (Do br44)<|tE
noncomputable def qev:Code:=f18.body.getD .skip
def qdH:List Nat:=[]
theorem qef:ZF Pg qdH 18 f18 qev:=zf call18 func18 rfl mixed
def pE(m:aw)(name:ac):Option Int:=
 (ed m name).bind λr1=>
 if(!r1.2)=true then
  some 0
 else
  (Fm m name).bind λr3=>
  (lV r3).bind λr4=>
  some r4
theorem oX{m:aw}{name:ac}:OV 18 [.agg (aq m),.str name] (pE m name) (λr=>.int .i64 r) []:=qef.v<|
 tb λr1 br1=>te (dM m)<|tv (bN m)<|ck (dp _ br1)<|tx zt<|tx (dQ r1.1)<|tF tE<|tb λr3 br3=>tb λr4 br4=>tv (bN m)<|ck (IP _ br3)<|ck (kV _ br4)<|tE
noncomputable def VU:Code:=f22.body.getD .skip
def qdK:List Nat:=[53,59]
theorem XV:ZF Pg qdK 22 f22 VU:=zf call22 func22 rfl mixed
section
variable(v:aw)(v2:aw)(t15:waJ)(t16:Int)(t17:Int)(m2:(List (ac×Int)))
def gH:ay:=aM 60 [(2,.eptr (aq v)),(3,.eptr (aq v2)),(5,.mapr 2),(15,sl aQ t15),(16,.int .i64 t16),(17,.int .i64 t17)] [.dead,.dead,.map (bA (PVal.int .i64) m2)] []
def kK(o:(List (ac×Int))):ay:=aM 60 [(3,.eptr (aq v2)),(5,.mapr 2)] [.dead,.dead,.map (bA (PVal.int .i64) o)] []
instance iS_depend_Changed_L1:KS 0 (gH v v2 t15 t16 t17 m2):=⟨rfl,(bk (aI (cT (bQ v)) (aI (cT (bQ v2)) (aI (bH rfl) (aI (up (ak fZ t15)) (aI vzz (aI vzz vzz))))))),(aI vzz (aI vzz (aI (Hh (PVal.int .i64) (λx=>trivial) m2) trivial)))⟩
instance iO_depend_Changed_L1{o:((List (ac×Int)))}:KS 0 (kK v2 o):=⟨rfl,(bk (aI (cT (bQ v2)) (aI (bH rfl) trivial))),(aI vzz (aI vzz (aI (Hh (PVal.int .i64) (λx=>trivial) o) trivial)))⟩
def qU:Option ((Int×(List (ac×Int)))⊕(((List (ac×Int))))):=
 if decide (t17<t16)=true then
  (dw t15 t17).bind λx2=>
  (pE v x2.Name).bind λr3=>
  some (.inl (fh (t17+1),FH m2 x2.Name r3))
 else
  some (.inr m2)
def uU:Option (((List (ac×Int)))):=loop (λ(zz:Int×(List (ac×Int)))=>qU v t15 t16 zz.1 zz.2) (t17,m2)
theorem AF:OL 0 (cA VU 119) (qU v t15 t16 t17 m2) (λ(zz:Int×(List (ac×Int)))=>gH v v2 t15 t16 zz.1 zz.2) (λ_=>.exit 0) (kK v2) (gH v v2 t15 t16 t17 m2):=XV.lx<|
 tF (tb λx2 bx2=>tb λr3 br3=>tv (AV.ia (k:=.i64) bx2)<|tv (vS x2)<|tx zt<|tx (dQ x2)<|S2 [0,0,2,0,0,16,56,127]<|ts<|tv (bN v)<|ts<|ck (oX _ br3)<|V5 (Hv (f:=(PVal.int .i64)) underlying79 underlying9 m2 x2.Name r3)<|tE)<|tE
theorem Bi:OJ 0 (.loop (cA VU 119)) (uU v t15 t16 t17 m2) (.exit 0) (kK v2) (gH v v2 t15 t16 t17 m2):=sQ λ_=>AF _ _ _ _ _ _
end
section
variable(v:aw)(out:waA)(n:Int)(ok:Bool)(t30:waJ)(t31:Int)(t32:Int)(m2:(List (ac×Int)))(m:ac)(m3:waA)(m4:Int)(m5:ac)(m6:Int)(m7:waE)(m8:waF)(m9:waD)(m10:waC)(m11:Int)(m12:Bool)(m13:waA)(m14:waH)(m15:waI)(m16:waG)(m17:Int)(m18:ac)(m19:waC)(m20:waA)(m21:Int)(m22:ac)(m23:Int)(m24:waB)(m25:waB)(m26:waB)
def uT:Option Bool:=
 if(!ok)=true then
  some true
 else
  (pE v m).bind λr8=>
  some (n !=r8)
theorem Bh:OJ 0 (cA VU 64494) (uT v n ok m) .normal (λo=>aM 60 [(3,.eptr (aq v)),(5,.mapr 2),(8,sl cS out),(10,.bptr 3 0),(30,sl aQ t30),(31,.int .i64 t31),(32,.int .i64 t32),(52,.bool o)] [.dead,.dead,.map (bA (PVal.int .i64) m2),.cells [.str m,sl cS m3,.int .i64 m4,.str m5,.int .i64 m6,sl aj m7,sl aD m8,sl aN m9,sl ai m10,.int .i64 m11,.bool m12,sl cS m13,sl bv m14,sl bP m15,sl aS m16,.int .i64 m17,.str m18,sl ai m19,sl cS m20,.int .i64 m21,.str m22,.int .i64 m23,sl aa m24,sl aa m25,sl aa m26] []] [((8,0),9)]) (aM 60 [(3,.eptr (aq v)),(5,.mapr 2),(8,sl cS out),(10,.bptr 3 0),(11,.int .i64 n),(12,.bool ok),(30,sl aQ t30),(31,.int .i64 t31),(32,.int .i64 t32)] [.dead,.dead,.map (bA (PVal.int .i64) m2),.cells [.str m,sl cS m3,.int .i64 m4,.str m5,.int .i64 m6,sl aj m7,sl aD m8,sl aN m9,sl ai m10,.int .i64 m11,.bool m12,sl cS m13,sl bv m14,sl bP m15,sl aS m16,.int .i64 m17,.str m18,sl ai m19,sl cS m20,.int .i64 m21,.str m22,.int .i64 m23,sl aa m24,sl aa m25,sl aa m26] []] [((8,0),9)]):=XV.j<|
 tf (λc7=>tg 3 c7<|tE) λc7=>tb λr8 br8=>tg 3 c7<|tv (bN v)<|ts<|ck (oX _ br8)<|tE
end
section
variable(v:aw)(t30:waJ)(t31:Int)(m2:(List (ac×Int)))(out:waA)(t32:Int)
def gI:ay:=aM 60 [(3,.eptr (aq v)),(5,.mapr 2),(8,sl cS out),(30,sl aQ t30),(31,.int .i64 t31),(32,.int .i64 t32)] [.dead,.dead,.map (bA (PVal.int .i64) m2)] [((8,0),9)]
def kL(o:waA):ay:=aM 60 [(8,sl cS o)] [.dead,.dead,.map (bA (PVal.int .i64) m2)] [((8,0),9)]
instance iS_depend_Changed_L2:KS 0 (gI v t30 t31 m2 out t32):=⟨rfl,(bk (aI (cT (bQ v)) (aI (bH rfl) (aI (up (ak eU out)) (aI (up (ak fZ t30)) (aI vzz (aI vzz vzz))))))),(aI vzz (aI vzz (aI (Hh (PVal.int .i64) (λx=>trivial) m2) trivial)))⟩
instance iO_depend_Changed_L2{o:waA}:KS 0 (kL m2 o):=⟨rfl,(bk (aI (up (ak eU o)) trivial)),(aI vzz (aI vzz (aI (Hh (PVal.int .i64) (λx=>trivial) m2) trivial)))⟩
def qV:Option ((waA×Int)⊕(waA)):=
 if decide (t32<t31)=true then
  (dw t30 t32).bind λx6=>
  (uT v ((pg m2 x6.Name).getD 0) ((pg m2 x6.Name).isSome) x6.Name).bind λo9=>
  if o9=true then
   (app out ([x6.Name]:List ac)).bind λl11=>
   some (.inl (l11,fh (t32+1)))
  else
   some (.inl (out,fh (t32+1)))
 else
  some (.inr out)
def uV:Option waA:=loop (λ(zz:waA×Int)=>qV v t30 t31 m2 zz.1 zz.2) (out,t32)
theorem AG:OL 0 (cA VU 503) (qV v t30 t31 m2 out t32) (λ(zz:waA×Int)=>gI v t30 t31 m2 zz.1 zz.2) (λ_=>.exit 2) (kL m2) (gI v t30 t31 m2 out t32):=XV.lx<|
 tF (tb λx6 bx6=>tb λo9 bo9=>tv (AV.ia (k:=.i64) bx6)<|tv (vS x6)<|tx zt<|tx (dQ x6)<|ts<|tv (TG (f:=(PVal.int .i64)) underlying79 underlying9 qfl m2 x6.Name)<|gz 0<|cu (Bh v out ((pg m2 x6.Name).getD 0) ((pg m2 x6.Name).isSome) t30 t31 t32 m2 x6.Name x6.Params x6.Body.Op x6.Body.Name x6.Body.N x6.Body.Kids x6.Body.Params x6.Body.Alts x6.Body.Types x6.Mode x6.Typed x6.Sig.Vars x6.Sig.Needs x6.Sig.Abs x6.Sig.Bounds x6.Sig.Type_.Op x6.Sig.Type_.Name x6.Sig.Type_.Args x6.Sig.Type_.Names x6.Sig.Type_.Pred.Op x6.Sig.Type_.Pred.Name x6.Sig.Type_.Pred.N x6.Sig.Type_.Pred.Kids x6.Sig.Type_.Preds x6.Sig.Metric _ bo9)<|tF (tb λl11 bl11=>ts<|tv (bK [x6.Name] 1 rfl)<|tv (cz.ap bl11)<|tE)<|tE)<|tE
theorem Bj:OJ 0 (.loop (cA VU 503)) (uV v t30 t31 m2 out t32) (.exit 2) (kL m2) (gI v t30 t31 m2 out t32):=sQ λ_=>AG _ _ _ _ _ _
end
def sY(a:aw)(a2:aw):Option waA:=
 (uU a a.Defs (a.Defs.length:Int) 0 ([]:List (ac×Int))).bind λo4=>
 (uV a2 a2.Defs (a2.Defs.length:Int) o4 ([]:List ac) 0).bind λo12=>
 some o12
theorem uW{a:aw}{a2:aw}:OV 22 [.agg (aq a),.agg (aq a2)] (sY a a2) (λr=>sl cS r) [(0,9)]:=XV.v<|
 tb λo4 bo4=>tb λo12 bo12=>te (dM a)<|te (dM a2)<|tw (f8 a)<|cb (AV.ln a.Defs)<|cu (Bi a a2 a.Defs (a.Defs.length:Int) 0 ([]:List (ac×Int)) _ bo4)<|tw (f8 a2)<|cb (AV.ln a2.Defs)<|cu (Bj a2 a2.Defs (a2.Defs.length:Int) o4 ([]:List ac) 0 _ bo12)<|tE
noncomputable def qaW:Code:=f11.body.getD .skip
def qdE:List Nat:=[15]
theorem qcQ:ZF Pg qdE 11 f11 qaW:=zf call11 func11 rfl mixed
section
variable(v:waA)(v2:waA)(t12:Int)(t13:Int)
def wF:ay:=aM 26 [(0,sl cS v),(1,sl cS v2),(12,.int .i64 t12),(13,.int .i64 t13)] [] []
def Dm(o:Unit⊕(Unit)):Exit:=match o with
 |(.inl _)=>.ret
 |(.inr _)=>.exit 0
def Dn(o:Unit⊕(Unit)):ay:=match o with
 |(.inl o)=>aM 26 [(4,.bool false)] [] []
 |(.inr o)=>aM 26 [] [] []
def Dl:Option (Int⊕(Unit⊕(Unit))):=
 if decide (t13<t12)=true then
  (dw v t13).bind λx3=>
  (dw v2 t13).bind λx4=>
  if(!(x3==x4))=true then
   some (.inr (.inl ()))
  else
   some (.inl (fh (t13+1)))
 else
  some (.inr (.inr ()))
def H7:Option (Unit⊕(Unit)):=loop (λ(zz:Int)=>Dl v v2 t12 zz) t13
theorem II:OL 0 (cA qaW 119) (Dl v v2 t12 t13) (λ(zz:Int)=>wF v v2 t12 zz) Dm Dn (wF v v2 t12 t13):=qcQ.l<|
 tF (tb λx3 bx3=>tb λx4 bx4=>S2 [0,0,3,7,0,0,48,112,255]<|tv (cz.ia (k:=.i64) bx3)<|tv (cH Iw (.str x3) [])<|tv (cz.ia (k:=.i64) bx4)<|tv (cH Iw (.str x4) [])<|tF tE<|tE)<|tE
theorem A5:OK 0 (.loop (cA qaW 119)) (H7 v v2 t12 t13) Dm Dn (wF v v2 t12 t13):=HK λ_=>II _ _ _ _
end
def E5(a:waA)(a2:waA):Option Bool:=
 if((a.length:Int)!=(a2.length:Int))=true then
  some false
 else
  (H7 a a2 (a.length:Int) 0).bind λo6=>match o6 with
  |(.inl o6)=>
   some false
  |(.inr o6)=>
   some true
theorem A6{a:waA}{a2:waA}:OV 11 [sl cS a,sl cS a2] (E5 a a2) (λr=>.bool r) []:=qcQ.v<|
 cb (cz.ln a)<|cb (cz.ln a2)<|tF tE<|cb (cz.ln a)<|t2 (λo6 bo6=>cu (A5 a a2 (a.length:Int) 0 _ bo6)<|tE) λo6 bo6=>cu (A5 a a2 (a.length:Int) 0 _ bo6)<|tE
end Go.Proofs.YtankopenjcbeeaaGreatDoor
