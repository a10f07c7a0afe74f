/- PROVED: a part of the proof. Conditions: none. -/
import Derived.Test.YtkdahfeiedaahaaGreatDoorPkD18
import Derived.Test.YtkdahfeiedaahaaGreatDoorPkD10
import Derived.Shelf.SlicesE.DeleteFunc
import Derived.Shelf.SlicesE.Index
noncomputable section
namespace Go.Proofs.YtkdahfeiedaahaaGreatDoor
open Go Go.Proofs.Tryz
set_option linter.unusedVariables false
set_option maxRecDepth 100000
abbrev gD:=(ae->aE->(List (ae×Bool))->aE->Option ((List (ae×Bool))))
abbrev j0(R:gD):Prop:=∀(name:ae) (a:aE) (k2:(List (ae×Bool))) (c:aE) (r:(List (ae×Bool))),R name a k2 c=some r->C Pg GE 89 [.str name,.eptr (ay a),.bptr 0 0,.bptr 3 0] [] [.cells [.bptr 1 0] [],.cells [.mapr 2] [],.map (aL PVal.bool k2),.cells [.func (.func 89) [] [.eptr (ay c),.bptr 0 0,.bptr 3 0]] []] (.tuple []) [] [.cells [.bptr 1 0] [],.cells [.mapr 2] [],.map (aL PVal.bool r),.cells [.func (.func 89) [] [.eptr (ay c),.bptr 0 0,.bptr 3 0]] []]
noncomputable def qaB:Code:=f130.body.getD .skip
def qaa:List Nat:=[]
theorem Z130:ZF qaa 130 f130 qaB:=⟨call130,func130,rfl⟩
def Bg(s:ae)(a:cp):Option Bool:=
 (ka a.Params s).bind fun r1=>
 some (decide (r1>=0))
theorem FB{s:ae}{a:cp}{r:Bool}(h:Bg s a=some r):CC Pg GE 130 [.str s,.eptr (aX a)] (.bool r) []:=by
 obtain⟨r1,br1,h⟩:=ck h
 obtain rfl:=lf h
 have z:=sv (Ar a)<|sv (Aw a)<|cD (oI br1)<|en (aI (rP (.bool (decide (r1>=0))))<|trivial)
 exact Z130.v (aI trivial (aI (jm a) trivial)) z<|by kernel_rfl
section
variable(s:waA)(v:cp)(t7:Int)(t8:Int)
def eC:aB:=aS 19 [(0,sl cS s),(1,.func (.func 130) [] [.eptr (aX v)]),(7,.int .i64 t7),(8,.int .i64 t8)] [] []
def eD(o:Int⊕(Unit)):Exit:=match o with
 |(.inl _)=>.ret
 |(.inr _)=>.exit 0
def cQ(o:Int⊕(Unit)):aB:=match o with
 |(.inl o)=>aS 19 [(4,.int .i64 o)] [] []
 |(.inr o)=>aS 19 [] [] []
def gu:Option (Int⊕(Int⊕(Unit))):=
 if(decide (t8<t7))=true then
  (eT s t8).bind fun x2=>
  (Bg x2 v).bind fun r3=>
  if r3=true then
   some (.inr (.inl t8))
  else
   some (.inl (bB (t8+1)))
 else
  some (.inr (.inr ()))
def fh:Option (Int⊕(Unit)):=loop (fun(zz:Int)=>gu s v t7 zz) t8
theorem qU{y:Int⊕(Int⊕(Unit))}(h:gu s v t7 t8=some y):aW Pg GE 0 (cA Rh 55) (LQ (fun(zz:Int)=>eC s v t7 zz) eD cQ y) (eC s v t7 t8):=by
 rcases aO h with⟨c1,h⟩|⟨c1,h⟩
 ·obtain⟨x2,bx2,r3,br3,h⟩:=Zb2 h
  have p5:=fun{sc F} (r:PS sc F)=>sg 0 c1<|sv (bN.ia (k:=.i64) bx2)<|sv (b8 AF (.str x2) [])<|cD (FB br3)<|r
  rcases aO h with⟨c4,h⟩|⟨c4,h⟩
  ·obtain rfl:=lf h
   have z:=p5<|sg 0 c4<|eF (eD (.inl t8)) (cQ (.inl t8))
   exact hU N8 (Zn rfl) z<|by kernel_rfl
  ·obtain rfl:=lf h
   exact wJ N8 (p5<|sg 0 c4<|eF .normal (eC s v t7 (bB (t8+1))))<|by kernel_rfl
 ·obtain rfl:=lf h
  have z:=sg 0 c1<|eF (eD (.inr ())) (cQ (.inr ()))
  exact hU N8 (Zn rfl) z<|by kernel_rfl
theorem kg{x:Int⊕(Unit)}(h:fh s v t7 t8=some x):aW Pg GE 0 (.loop (cA Rh 55)) (EX (eD x) (cQ x)) (eC s v t7 t8):=
 ZL h fun _ _ hy=>qU _ _ _ _ hy
end
def jy(s:waA)(c:cp):Option Int:=
 (fh s c (s.length:Int) 0).bind fun o6=>match o6 with
 |(.inl o6)=>
  some o6
 |(.inr o6)=>
  some (-1)
theorem uj{s:waA}{c:cp}{r:Int}(h:jy s c=some r):CC Pg GE 155 [sl cS s,.func (.func 130) [] [.eptr (aX c)]] (.int .i64 r) []:=by
 obtain⟨o6,bo6,h⟩:=ck h
 rcases o6 with o6|o6
 ·obtain rfl:=lf h
  have z:=bQ (bN.ln s)<|cT (e:=.ret) (s1:=cQ (.inl o6)) (kg s c (s.length:Int) 0 bo6)<|en (aI (rP (.int .i64 o6))<|trivial)
  exact ZW N8 call155 func155 (c:=Rh) rfl (aI (aj bz s) (aI (aI trivial (aI (jm c) trivial)) trivial)) z<|by kernel_rfl
 ·obtain rfl:=lf h
  have z:=bQ (bN.ln s)<|cT (e:=.exit 0) (s1:=cQ (.inr o6)) (kg s c (s.length:Int) 0 bo6)<|en (aI (rP (.int .i64 (-1)))<|trivial)
  exact ZW N8 call155 func155 (c:=Rh) rfl (aI (aj bz s) (aI (aI trivial (aI (jm c) trivial)) trivial)) z<|by kernel_rfl
open Go Go.Sort Go.Proofs.Tryz
set_option linter.unusedSimpArgs false
abbrev qcK:Nat:=90
abbrev Sq:Nat:=130
abbrev ZX:Nat:=129
abbrev qbG:Nat:=94
noncomputable def YS:Code:=f90.body.getD .skip
noncomputable def Dl:Code:=f130.body.getD .skip
noncomputable def JX:Code:=f94.body.getD .skip
theorem Kw{P:Program}{a:Act}{w:World}{Q:Exit->Act->World->Prop}{ops:Array Oper}{L:List Nat}{i:Nat}{o:Oper}{f:FuncId}{vs:Array Value}{R:Ending->World->Prop}(hi:ops[i]? =some o)(hg:o.guard=none)(hrun:(execOp a.eval o).run P w=.ok (.enter f vs) w)
  (hc:Calls P f vs w R) (h:∀e w',R e w'->∃v,e=.returned v/\wpOps P ops Q L (a.put o.dst v) w'):wpOps P ops Q (i::L) a w:=by
 rw[wpOps_cons]
 unfold wpOp
 rw[hi]
 simp only
 rw[vax (by simp[Region.wanted,hg])]
 refine .inl ?_
 unfold Oper.wp
 rw[hrun,Oper.upon_enter]
 refine hc.mono fun e w' he=>?_
 obtain⟨v,rfl,hx⟩:=h e w' he
 exact hx
def qcJ(o:Oper):TypeId:=match o.op with
 |.binOp _ _ _ _ s=>s
 |_=>0
theorem DD{P:Program}{a:Act}{w:World}{o:Oper}{f:FuncId}{args:Array Operand}{tys:Array TypeId}(ho:o.op=.call {callee:=.value (.func f),args:=args,argTypes:=tys})(hc:∀vs w,(callFunc f vs).run P w=.ok (.enter f vs) w):(execOp a.eval o).run P w=.ok (.enter f (args.map a.eval)) w:=by
 simp only[execOp,ho]
 simp[resolve,Act.eval,Deferred.ofValue,invoke,hc]
theorem N3{Γ:aU}{w:World}{l:List ae}{b off:Nat}{vals:Nat->Nat->Value}{sz:Nat}(hsz:∀(i:Nat) e,(l.map cS)[i]? =some e->e.length=sz)
  (hc:∀(i:Nat) e (k:Nat) p,(l.map cS)[i]? =some e->e[k]? =some p->w.cell? ⟨b,off+i * sz+k,none⟩=some (vals i k))
  (hv:∀(i:Nat) e (k:Nat) p,(l.map cS)[i]? =some e->e[k]? =some p->VR Γ [] w p (vals i k)):∀j,j<l.length->w.cell? ⟨b,off+j,none⟩=some (encStr l[j]!):=fun j hj=>by
 have hx:(l.map cS)[j]? =some (cS l[j]):=by simp[hj]
 have hs1:sz=1:=by have:=hsz j _ hx;simp[cS]at this;exact this.symm
 subst hs1
 have e1:=hc j _ 0 (.str l[j]) hx rfl
 have e2:=hv j _ 0 (.str l[j]) hx rfl
 rw[show off+j * 1+0=off+j by omega]at e1
 rw[e1,getElem!_pos l j hj]
 generalize vals j 0=q at e2
 cases e2
 rfl
theorem Rz(T:TypeId):EqlAt Pg T encStr (fun x y=>x==y):=⟨fun x y w=>by
 have:=(EqlAt.string Pg T).1 ⟨x.toArray⟩ ⟨y.toArray⟩ w
 simpa[encStr]using this,fun op a b x y w=>(EqlAt.string Pg T).2 op a b ⟨x.toArray⟩ ⟨y.toArray⟩ w⟩
theorem Tj(l:List ae)(x:ae):decide (Lib.idxBy (fun x y=>x==y) l x>=0)=l.any fun y=>y==x:=by
 have:=Lib.idxBy_nonneg_iff (fun x y=>x==y) l x
 rw[show decide (Lib.idxBy (fun x y=>x==y) l x>=0)=decide (0<=Lib.idxBy (fun x y=>x==y) l x)from rfl]
 rw[this]
 congr 1
 funext y
 exact Bool.eq_iff_iff.2 (by simp only[vaZ];exact eq_comm)
theorem RB{Γ:aU}{W:World}{v:Value}{ps:List ae}{x:ae}(hv:VR Γ [] W (sl cS ps) v)(hl:ps.length<=dw):Calls Pg qbG #[v,encStr x] W fun e w'=>e=.returned (.int .i64 (Lib.idxBy (fun x y=>x==y) ps x))/\w'=W:=by
 have hIx:Calls Pg 131 #[v,encStr x] W fun e w'=>e=.returned (.int .i64 (Lib.idxBy (fun x y=>x==y) ps x))/\w'=W:=by
  unfold sl at hv
  generalize hes:ps.map cS=es at hv
  cases hv with
  | sliceNil =>
   have hn:ps=[]:=by cases ps with
    |nil=>rfl
    |cons x l=>simp at hes
   subst hn
   exact AnyE.slices_Index_empty Tryz.ix131 none 0 _ W
  | sliceE a cap =>
   have hn:ps=[]:=by cases ps with
    |nil=>rfl
    |cons x l=>simp at hes
   subst hn
   exact AnyE.slices_Index_empty Tryz.ix131 (some a) cap _ W
  |slice _ b off cap n sz vals h0 hcap hg hn hsz hc hvv=>
   subst hes
   have h:=AnyE.slices_Index Tryz.ix131 encStr (fun x y=>x==y) (Rz _) b off (ps.map cS).length cap ps x W (by simp) (by rw[vba];unfold dw at hl;omega) (N3 (Γ:=Γ) hsz hc hvv)
   rw[show ps.take (ps.map cS).length=ps from List.take_of_length_le (by simp)]at h
   exact h
 refine calls_of_wp func94 (c:=JX) rfl ?_
 have hn:f94.ntmps=8:=by kernel_rfl
 refine(fun(key:∀A0:Act,A0.tmps.size=8->A0.tmps[0]? =some v->A0.tmps[1]? =some (encStr x)->A0.defers=[]->JX.wp Pg _ A0 W)=>key _ ?_ ?_ ?_ rfl) ?_
 ·rw[hn];simp
 ·rw[hn];simp
 ·rw[hn];simp
 intro A0 z0 z1 z2 z3
 have hb:JX=.seq (.region (SQ (bg JX [false])) #[fP (bg JX [false]) 0] false) (.seq (.region (SQ (bg JX [true,false])) #[fP (bg JX [true,false]) 0,fP (bg JX [true,false]) 1,fP (bg JX [true,false]) 2,fP (bg JX [true,false]) 3] false) .ret):=by kernel_rfl
 rw[hb]
 have d0:(fP (bg JX [false]) 0).dst=some 4:=by kernel_rfl
 have o1:(fP (bg JX [true,false]) 0).op=.move (.tmp 0):=by kernel_rfl
 have d1:(fP (bg JX [true,false]) 0).dst=some 5:=by kernel_rfl
 have o2:(fP (bg JX [true,false]) 1).op=.move (.tmp 1):=by kernel_rfl
 have d2:(fP (bg JX [true,false]) 1).dst=some 6:=by kernel_rfl
 have o3:(fP (bg JX [true,false]) 2).op=.call {callee:=.value (.func 131),args:=#[.tmp 5,.tmp 6],argTypes:=VK (fP (bg JX [true,false]) 2)}:=by kernel_rfl
 have d3:(fP (bg JX [true,false]) 2).dst=some 7:=by kernel_rfl
 have o4:(fP (bg JX [true,false]) 3).op=.assign (.tmp 7):=by kernel_rfl
 have d4:(fP (bg JX [true,false]) 3).dst=some 4:=by kernel_rfl
 refine wp_seq (Jo (fO (o:=fP (bg JX [false]) 0) (by kernel_rfl) (by kernel_rfl) (v:=.int .i64 0) (w':=W) (by kernel_rfl) ?_))
 rw[d0]
 show Code.wp Pg _ _ _ W
 refine wp_seq (Jo (fO (o:=fP (bg JX [true,false]) 0) (by kernel_rfl) (by kernel_rfl) (v:=v) (w':=W) ?_ ?_))
 ·have:(A0.put (some 4) (.int .i64 0)).eval (.tmp 0)=v:=bU (by simp only[dR];exact z1)
  simp[execOp,o1,this]
 rw[d1]
 refine fO (o:=fP (bg JX [true,false]) 1) (by kernel_rfl) (by kernel_rfl) (v:=encStr x) (w':=W) ?_ ?_
 ·have:((A0.put (some 4) (.int .i64 0)).put (some 5) v).eval (.tmp 1)=encStr x:=bU (by simp only[dR];exact z2)
  simp[execOp,o2,this]
 rw[d2]
 have e5:(((A0.put (some 4) (.int .i64 0)).put (some 5) v).put (some 6) (encStr x)).eval (.tmp 5)=v:=bU (by simp only[dR,dD,z0];rfl)
 have e6:(((A0.put (some 4) (.int .i64 0)).put (some 5) v).put (some 6) (encStr x)).eval (.tmp 6)=encStr x:=bU (by simp only[dR,dD,z0];rfl)
 have hrun:=DD (a:=((A0.put (some 4) (.int .i64 0)).put (some 5) v).put (some 6) (encStr x)) (w:=W) o3 call131
 rw[show(#[Operand.tmp 5,.tmp 6]:Array Operand).map (((A0.put (some 4) (.int .i64 0)).put (some 5) v).put (some 6) (encStr x)).eval=#[v,encStr x] by simp[e5,e6]]at hrun
 refine Kw (o:=fP (bg JX [true,false]) 2) (by kernel_rfl) (by kernel_rfl) hrun hIx ?_
 rintro e w' ⟨rfl,rfl⟩
 refine⟨_,rfl,?_⟩
 rw[d3]
 refine fO (o:=fP (bg JX [true,false]) 3) (by kernel_rfl) (by kernel_rfl) (v:=.int .i64 (Lib.idxBy (fun x y=>x==y) ps x)) (w':=w') ?_ ?_
 ·have:((((A0.put (some 4) (.int .i64 0)).put (some 5) v).put (some 6) (encStr x)).put (some 7) (.int .i64 (Lib.idxBy (fun x y=>x==y) ps x))).eval (.tmp 7)=.int .i64 (Lib.idxBy (fun x y=>x==y) ps x):=bU (by simp only[dR,dD,z0];rfl)
  simp[execOp,o4,this]
 rw[d4]
 show Code.wp Pg _ _ _ w'
 refine wp_ret ⟨by simp only[bu];exact z3,.int .i64 (Lib.idxBy (fun x y=>x==y) ps x),?_,rfl,rfl⟩
 have hg:(((((A0.put (some 4) (.int .i64 0)).put (some 5) v).put (some 6) (encStr x)).put (some 7) (.int .i64 (Lib.idxBy (fun x y=>x==y) ps x))).put (some 4) (.int .i64 (Lib.idxBy (fun x y=>x==y) ps x))).tmps[4]? =some (.int .i64 (Lib.idxBy (fun x y=>x==y) ps x)):=by simp only[dR,dD,z0];rfl
 simp[results,vas,hg]
theorem Bo.same{Γ:aU}{w W:World}(hB:Bo GE Γ w)(hk:∀b,b<w.heap.size->W.heap[b]? =w.heap[b]?):Bo GE Γ W/\Γ.Le w Γ W:=by
 have hlt:∀b n,Γ b=some n->b<w.heap.size:=fun b n h=>by obtain⟨c,t,fr,h1,_⟩:=hB.wi b n h;exact er h1
 have hle:Γ.Le w Γ W:=fun b n hb _=>⟨n,hb,vam _,fun o _=>bR (hk b (hlt b n hb)) o⟩
 refine⟨{
  wi:=fun b n h=>by obtain⟨c,t,fr,h1,h2⟩:=hB.wi b n h;exact⟨c,t,fr,(hk b (hlt b n h)).trans h1,h2⟩
  gl:=fun g cs hg=>(hB.gl g cs hg).mono hle (.refl _)
  gc:=hB.gc
  gx:=fun g cs hg=>by
   obtain⟨k1,c,t,fr,k2,k3⟩:=hB.gx g cs hg
   have:=(hk g k1).trans k2
   exact⟨er this,c,t,fr,this,k3⟩},hle⟩
theorem Zg(d:cp):kV Pg 38 (.eptr ((aX d).drop 1)) []=some (sl cS d.Params):=Aw d
theorem UN{Γ:aU}{W:World}{cv:Value}{d:cp}(hB:Bo GE Γ W)(hcv:VR Γ [] W (.eptr (aX d)) cv)(hl:d.Params.length<=dw)(x:ae):Calls Pg Sq #[encStr x,cv] W fun e w'=>e=.returned (.bool (d.Params.any fun y=>y==x))/\w'=W:=by
 obtain⟨v4,hfa,hv4⟩:=qM (P:=Pg) hcv (Ar d)
 have hS:=hB.fresh (P:=Pg) (a:=#[]) 0 (tmps:=[]) rfl (fun t p v hp=>by simp at hp)
 obtain⟨v5,hld,hv5⟩:=vT (P:=Pg) hS hv4 (Zg d)
 have hF:=RB (x:=x) hv5 hl
 refine calls_of_wp func130 (c:=Dl) rfl ?_
 have hn:f130.ntmps=9:=by kernel_rfl
 refine(fun(key:∀A0:Act,A0.tmps.size=9->A0.tmps[0]? =some (encStr x)->A0.tmps[1]? =some cv->A0.defers=[]->Dl.wp Pg _ A0 W)=>key _ ?_ ?_ ?_ rfl) ?_
 ·rw[hn];simp
 ·rw[hn];simp
 ·rw[hn];simp
 intro A0 z0 z1 z2 z3
 have hb:Dl=.seq (.region (SQ (bg Dl [false])) #[fP (bg Dl [false]) 0] false) (.seq (.region (SQ (bg Dl [true,false])) #[fP (bg Dl [true,false]) 0,fP (bg Dl [true,false]) 1,fP (bg Dl [true,false]) 2,fP (bg Dl [true,false]) 3,fP (bg Dl [true,false]) 4,fP (bg Dl [true,false]) 5] false) .ret):=by kernel_rfl
 rw[hb]
 have d0:(fP (bg Dl [false]) 0).dst=some 3:=by kernel_rfl
 have o1:(fP (bg Dl [true,false]) 0).op=.fieldAddr 64 (.tmp 1) 1:=by kernel_rfl
 have d1:(fP (bg Dl [true,false]) 0).dst=some 4:=by kernel_rfl
 have o2:(fP (bg Dl [true,false]) 1).op=.load 38 (.tmp 4):=by kernel_rfl
 have d2:(fP (bg Dl [true,false]) 1).dst=some 5:=by kernel_rfl
 have o3:(fP (bg Dl [true,false]) 2).op=.move (.tmp 0):=by kernel_rfl
 have d3:(fP (bg Dl [true,false]) 2).dst=some 6:=by kernel_rfl
 have o4:(fP (bg Dl [true,false]) 3).op=.call {callee:=.value (.func qbG),args:=#[.tmp 5,.tmp 6],argTypes:=VK (fP (bg Dl [true,false]) 3)}:=by kernel_rfl
 have d4:(fP (bg Dl [true,false]) 3).dst=some 7:=by kernel_rfl
 have d5:(fP (bg Dl [true,false]) 4).dst=some 8:=by kernel_rfl
 have o6:(fP (bg Dl [true,false]) 5).op=.assign (.tmp 8):=by kernel_rfl
 have d6:(fP (bg Dl [true,false]) 5).dst=some 3:=by kernel_rfl
 refine wp_seq (Jo (fO (o:=fP (bg Dl [false]) 0) (by kernel_rfl) (by kernel_rfl) (v:=.bool false) (w':=W) (by kernel_rfl) ?_))
 rw[d0]
 show Code.wp Pg _ _ _ W
 refine wp_seq (Jo (fO (o:=fP (bg Dl [true,false]) 0) (by kernel_rfl) (by kernel_rfl) (v:=v4) (w':=W) ?_ ?_))
 ·have:(A0.put (some 3) (.bool false)).eval (.tmp 1)=cv:=bU (by simp only[dR];exact z2)
  simp[execOp,o1,this,hfa]
 rw[d1]
 generalize hA1:(A0.put (some 3) (.bool false)).put (some 4) v4=A1
 have y0:A1.tmps.size=9:=by rw[<-hA1];simp only[dD];exact z0
 have y1:A1.tmps[0]? =some (encStr x):=by rw[<-hA1];simp only[dR];exact z1
 have y4:A1.tmps[4]? =some v4:=by rw[<-hA1];simp only[dR,dD,z0];rfl
 have y3:A1.defers=[]:=by rw[<-hA1];simp only[bu];exact z3
 clear hA1
 refine fO (o:=fP (bg Dl [true,false]) 1) (by kernel_rfl) (by kernel_rfl) (v:=v5) (w':=W) ?_ ?_
 ·have:A1.eval (.tmp 4)=v4:=bU y4
  simp[execOp,o2,this,hld]
 rw[d2]
 refine fO (o:=fP (bg Dl [true,false]) 2) (by kernel_rfl) (by kernel_rfl) (v:=encStr x) (w':=W) ?_ ?_
 ·have:(A1.put (some 5) v5).eval (.tmp 0)=encStr x:=bU (by simp only[dR];exact y1)
  simp[execOp,o3,this]
 rw[d3]
 have e5:((A1.put (some 5) v5).put (some 6) (encStr x)).eval (.tmp 5)=v5:=bU (by simp only[dR,dD,y0];rfl)
 have e6:((A1.put (some 5) v5).put (some 6) (encStr x)).eval (.tmp 6)=encStr x:=bU (by simp only[dR,dD,y0];rfl)
 have hrun:=DD (a:=(A1.put (some 5) v5).put (some 6) (encStr x)) (w:=W) o4 call94
 rw[show(#[Operand.tmp 5,.tmp 6]:Array Operand).map ((A1.put (some 5) v5).put (some 6) (encStr x)).eval=#[v5,encStr x] by simp[e5,e6]]at hrun
 refine Kw (o:=fP (bg Dl [true,false]) 3) (by kernel_rfl) (by kernel_rfl) hrun hF ?_
 rintro e w' ⟨rfl,rfl⟩
 refine⟨_,rfl,?_⟩
 rw[d4]
 generalize hA2:((A1.put (some 5) v5).put (some 6) (encStr x)).put (some 7) (.int .i64 (Lib.idxBy (fun x y=>x==y) d.Params x))=A2
 have x0:A2.tmps.size=9:=by rw[<-hA2];simp only[dD];exact y0
 have x7:A2.tmps[7]? =some (.int .i64 (Lib.idxBy (fun x y=>x==y) d.Params x)):=by rw[<-hA2];simp only[dR,dD,y0];rfl
 have x3:A2.defers=[]:=by rw[<-hA2];simp only[bu];exact y3
 clear hA2
 have o5:(fP (bg Dl [true,false]) 4).op=.binOp .geq 3 (.tmp 7) (.const (.int .i64 0)) (qcJ (fP (bg Dl [true,false]) 4)):=by kernel_rfl
 refine fO (o:=fP (bg Dl [true,false]) 4) (by kernel_rfl) (by kernel_rfl) (v:=.bool (d.Params.any fun y=>y==x)) (w':=w') ?_ ?_
 ·have e7:A2.eval (.tmp 7)=.int .i64 (Lib.idxBy (fun x y=>x==y) d.Params x):=bU x7
  have hp:M8 Pg .geq 3 (.int .i64 (Lib.idxBy (fun x y=>x==y) d.Params x)) (.int .i64 0)=some (.bool (decide (Lib.idxBy (fun x y=>x==y) d.Params x>=0))):=rfl
  obtain⟨vb,hb1,hb2⟩:=QB (P:=Pg) (w:=w') (Γ:=Γ) (bs:=[]) (.int .i64 _) (.int .i64 0) (.tmp 7) (.const (.int .i64 0)) hp
  rw[Tj]at hb2
  have hv:vb=.bool (d.Params.any fun y=>y==x):=by cases hb2;rfl
  subst hv
  have ec:A2.eval (.const (.int .i64 0))=.int .i64 0:=rfl
  simp only[execOp,o5,Sem.run_bind,e7,ec]at hb1 ⊢
  rw[hb1];rfl
 rw[d5]
 refine fO (o:=fP (bg Dl [true,false]) 5) (by kernel_rfl) (by kernel_rfl) (v:=.bool (d.Params.any fun y=>y==x)) (w':=w') ?_ ?_
 ·have:(A2.put (some 8) (.bool (d.Params.any fun y=>y==x))).eval (.tmp 8)=.bool (d.Params.any fun y=>y==x):=bU (by simp only[dR,dD,x0];rfl)
  simp[execOp,o6,this]
 rw[d6]
 show Code.wp Pg _ _ _ w'
 refine wp_ret ⟨by simp only[bu];exact x3,.bool (d.Params.any fun y=>y==x),?_,rfl,rfl⟩
 have hg:((A2.put (some 8) (.bool (d.Params.any fun y=>y==x))).put (some 3) (.bool (d.Params.any fun y=>y==x))).tmps[3]? =some (.bool (d.Params.any fun y=>y==x)):=by simp only[dR,dD,x0];rfl
 simp[results,vas,hg]
def Ii(d:cp)(s:ae):Bool:=d.Params.any fun y=>y==s
noncomputable def qcI:Code:=f129.body.getD .skip
theorem Tk(d:cp):jy [] d=some (-1):=by
 have h:fh [] d 0 0=some (.inr ()):=by
  unfold fh
  exact Dt (by unfold gu;rfl)
 unfold jy
 rw[show(([]:List ae).length:Int)=0 from rfl,h];rfl
theorem UG(d:cp):CC Pg GE ZX [sl cS ([]:List ae),.func (.func Sq) [] [.eptr (aX d)]] (sl cS ([]:List ae)) []:=by
 have z:=cD (uj (Tk d))<|sg 0 (show((-1:Int)==-1)=true from rfl)<|en (aI (rP (sl cS ([]:List ae)))<|(aj bz ([]:List ae)))
 exact C.evp (A:=[]) mixed call129 func129 (c:=qcI) rfl (aI (aj bz ([]:List ae))<|aI (aI trivial (aI (show jl 0 (aX d)from jm d) trivial)) trivial) z (by kernel_rfl)
structure YB(Γ1 Γ3:aU)(w1 w3:World):Prop where
 wi:∀b n,Γ3 b=some n->∃c t fr,w3.heap[b]? =some (.cells c t fr)/\n<=c.size
 keep:∀b,b<w1.heap.size->w3.heap[b]? =w1.heap[b]?/\Γ3 b=Γ1 b
 os:w3.os=w1.os
 tape:w3.tape=w1.tape
 output:w3.output=w1.output
 size:w1.heap.size<=w3.heap.size
 drawn:w1.drawn<=w3.drawn
theorem XX{Γ1 Γ2:aU}{w1 w2:World}{cv v5:Value}{d:cp}{l:List ae}{ow2:Nat->Option lX}(hB1:Bo GE Γ1 w1)(hcv:VR Γ1 [] w1 (.eptr (aX d)) cv)(hps:d.Params.length<=dw)
  (h2:SR Pg (E3 GE Γ1 w1) Γ2 [] ow2 w2 #[v5] ⟨[sl cS l],[],[((0,0),eS)]⟩) (hl:l.length<=dw):
  Calls Pg ZX #[v5,.func (.func Sq) #[] #[cv]] w2 fun e w3=>∃v7 Γ3,e=.returned v7/\VR Γ3 [] w3 (sl cS (l.filter fun s=>!Ii d s)) v7/\YB Γ1 Γ3 w1 w3:=by
 have hk2:∀b,b<w1.heap.size->w2.heap[b]? =w1.heap[b]?:=fun b hb=>(h2.step.keep b hb id).1
 have hlt1:∀b n,Γ1 b=some n->b<w1.heap.size:=fun b n h=>by obtain⟨c,t,fr,q1,_⟩:=hB1.wi b n h;exact er q1
 have hempty:l=[]->VR Γ1 [] w2 (sl cS ([]:List ae)) v5->Calls Pg ZX #[v5,.func (.func Sq) #[] #[cv]] w2 fun e w3=>∃v7 Γ3,e=.returned v7/\VR Γ3 [] w3 (sl cS (l.filter fun s=>!Ii d s)) v7/\YB Γ1 Γ3 w1 w3:=by
  rintro rfl hv
  obtain⟨hB2,hle2⟩:=hB1.same hk2
  have hT:bj [] (fun _=>none)=fun _=>False:=by
   funext b
   exact propext ⟨fun h=>h.elim (fun⟨i,hi⟩=>by simp at hi) (fun hx=>hx rfl),False.elim⟩
  have hfr:=hB2.fresh (P:=Pg) (a:=#[v5,.func (.func Sq) #[] #[cv]]) 0 (tmps:=[sl cS ([]:List ae),.func (.func Sq) [] [.eptr (aX d)]]) rfl (fun t p v hp hv'=>by
   match t,hp,hv' with
   |0,hp,hv'=>simp at hp hv';subst hp;subst hv';exact hv
   | 1,hp,hv' =>
    simp at hp hv';subst hp;subst hv'
    exact .func _ _ _ _ _ rfl rfl (fun i p v hp=>by simp at hp) (fun i p v hp hv=>by
     match i,hp,hv with
     |0,hp,hv=>simp at hp hv;subst hp;subst hv;exact hcv.mono hle2 (.refl _)
     |i+1,hp,_=>simp at hp)
   |t+2,hp,_=>simp at hp)
  have hC:=(UG d).2.2 Γ1 [] (fun _=>none) w2 #[v5,.func (.func Sq) #[] #[cv]] (by rw[hT];exact hfr)
  refine hC.mono fun e w3 he=>?_
  obtain⟨v7,Γ',ow',rfl,hS⟩:=he
  rw[hT]at hS
  have hv7:VR Γ' [] w3 (sl cS ([]:List ae)) v7:=hS.tm 0 _ _ rfl rfl
  refine⟨v7,Γ1,rfl,?_,fun b n hb=>?_,fun b hb=>⟨?_,rfl⟩,hS.step.os.trans h2.step.os,hS.step.tape.trans h2.step.tape,hS.step.output.trans h2.step.output,vaB h2.step.size hS.step.size,vaB h2.step.drawn hS.step.drawn⟩
  ·rw[List.filter_nil]
   unfold sl at hv7 ⊢
   rw[vbK]at hv7 ⊢
   cases hv7 with
   |sliceNil=>exact .sliceNil
   |sliceE a cap=>exact .sliceE a cap
   |slice _ b off cap n sz vals h0 hcap hg hn hsz hc hvv=>exact .sliceE _ _
  ·obtain⟨c,t,fr,q1,q2⟩:=hB2.wi b n hb
   exact⟨c,t,fr,((hS.step.keep b (er q1) id).1).trans q1,q2⟩
  ·exact((hS.step.keep b (vaA hb h2.step.size) id).1).trans (hk2 b hb)
 obtain⟨u,v,hu,hpv,hown,hob⟩:=h2.ot 0 0 eS (by simp)
 have hvu:u=v5:=by simpa using hu.symm
 subst hvu
 have hvr:VR Γ2 [] w2 (sl cS l) u:=h2.tm 0 _ _ rfl rfl
 unfold sl at hvr
 generalize hes:l.map cS=es at hvr
 cases hvr with
 | sliceNil =>
  have hn:l=[]:=by cases l with
   |nil=>rfl
   |cons x l=>simp at hes
  exact hempty hn (by unfold sl;rw[vbK];exact .sliceNil)
 | sliceE x cap =>
  have hn:l=[]:=by cases l with
   |nil=>rfl
   |cons x l=>simp at hes
  exact hempty hn (by unfold sl;rw[vbK];exact .sliceE x cap)
 | slice _ b off cap m sz vals hz0 hcap hg hm hszs hc hvv =>
  rw[Cz]at hpv
  cases hpv
  obtain⟨k,xs,⟨hx1,hx2⟩,hx3⟩:=hown
  rcases hx2 with⟨hx2,_⟩|⟨g',cap',cur,hx2,_,hheap,hkc,hcm,hcs,htake⟩
  ·cases hx2
  ·cases hx2
   subst hes
   rw[qbF,vbT]at hcs htake
   have hlen:(l.map cS).length=l.length:=by simp
   have hcap':l.length<=cap:=by rw[<-hlen];exact hcap
   have hcs':cur.size=cap:=by omega
   have hbl:=h2.on b _ (hob b rfl)
   have hb1:w1.heap.size<=b:=hbl.2.resolve_left id
   have hcell:=N3 (Γ:=Γ2) hszs hc hvv
   have hrow:cur.toList.take l.length=l.map fun s=>Value.string ⟨s.toArray⟩:=by
    refine va2 fun i=>?_
    by_cases hi:i<l.length
    ·rw[vak hi]
     simp only[vaH,var,vaa hi,vag]
     have e1:=hcell i hi
     rw[vaI,cell_of_row w2 b i cur eS _ hheap,getElem!_pos l i hi]at e1
     rw[e1]
    ·rw[vaE (by simp;omega),vaE (by simp;omega)]
   have gives:∀(W:World) (x:ae),(∀j,j<w1.heap.size->W.heap[j]? =w1.heap[j]?)->FnGives Pg Sq #[cv] #[encStr x] (.bool (Ii d x)) W:=fun W x hW=>by
    obtain⟨hBW,hle⟩:=hB1.same hW
    refine(UN hBW (hcv.mono hle (.refl _)) hps x).mono fun e w' he=>?_
    obtain⟨rfl,rfl⟩:=he
    exact⟨rfl,0,rfl⟩
   have hcall:=AnyE.slices_DeleteFunc (P:=Pg) Tryz.df129 encStr (fun _=>rfl) (Ii d) Sq #[cv] call130 [] Tryz.zeroValue9 b 0 cap l.toArray w2
    (fun W x hb=>gives W x fun j hj=>(hb.block j (vaA hj h2.step.size)).trans (hk2 j hj))
    (fun n os dk x hdk=>gives _ x fun j hj=>by
     obtain⟨k1,_⟩:=Ir (n:=n) (os:=os) dk.toList [] hheap (by rw[Array.length_toList,hdk];simp;omega) (by simp)
     rw[Array.toArray_toList]at k1
     exact(k1 j (vaA hj h2.step.size) (by omega)).trans (hk2 j hj))
    (Qd hheap hrow) (by simp;unfold dw at hl;omega) (by simpa using hcap)
   have hsz5:l.toArray.size=l.length:=by simp
   rw[hsz5]at hcall
   rw[hlen]
   refine hcall.mono fun e w3 he=>?_
   obtain⟨rfl,q,rfl⟩:=he
   generalize hR:(l.filter fun x=>!Ii d x)=r
   have hrl:r.length<=l.length:=by rw[<-hR];exact vby _ _
   obtain⟨k1,k2,cur',k3,k4,k5⟩:=Ir (n:=q) (os:=#[]) (r++List.replicate (l.length - r.length) []) r hheap (by simp;omega) (by simp)
   rw[grow_empty]at k1 k2 k3
   refine⟨_,Γ1.put b r.length,rfl,?_,fun x n hx=>?_,fun x hx=>⟨?_,Γ1.put_other (by omega)⟩,h2.step.os,h2.step.tape,h2.step.output,vaB h2.step.size k2,vaB h2.step.drawn (vbE _ _)⟩
   ·have:=VR.slice (Γ:=Γ1.put b r.length) (bs:=[]) (w:=putRow encStr (Sort.ahead w2 q) b 0 (r++List.replicate (l.length - r.length) []).toArray) (r.map cS) b 0 cap r.length 1 (fun i _=>.string ⟨(r[i]!).toArray⟩) (by decide) (by simp;omega) (Γ1.put_same _ _) (by simp)
     (fun i x hx=>by rw[var]at hx;cases hf:r[i]? with
      |none=>rw[hf]at hx;cases hx
      |some s=>rw[hf]at hx;cases hx;rfl)
     (fun i x k q' hx hq=>by
      rw[var]at hx
      cases hf:r[i]? with
      |none=>rw[hf]at hx;cases hx
      |some s=>
       rw[hf]at hx;cases hx
       have hil:=aq hf
       have hk:k=0:=by have:=aq hq;simp[cS]at this;exact this
       subst hk
       rw[show 0+i * 1+0=i by omega,cell_of_row _ b i cur' eS _ k3]
       have h1:(cur'.toList.take r.length)[i]? =(r.map fun s=>Value.string ⟨s.toArray⟩)[i]?:=by rw[k5]
       rw[vak hil]at h1
       simp only[vaH,var]at h1
       rw[h1]
       simp[hil])
     (fun i x k q' hx hq=>by
      rw[var]at hx
      cases hf:r[i]? with
      |none=>rw[hf]at hx;cases hx
      |some s=>
       rw[hf]at hx;cases hx
       have hk:k=0:=by have:=aq hq;simp[cS]at this;exact this
       subst hk
       simp[cS]at hq;subst hq
       have:r[i]! =s:=by rw[vbY,hf];rfl
       rw[this]
       exact .str s)
    rw[vba]at this
    exact this
   ·by_cases hxb:x=b
    ·subst hxb;rw[Γ1.put_same]at hx;cases hx;exact⟨cur',eS,(0,0),k3,by omega⟩
    ·rw[Γ1.put_other hxb]at hx
     obtain⟨c,t,fr,q1,q2⟩:=hB1.wi x n hx
     have hxl:=er q1
     exact⟨c,t,fr,((k1 x (vaA hxl h2.step.size) hxb).trans (hk2 x hxl)).trans q1,q2⟩
   ·exact(k1 x (vaA hx h2.step.size) (by omega)).trans (hk2 x hx)
def tB(d:cp):Option (List ae):=(vI d.Body).bind fun l=>if(decide (l.length<=dw)&&decide (d.Params.length<=dw))=true then some (l.filter fun s=>!Ii d s)else none
abbrev qbD:Code:=bg YS [false]
abbrev HO:Code:=bg YS [true,false]
abbrev qbR(d:cp):aB:=aS 8 [(1,.eptr (aX d))] [.dead] []
theorem qa6(d:cp):aW Pg GE 0 qbD (EX .normal (qbR d)) (aS 8 [(0,.agg (aX d))] [] []):=by
 have z:=se (WN d)<|eF .normal (qbR d)
 exact qN (A:=[]) mixed z (by kernel_rfl)
theorem X0(d:cp):kV Pg 28 (.eptr ((aX d).drop 2)) []=some (.agg (ac d.Body)):=Ax d
theorem XJ:YS=.seq qbD (.seq (.region (SQ HO) #[fP HO 0,fP HO 1,fP HO 2,fP HO 3,fP HO 4,fP HO 5] false) .ret):=by kernel_rfl
theorem Ix{d:cp}{r:List ae}(h:tB d=some r):CC Pg GE qcK [.agg (aX d)] (sl cS r) []:=by
 obtain⟨l,hcl,h⟩:=ck h
 rcases aO h with⟨c1,h⟩|⟨_,h⟩
 rotate_left
 ·cases h
 obtain⟨hl,hps⟩:l.length<=dw/\d.Params.length<=dw:=by simpa using c1
 obtain rfl:=lf h
 refine⟨aI (jm d) trivial,call90,fun Γ bs ow w vs hS=>calls_of_wp func90 (c:=YS) rfl ?_⟩
 obtain rfl:bs=[]:=vao hS.bl
 obtain⟨v,rfl⟩:∃v,vs=#[v]:=vbZ.1 hS.sz
 have hB:Bo GE Γ w:=hS.base
 have hE:tC GE 0 (E3 GE Γ w):=hB.good
 have hvr:VR Γ [] w (.agg (aX d)) v:=hS.tm 0 _ _ rfl rfl
 have h0:SR Pg (E3 GE Γ w) Γ [] (fun _=>none) w (#[v]++Array.replicate 7 undef) (aS 8 [(0,.agg (aX d))] [] []):=by
  refine hB.fresh (a:=#[v]++Array.replicate 7 undef) 0 (tmps:=[.agg (aX d)]++List.replicate 7 .undef) (by simp) fun t q u hq hu=>?_
  by_cases ht:t<1
  ·rw[vac (by simpa using ht)]at hq
   rw[vaR (by simpa using ht)]at hu
   match t,ht with
   |0,_=>simp at hq hu;subst hq;subst hu;exact hvr
  ·rw[vaf (by show 1<=t;omega),vaW]at hq
   split at hq<;>cases hq
   exact .undef u
 show YS.wp Pg _ ⟨#[v]++Array.replicate 7 undef,[]⟩ w
 rw[XJ]
 refine wp_seq (wp_mono (qa6 d none (E3 GE Γ w) [] ⟨#[v]++Array.replicate 7 undef,[]⟩ w hE rfl ⟨Γ,[],_,h0,fun i hi=>absurd hi (vaK _)⟩) ?_)
 rintro e ⟨a1,ds1⟩ w1 ⟨rfl,st1,⟨Γ1,bs1,ow1,h1,_⟩,rfl,rfl⟩
 have hB1:Bo GE Γ1 w1:=h1.base
 have hz1:a1.size=8:=h1.sz
 obtain⟨cv,hcv1⟩:∃cv,a1[1]? =some cv:=⟨a1[1]'(by omega),by simp[hz1]⟩
 have hcv:VR Γ1 [] w1 (.eptr (aX d)) cv:=(h1.tm 1 _ _ rfl hcv1).clo (show jl 0 (aX d)from jm d)
 obtain⟨v3,hfa,hv3⟩:=qM (P:=Pg) hcv (As d)
 obtain⟨v4,hld,hv4⟩:=vT (P:=Pg) (hB1.fresh (P:=Pg) (a:=#[]) 0 (tmps:=[]) rfl (fun t p v hp=>by simp at hp)) hv3 (X0 d)
 have hT:bj [] (fun _=>none)=fun _=>False:=by
  funext b
  exact propext ⟨fun h=>h.elim (fun⟨i,hi⟩=>by simp at hi) (fun hx=>hx rfl),False.elim⟩
 have hfr:=hB1.fresh (P:=Pg) (a:=#[v4]) 0 (tmps:=[.agg (ac d.Body)]) rfl (fun t p v hp hv'=>by
  match t,hp,hv' with
  |0,hp,hv'=>simp at hp hv';subst hp;subst hv';exact hv4
  |t+1,hp,_=>simp at hp)
 have hC:=(Kb hcl).2.2 Γ1 [] (fun _=>none) w1 #[v4] (by rw[hT];exact hfr)
 rw[hT]at hC
 have o1:(fP HO 0).op=.fieldAddr 64 (.tmp 1) 2:=by kernel_rfl
 have d1:(fP HO 0).dst=some 3:=by kernel_rfl
 have o2:(fP HO 1).op=.load 28 (.tmp 3):=by kernel_rfl
 have d2:(fP HO 1).dst=some 4:=by kernel_rfl
 have o3:(fP HO 2).op=.call {callee:=.value (.func 29),args:=#[.tmp 4],argTypes:=VK (fP HO 2)}:=by kernel_rfl
 have d3:(fP HO 2).dst=some 5:=by kernel_rfl
 have o4:(fP HO 3).op=.makeFunc (.func Sq) #[] #[.tmp 1]:=by kernel_rfl
 have d4:(fP HO 3).dst=some 6:=by kernel_rfl
 have o5:(fP HO 4).op=.call {callee:=.value (.func ZX),args:=#[.tmp 5,.tmp 6],argTypes:=VK (fP HO 4)}:=by kernel_rfl
 have d5:(fP HO 4).dst=some 7:=by kernel_rfl
 have o6:(fP HO 5).op=.assign (.tmp 7):=by kernel_rfl
 have d6:(fP HO 5).dst=some 2:=by kernel_rfl
 refine wp_seq (Jo (fO (o:=fP HO 0) (by kernel_rfl) (by kernel_rfl) (v:=v3) (w':=w1) ?_ ?_))
 ·have:(Act.mk a1 []).eval (.tmp 1)=cv:=bU hcv1
  simp[execOp,o1,this,hfa]
 rw[d1]
 refine fO (o:=fP HO 1) (by kernel_rfl) (by kernel_rfl) (v:=v4) (w':=w1) ?_ ?_
 ·have:((Act.mk a1 []).put (some 3) v3).eval (.tmp 3)=v3:=bU (by simp only[dR,hz1];rfl)
  simp[execOp,o2,this,hld]
 rw[d2]
 generalize hA1:((Act.mk a1 []).put (some 3) v3).put (some 4) v4=A1
 have y0:A1.tmps.size=8:=by rw[<-hA1];simp only[dD];exact hz1
 have y1:A1.tmps[1]? =some cv:=by rw[<-hA1];simp only[dR];exact hcv1
 have y4:A1.tmps[4]? =some v4:=by rw[<-hA1];simp only[dR,dD,hz1];rfl
 have y3:A1.defers=[]:=by rw[<-hA1];simp only[bu]
 clear hA1
 have hrun:=DD (a:=A1) (w:=w1) o3 call29
 rw[show(#[Operand.tmp 4]:Array Operand).map A1.eval=#[v4] by simp[bU y4]]at hrun
 refine Kw (o:=fP HO 2) (by kernel_rfl) (by kernel_rfl) hrun hC ?_
 rintro e w2 ⟨v5,Γ2,ow2,rfl,h2⟩
 refine⟨_,rfl,?_⟩
 rw[d3]
 refine fO (o:=fP HO 3) (by kernel_rfl) (by kernel_rfl) (v:=.func (.func Sq) #[] #[cv]) (w':=w2) ?_ ?_
 ·have:(A1.put (some 5) v5).eval (.tmp 1)=cv:=bU (by simp only[dR];exact y1)
  simp[execOp,o4,this]
  rfl
 rw[d4]
 generalize hA2:(A1.put (some 5) v5).put (some 6) (.func (.func Sq) #[] #[cv])=A2
 have x0:A2.tmps.size=8:=by rw[<-hA2];simp only[dD];exact y0
 have x5:A2.tmps[5]? =some v5:=by rw[<-hA2];simp only[dR,dD,y0];rfl
 have x6:A2.tmps[6]? =some (.func (.func Sq) #[] #[cv]):=by rw[<-hA2];simp only[dR,dD,y0];rfl
 have x3:A2.defers=[]:=by rw[<-hA2];simp only[bu];exact y3
 clear hA2
 have hrun2:=DD (a:=A2) (w:=w2) o5 call129
 rw[show(#[Operand.tmp 5,.tmp 6]:Array Operand).map A2.eval=#[v5,.func (.func Sq) #[] #[cv]] by simp[bU x5,bU x6]]at hrun2
 refine Kw (o:=fP HO 4) (by kernel_rfl) (by kernel_rfl) hrun2 (XX hB1 hcv hps h2 hl) ?_
 rintro e w3 ⟨v7,Γ3,rfl,hv7,hW⟩
 refine⟨_,rfl,?_⟩
 rw[d5]
 refine fO (o:=fP HO 5) (by kernel_rfl) (by kernel_rfl) (v:=v7) (w':=w3) ?_ ?_
 ·have:(A2.put (some 7) v7).eval (.tmp 7)=v7:=bU (by simp only[dR,dD,x0];rfl)
  simp[execOp,o6,this]
 rw[d6]
 show Code.wp Pg _ _ _ w3
 have hlt1:∀b n,Γ1 b=some n->b<w1.heap.size:=fun b n h=>by obtain⟨c,t,fr,q1,_⟩:=hB1.wi b n h;exact er q1
 have hle:Γ1.Le w1 Γ3 w3:=fun b n hb _=>⟨n,by rw[(hW.keep b (hlt1 b n hb)).2];exact hb,vam _,fun o _=>bR (hW.keep b (hlt1 b n hb)).1 o⟩
 have hB3:Bo GE Γ3 w3:={
  wi:=hW.wi
  gl:=fun g cs hg=>(hB1.gl g cs hg).mono hle (.refl _)
  gc:=hB1.gc
  gx:=fun g cs hg=>by
   obtain⟨k1,c,t,fr,k2,k3⟩:=hB1.gx g cs hg
   have:=(hW.keep g k1).1.trans k2
   exact⟨er this,c,t,fr,this,k3⟩}
 have hF:=hB3.fresh (P:=Pg) (a:=#[v7]) 0 (tmps:=[sl cS (l.filter fun s=>!Ii d s)]) rfl (fun t p v hp hv'=>by
  match t,hp,hv' with
  |0,hp,hv'=>simp at hp hv';subst hp;subst hv';exact hv7
  |t+1,hp,_=>simp at hp)
 refine wp_ret ⟨by simp only[bu];exact x3,v7,?_,v7,Γ3,fun _=>none,rfl,{hF with
  bn:=fun i b hb=>by simp at hb
  on:=fun b L hL=>by simp at hL
  gx:=hS.gx
  step:=⟨hW.os.trans h1.step.os,hW.tape.trans h1.step.tape,hW.output.trans h1.step.output,vaB h1.step.size hW.size,vaB h1.step.drawn hW.drawn,fun b hb _=>?_,h1.step.le.trans hle⟩}⟩
 ·have hg:((A2.put (some 7) v7).put (some 2) v7).tmps[2]? =some v7:=by simp only[dR,dD,x0];rfl
  simp[results,vas,hg]
 ·have k1:=h1.step.keep b hb id
  have k3:=hW.keep b (vaA hb h1.step.size)
  exact⟨k3.1.trans k1.1,k3.2.trans k1.2⟩
noncomputable def ZP:Code:=f89.body.getD .skip
def Yk:List Nat:=[]
theorem Z89:ZF Yk 89 f89 ZP:=⟨call89,func89,rfl⟩
section
variable(t1:aE)(v:ae)(is:Bool)(t20:waA)(t21:Int)(t22:Int)(m2:(List (ae×Bool)))(v2:aE)(m:ae)(m3:waA)(m4:Int)(m5:ae)(m6:Int)(m7:waF)(m8:waE)(m9:waD)(m10:waC)(m11:Int)(m12:Bool)(m13:waA)(m14:waG)(m15:waH)(m16:waI)(m17:Int)(m18:ae)(m19:waC)(m20:waA)(m21:Int)(m22:ae)(m23:Int)(m24:waB)(m25:waB)(m26:waB)(m27:ae)(m28:waA)(m29:Int)(m30:ae)(m31:Int)(m32:waF)(m33:waE)(m34:waD)(m35:waC)(m36:Int)(m37:Bool)(m38:waA)(m39:waG)(m40:waH)(m41:waI)(m42:Int)(m43:ae)(m44:waC)(m45:waA)(m46:Int)(m47:ae)(m48:Int)(m49:waB)(m50:waB)(m51:waB)
def vJ:aB:=aS 50 [(1,.eptr (ay t1)),(2,.bptr 0 0),(3,.bptr 3 0),(8,.str v),(10,.bool is),(20,sl cS t20),(21,.int .i64 t21),(22,.int .i64 t22)] [.cells [.bptr 1 0] [],.cells [.mapr 2] [],.map (aL PVal.bool m2),.cells [.func (.func 89) [] [.eptr (ay v2),.bptr 0 0,.bptr 3 0]] [],.cells [.str m,sl cS m3,.int .i64 m4,.str m5,.int .i64 m6,sl ac m7,sl au m8,sl aA m9,sl ah m10,.int .i64 m11,.bool m12,sl cS m13,sl cW m14,sl eQ m15,sl cw m16,.int .i64 m17,.str m18,sl ah m19,sl cS m20,.int .i64 m21,.str m22,.int .i64 m23,sl al m24,sl al m25,sl al m26] [],.cells [.str m27,sl cS m28,.int .i64 m29,.str m30,.int .i64 m31,sl ac m32,sl au m33,sl aA m34,sl ah m35,.int .i64 m36,.bool m37,sl cS m38,sl cW m39,sl eQ m40,sl cw m41,.int .i64 m42,.str m43,sl ah m44,sl cS m45,.int .i64 m46,.str m47,.int .i64 m48,sl al m49,sl al m50,sl al m51] []] []
def iL(o:Bool):aB:=aS 50 [(1,.eptr (ay t1)),(2,.bptr 0 0),(3,.bptr 3 0),(8,.str v),(20,sl cS t20),(21,.int .i64 t21),(22,.int .i64 t22),(41,.bool o)] [.cells [.bptr 1 0] [],.cells [.mapr 2] [],.map (aL PVal.bool m2),.cells [.func (.func 89) [] [.eptr (ay v2),.bptr 0 0,.bptr 3 0]] [],.cells [.str m,sl cS m3,.int .i64 m4,.str m5,.int .i64 m6,sl ac m7,sl au m8,sl aA m9,sl ah m10,.int .i64 m11,.bool m12,sl cS m13,sl cW m14,sl eQ m15,sl cw m16,.int .i64 m17,.str m18,sl ah m19,sl cS m20,.int .i64 m21,.str m22,.int .i64 m23,sl al m24,sl al m25,sl al m26] [],.cells [.str m27,sl cS m28,.int .i64 m29,.str m30,.int .i64 m31,sl ac m32,sl au m33,sl aA m34,sl ah m35,.int .i64 m36,.bool m37,sl cS m38,sl cW m39,sl eQ m40,sl cw m41,.int .i64 m42,.str m43,sl ah m44,sl cS m45,.int .i64 m46,.str m47,.int .i64 m48,sl al m49,sl al m50,sl al m51] []] []
def jz:Option Bool:=
 if is=true then
  some (!((yK m2 v).getD false))
 else
  some false
theorem uo{x:Bool}(h:jz v is m2=some x):aW Pg GE 4 (cA ZP 8174) (EX .normal (iL t1 v t20 t21 t22 m2 v2 m m3 m4 m5 m6 m7 m8 m9 m10 m11 m12 m13 m14 m15 m16 m17 m18 m19 m20 m21 m22 m23 m24 m25 m26 m27 m28 m29 m30 m31 m32 m33 m34 m35 m36 m37 m38 m39 m40 m41 m42 m43 m44 m45 m46 m47 m48 m49 m50 m51 x)) (vJ t1 v is t20 t21 t22 m2 v2 m m3 m4 m5 m6 m7 m8 m9 m10 m11 m12 m13 m14 m15 m16 m17 m18 m19 m20 m21 m22 m23 m24 m25 m26 m27 m28 m29 m30 m31 m32 m33 m34 m35 m36 m37 m38 m39 m40 m41 m42 m43 m44 m45 m46 m47 m48 m49 m50 m51):=by
 rcases aO h with⟨c8,h⟩|⟨c8,h⟩
 ·obtain rfl:=lf h
  exact bv Yk (sg 2 c8<|ss<|ss<|sv (O9 (f:=PVal.bool) underlying124 underlying9 Z2 m2 v)<|eF .normal (iL t1 v t20 t21 t22 m2 v2 m m3 m4 m5 m6 m7 m8 m9 m10 m11 m12 m13 m14 m15 m16 m17 m18 m19 m20 m21 m22 m23 m24 m25 m26 m27 m28 m29 m30 m31 m32 m33 m34 m35 m36 m37 m38 m39 m40 m41 m42 m43 m44 m45 m46 m47 m48 m49 m50 m51 (!((yK m2 v).getD false))))<|by kernel_rfl
 ·obtain rfl:=lf h
  exact bv Yk (sg 2 c8<|eF .normal (iL t1 v t20 t21 t22 m2 v2 m m3 m4 m5 m6 m7 m8 m9 m10 m11 m12 m13 m14 m15 m16 m17 m18 m19 m20 m21 m22 m23 m24 m25 m26 m27 m28 m29 m30 m31 m32 m33 m34 m35 m36 m37 m38 m39 m40 m41 m42 m43 m44 m45 m46 m47 m48 m49 m50 m51 false))<|by kernel_rfl
end
section
variable(R167:gD)(t1:aE)(t20:waA)(t21:Int)(v:aE)(m:ae)(m3:waA)(m4:Int)(m5:ae)(m6:Int)(m7:waF)(m8:waE)(m9:waD)(m10:waC)(m11:Int)(m12:Bool)(m13:waA)(m14:waG)(m15:waH)(m16:waI)(m17:Int)(m18:ae)(m19:waC)(m20:waA)(m21:Int)(m22:ae)(m23:Int)(m24:waB)(m25:waB)(m26:waB)(t22:Int)(m2:(List (ae×Bool)))
def eb:aB:=aS 50 [(1,.eptr (ay t1)),(2,.bptr 0 0),(3,.bptr 3 0),(20,sl cS t20),(21,.int .i64 t21),(22,.int .i64 t22)] [.cells [.bptr 1 0] [],.cells [.mapr 2] [],.map (aL PVal.bool m2),.cells [.func (.func 89) [] [.eptr (ay v),.bptr 0 0,.bptr 3 0]] [],.cells [.str m,sl cS m3,.int .i64 m4,.str m5,.int .i64 m6,sl ac m7,sl au m8,sl aA m9,sl ah m10,.int .i64 m11,.bool m12,sl cS m13,sl cW m14,sl eQ m15,sl cw m16,.int .i64 m17,.str m18,sl ah m19,sl cS m20,.int .i64 m21,.str m22,.int .i64 m23,sl al m24,sl al m25,sl al m26] []] []
def iM(o:(List (ae×Bool))):aB:=aS 50 [] [.cells [.bptr 1 0] [],.cells [.mapr 2] [],.map (aL PVal.bool o),.cells [.func (.func 89) [] [.eptr (ay v),.bptr 0 0,.bptr 3 0]] [],.cells [.str m,sl cS m3,.int .i64 m4,.str m5,.int .i64 m6,sl ac m7,sl au m8,sl aA m9,sl ah m10,.int .i64 m11,.bool m12,sl cS m13,sl cW m14,sl eQ m15,sl cw m16,.int .i64 m17,.str m18,sl ah m19,sl cS m20,.int .i64 m21,.str m22,.int .i64 m23,sl al m24,sl al m25,sl al m26] []] []
def dm:Option ((Int×(List (ae×Bool)))⊕(((List (ae×Bool))))):=
 if(decide (t22<t21))=true then
  (eT t20 t22).bind fun x6=>
  (wO t1 x6).bind fun r7=>
  (jz x6 r7.2 m2).bind fun o9=>
  if o9=true then
   (fH ([x6]:List ae) m2).bind fun r12=>
   (R167 x6 v r12 v).bind fun r13=>
   some (.inl (bB (t22+1),r13))
  else
   some (.inl (bB (t22+1),m2))
 else
  some (.inr m2)
def jA:Option (((List (ae×Bool)))):=loop (fun(zz:Int×(List (ae×Bool)))=>dm R167 t1 t20 t21 v zz.1 zz.2) (t22,m2)
theorem tU(hR167:j0 R167){y:(Int×(List (ae×Bool)))⊕(((List (ae×Bool))))}(h:dm R167 t1 t20 t21 v t22 m2=some y):aW Pg GE 4 (cA ZP 63) (LQ (fun(zz:Int×(List (ae×Bool)))=>eb t1 t20 t21 v m m3 m4 m5 m6 m7 m8 m9 m10 m11 m12 m13 m14 m15 m16 m17 m18 m19 m20 m21 m22 m23 m24 m25 m26 zz.1 zz.2) (fun _=>.exit 0) (iM v m m3 m4 m5 m6 m7 m8 m9 m10 m11 m12 m13 m14 m15 m16 m17 m18 m19 m20 m21 m22 m23 m24 m25 m26) y) (eb t1 t20 t21 v m m3 m4 m5 m6 m7 m8 m9 m10 m11 m12 m13 m14 m15 m16 m17 m18 m19 m20 m21 m22 m23 m24 m25 m26 t22 m2):=by
 rcases aO h with⟨c5,h⟩|⟨c5,h⟩
 ·obtain⟨x6,bx6,r7,br7,o9,bo9,h⟩:=Zb3 h
  have p11:=fun{sc F} (r:PS sc F)=>sg 0 c5<|sv (bN.ia (k:=.i64) bx6)<|sv (b8 AF (.str x6) [])<|sv (eo t1)<|cD (ED br7)<|sx Pr<|sx (tQ r7.1)<|nF 0<|cT (uo t1 x6 r7.2 t20 t21 t22 m2 v m m3 m4 m5 m6 m7 m8 m9 m10 m11 m12 m13 m14 m15 m16 m17 m18 m19 m20 m21 m22 m23 m24 m25 m26 r7.1.Name r7.1.Params r7.1.Body.Op r7.1.Body.Name r7.1.Body.N r7.1.Body.Kids r7.1.Body.Params r7.1.Body.Alts r7.1.Body.Types r7.1.Mode r7.1.Typed r7.1.Sig.Vars r7.1.Sig.Needs r7.1.Sig.Abs r7.1.Sig.Bounds r7.1.Sig.Type_.Op r7.1.Sig.Type_.Name r7.1.Sig.Type_.Args r7.1.Sig.Type_.Names r7.1.Sig.Type_.Pred.Op r7.1.Sig.Type_.Pred.Name r7.1.Sig.Type_.Pred.N r7.1.Sig.Type_.Pred.Kids r7.1.Sig.Type_.Preds r7.1.Sig.Metric bo9)<|r
  rcases aO h with⟨c10,h⟩|⟨c10,h⟩
  ·obtain⟨r12,br12,r13,br13,h⟩:=Zb2 h
   obtain rfl:=lf h
   have z:=p11<|sg 0 c10<|ss<|sv (bN.mk' (v:=PVal.str) Ij ([x6]:List ae) 1 (by kernel_rfl))<|si (.cg ⟨[1,2],[.bptr 0 0,sl cS ([x6]:List ae)],[],[.cells [.mapr 2] [],.map (aL PVal.bool m2)],[.cells [.mapr 1] [],.map (aL PVal.bool m2)],[.cells [.mapr 2] [],.map (aL PVal.bool r12)],[.cells [.mapr 1] [],.map (aL PVal.bool r12)],.tuple [],.tuple [],[]⟩) (iw br12)<|sf (aI (xB [1,2] 0 1 0 rfl) (aI (xR [1,2] (sl cS ([x6]:List ae)) (aj bz ([x6]:List ae))) trivial))<|sf (aI (aI (rB (.cells [.mapr 2] [])) (aI (rW []) (aI (xM [1,2] 1 2 rfl) trivial))) (aI (aI (rB (.map (aL PVal.bool m2))) (aI (rM (aL PVal.bool m2)) (qb (n:=0) PVal.bool (fun x=>trivial) m2))) trivial))<|sf (aI (aI (rW []) (aI (xM [1,2] 1 2 rfl) trivial)) (aI (aI (rM (aL PVal.bool r12)) (qb (n:=0) PVal.bool (fun x=>trivial) r12)) trivial))<|sf (xR [1,2] (.tuple []) trivial)<|ss<|si (.cg ⟨[0,1,2,3],[.str x6,.eptr (ay v),.bptr 0 0,.bptr 3 0],[],[.cells [.bptr 1 0] [],.cells [.mapr 2] [],.map (aL PVal.bool r12),.cells [.func (.func 89) [] [.eptr (ay v),.bptr 0 0,.bptr 3 0]] []],[.cells [.bptr 1 0] [],.cells [.mapr 2] [],.map (aL PVal.bool r12),.cells [.func (.func 89) [] [.eptr (ay v),.bptr 0 0,.bptr 3 0]] []],[.cells [.bptr 1 0] [],.cells [.mapr 2] [],.map (aL PVal.bool r13),.cells [.func (.func 89) [] [.eptr (ay v),.bptr 0 0,.bptr 3 0]] []],[.cells [.bptr 1 0] [],.cells [.mapr 2] [],.map (aL PVal.bool r13),.cells [.func (.func 89) [] [.eptr (ay v),.bptr 0 0,.bptr 3 0]] []],.tuple [],.tuple [],[]⟩) (hR167 _ _ _ _ _ br13)<|sf (aI (xR [0,1,2,3] (.str x6) trivial) (aI (xR [0,1,2,3] (.eptr (ay v)) (bp v)) (aI (xB [0,1,2,3] 0 0 0 rfl) (aI (xB [0,1,2,3] 3 3 0 rfl) trivial))))<|sf (aI (aI (rB (.cells [.bptr 1 0] [])) (aI (rW []) (aI (xB [0,1,2,3] 1 1 0 rfl) trivial))) (aI (aI (rB (.cells [.mapr 2] [])) (aI (rW []) (aI (xM [0,1,2,3] 2 2 rfl) trivial))) (aI (aI (rB (.map (aL PVal.bool r12))) (aI (rM (aL PVal.bool r12)) (qb (n:=0) PVal.bool (fun x=>trivial) r12))) (aI (aI (rB (.cells [.func (.func 89) [] [.eptr (ay v),.bptr 0 0,.bptr 3 0]] [])) (aI (rW []) (aI (xF [0,1,2,3] (.func 89) [] [.eptr (ay v),.bptr 0 0,.bptr 3 0] [] [.eptr (ay v),.bptr 0 0,.bptr 3 0] trivial (aI (xR [0,1,2,3] (.eptr (ay v)) (bp v)) (aI (xB [0,1,2,3] 0 0 0 rfl) (aI (xB [0,1,2,3] 3 3 0 rfl) trivial)))) trivial))) trivial))))<|sf (aI (aI (rW []) (aI (xB [0,1,2,3] 1 1 0 rfl) trivial)) (aI (aI (rW []) (aI (xM [0,1,2,3] 2 2 rfl) trivial)) (aI (aI (rM (aL PVal.bool r13)) (qb (n:=0) PVal.bool (fun x=>trivial) r13)) (aI (aI (rW []) (aI (xF [0,1,2,3] (.func 89) [] [.eptr (ay v),.bptr 0 0,.bptr 3 0] [] [.eptr (ay v),.bptr 0 0,.bptr 3 0] trivial (aI (xR [0,1,2,3] (.eptr (ay v)) (bp v)) (aI (xB [0,1,2,3] 0 0 0 rfl) (aI (xB [0,1,2,3] 3 3 0 rfl) trivial)))) trivial)) trivial))))<|sf (xR [0,1,2,3] (.tuple []) trivial)<|tr 4 .normal (eb t1 t20 t21 v m m3 m4 m5 m6 m7 m8 m9 m10 m11 m12 m13 m14 m15 m16 m17 m18 m19 m20 m21 m22 m23 m24 m25 m26 (bB (t22+1)) r13) rfl (du (aI (a8 (bp t1)) (aI (aT rfl) (aI (aT rfl) (aI (up (aj bz t20)) (aI trivial (aI trivial trivial))))))) (aI (aI (aT rfl) trivial) (aI (aI (aT rfl) trivial) (aI (qb PVal.bool (fun x=>trivial) r13) (aI (aI (aI trivial (aI (a8 (bp v)) (aI (aT rfl) (aI (aT rfl) trivial)))) trivial) (aI (aI trivial (aI (up (aj bz m3)) (aI trivial (aI trivial (aI trivial (aI (up (aj az m7)) (aI (up (aj aZ m8)) (aI (up (aj bF m9)) (aI (up (aj aF m10)) (aI trivial (aI trivial (aI (up (aj bz m13)) (aI (up (aj wA m14)) (aI (up (aj Do m15)) (aI (up (aj vR m16)) (aI trivial (aI trivial (aI (up (aj aF m19)) (aI (up (aj bz m20)) (aI trivial (aI trivial (aI trivial (aI (up (aj aQ m24)) (aI (up (aj aQ m25)) (aI (up (aj aQ m26)) trivial))))))))))))))))))))))))) trivial)))))
   exact dy (A:=Yk) mixed z<|by kernel_rfl
  ·obtain rfl:=lf h
   have z:=p11<|sg 0 c10<|tr 4 .normal (eb t1 t20 t21 v m m3 m4 m5 m6 m7 m8 m9 m10 m11 m12 m13 m14 m15 m16 m17 m18 m19 m20 m21 m22 m23 m24 m25 m26 (bB (t22+1)) m2) rfl (du (aI (a8 (bp t1)) (aI (aT rfl) (aI (aT rfl) (aI (up (aj bz t20)) (aI trivial (aI trivial trivial))))))) (aI (aI (aT rfl) trivial) (aI (aI (aT rfl) trivial) (aI (qb PVal.bool (fun x=>trivial) m2) (aI (aI (aI trivial (aI (a8 (bp v)) (aI (aT rfl) (aI (aT rfl) trivial)))) trivial) (aI (aI trivial (aI (up (aj bz m3)) (aI trivial (aI trivial (aI trivial (aI (up (aj az m7)) (aI (up (aj aZ m8)) (aI (up (aj bF m9)) (aI (up (aj aF m10)) (aI trivial (aI trivial (aI (up (aj bz m13)) (aI (up (aj wA m14)) (aI (up (aj Do m15)) (aI (up (aj vR m16)) (aI trivial (aI trivial (aI (up (aj aF m19)) (aI (up (aj bz m20)) (aI trivial (aI trivial (aI trivial (aI (up (aj aQ m24)) (aI (up (aj aQ m25)) (aI (up (aj aQ m26)) trivial))))))))))))))))))))))))) trivial)))))
   exact dy (A:=Yk) mixed z<|by kernel_rfl
 ·obtain rfl:=lf h
  have z:=sg 0 c5<|eF (.exit 0) (iM v m m3 m4 m5 m6 m7 m8 m9 m10 m11 m12 m13 m14 m15 m16 m17 m18 m19 m20 m21 m22 m23 m24 m25 m26 m2)
  exact hU Yk (Zn rfl) z<|by kernel_rfl
theorem uq(hR167:j0 R167){x:((List (ae×Bool)))}(h:jA R167 t1 t20 t21 v t22 m2=some x):aW Pg GE 4 (.loop (cA ZP 63)) (EX (.exit 0) (iM v m m3 m4 m5 m6 m7 m8 m9 m10 m11 m12 m13 m14 m15 m16 m17 m18 m19 m20 m21 m22 m23 m24 m25 m26 x)) (eb t1 t20 t21 v m m3 m4 m5 m6 m7 m8 m9 m10 m11 m12 m13 m14 m15 m16 m17 m18 m19 m20 m21 m22 m23 m24 m25 m26 t22 m2):=
 ZL h fun _ _ hy=>tU _ _ _ _ _ _ _ _ _ _ _ _ _ _ _ _ _ _ _ _ _ _ _ _ _ _ _ _ _ _ _ _ hR167 hy
end
def gJ(R167:gD)(name:ae)(a:aE)(k2:(List (ae×Bool)))(c:aE):Option ((List (ae×Bool))):=
 (wO a name).bind fun r1=>
 if(!r1.2)=true then
  some k2
 else
  (tB r1.1).bind fun r4=>
  (jA R167 a r4 (r4.length:Int) c 0 k2).bind fun o14=>
  some o14
theorem wP(R167:gD)(hR167:j0 R167){name:ae}{a:aE}{k2:(List (ae×Bool))}{c:aE}{r:(List (ae×Bool))}(h:gJ R167 name a k2 c=some r):C Pg GE 89 [.str name,.eptr (ay a),.bptr 0 0,.bptr 3 0] [] [.cells [.bptr 1 0] [],.cells [.mapr 2] [],.map (aL PVal.bool k2),.cells [.func (.func 89) [] [.eptr (ay c),.bptr 0 0,.bptr 3 0]] []] (.tuple []) [] [.cells [.bptr 1 0] [],.cells [.mapr 2] [],.map (aL PVal.bool r),.cells [.func (.func 89) [] [.eptr (ay c),.bptr 0 0,.bptr 3 0]] []]:=by
 obtain⟨r1,br1,h⟩:=ck h
 have p3:=fun{sc F} (r:PS sc F)=>sv (eo a)<|cD (ED br1)<|sx Pr<|sx (tQ r1.1)<|r
 rcases aO h with⟨c2,h⟩|⟨c2,h⟩
 ·obtain rfl:=lf h
  have z:=p3<|sg 0 c2<|en (aI (rP (.tuple []))<|aI trivial<|aI (rL [.cells [.bptr 1 0] [],.cells [.mapr 2] [],.map (aL PVal.bool k2),.cells [.func (.func 89) [] [.eptr (ay c),.bptr 0 0,.bptr 3 0]] []])<|(aI (aI (aT (i:=1) (n:=4) rfl) trivial) (aI (aI (aT (i:=2) (n:=4) rfl) trivial) (aI (qb (n:=4) PVal.bool (fun x=>trivial) k2) (aI (aI (aI trivial (aI (a8 (n:=4) (bp c)) (aI (aT (i:=0) (n:=4) rfl) (aI (aT (i:=3) (n:=4) rfl) trivial)))) trivial) trivial)))))
  exact Z89.g (m:=4) rfl z<|by kernel_rfl
 ·obtain⟨r4,br4,o14,bo14,h⟩:=Zb2 h
  obtain rfl:=lf h
  have z:=p3<|sg 0 c2<|sv (Qr r1.1 [])<|cD (Ix br4)<|bQ (bN.ln r4)<|cT (uq R167 a r4 (r4.length:Int) c r1.1.Name r1.1.Params r1.1.Body.Op r1.1.Body.Name r1.1.Body.N r1.1.Body.Kids r1.1.Body.Params r1.1.Body.Alts r1.1.Body.Types r1.1.Mode r1.1.Typed r1.1.Sig.Vars r1.1.Sig.Needs r1.1.Sig.Abs r1.1.Sig.Bounds r1.1.Sig.Type_.Op r1.1.Sig.Type_.Name r1.1.Sig.Type_.Args r1.1.Sig.Type_.Names r1.1.Sig.Type_.Pred.Op r1.1.Sig.Type_.Pred.Name r1.1.Sig.Type_.Pred.N r1.1.Sig.Type_.Pred.Kids r1.1.Sig.Type_.Preds r1.1.Sig.Metric 0 k2 hR167 bo14)<|en (aI (rP (.tuple []))<|aI trivial<|aI (rL [.cells [.bptr 1 0] [],.cells [.mapr 2] [],.map (aL PVal.bool o14),.cells [.func (.func 89) [] [.eptr (ay c),.bptr 0 0,.bptr 3 0]] []])<|(aI (aI (aT (i:=1) (n:=4) rfl) trivial) (aI (aI (aT (i:=2) (n:=4) rfl) trivial) (aI (qb (n:=4) PVal.bool (fun x=>trivial) o14) (aI (aI (aI trivial (aI (a8 (n:=4) (bp c)) (aI (aT (i:=0) (n:=4) rfl) (aI (aT (i:=3) (n:=4) rfl) trivial)))) trivial) trivial)))))
  exact Z89.g (m:=4) rfl z<|by kernel_rfl
def kb:((ae×aE×(List (ae×Bool))×aE)->Option ((List (ae×Bool))))->(ae×aE×(List (ae×Bool))×aE)->Option ((List (ae×Bool))):=fun(rec:(ae×aE×(List (ae×Bool))×aE)->Option ((List (ae×Bool)))) (x:ae×aE×(List (ae×Bool))×aE)=>gJ (fun name a k2 c=>rec (name,a,k2,c)) x.1 x.2.1 x.2.2.1 x.2.2.2
def lw(name:ae)(a:aE)(k2:(List (ae×Bool)))(c:aE):Option ((List (ae×Bool))):=rE kb (name,a,k2,c)
theorem xl{name:ae}{a:aE}{k2:(List (ae×Bool))}{c:aE}{r:(List (ae×Bool))}(h:lw name a k2 c=some r):C Pg GE 89 [.str name,.eptr (ay a),.bptr 0 0,.bptr 3 0] [] [.cells [.bptr 1 0] [],.cells [.mapr 2] [],.map (aL PVal.bool k2),.cells [.func (.func 89) [] [.eptr (ay c),.bptr 0 0,.bptr 3 0]] []] (.tuple []) [] [.cells [.bptr 1 0] [],.cells [.mapr 2] [],.map (aL PVal.bool r),.cells [.func (.func 89) [] [.eptr (ay c),.bptr 0 0,.bptr 3 0]] []]:=
 ek (F:=kb) (M:=fun(x:ae×aE×(List (ae×Bool))×aE) (r:(List (ae×Bool)))=>C Pg GE 89 [.str x.1,.eptr (ay x.2.1),.bptr 0 0,.bptr 3 0] [] [.cells [.bptr 1 0] [],.cells [.mapr 2] [],.map (aL PVal.bool x.2.2.1),.cells [.func (.func 89) [] [.eptr (ay x.2.2.2),.bptr 0 0,.bptr 3 0]] []] (.tuple []) [] [.cells [.bptr 1 0] [],.cells [.mapr 2] [],.map (aL PVal.bool r),.cells [.func (.func 89) [] [.eptr (ay x.2.2.2),.bptr 0 0,.bptr 3 0]] []]) (fun rec hrec x r h=>wP _ (fun name a k2 c r h=>hrec (name,a,k2,c) r h) h) h
noncomputable def qcq:Code:=f39.body.getD .skip
def qb0:List Nat:=[]
theorem Z39:ZF qb0 39 f39 qcq:=⟨call39,func39,rfl⟩
def nG(m:aE)(name:ae):Option waA:=
 (mj ([]:List ae)).bind fun r1=>
 (lw name m r1 m).bind fun r2=>
 (sL r2).bind fun r3=>
 some r3
theorem ur{m:aE}{name:ae}{r:waA}(h:nG m name=some r):CC Pg GE 39 [.agg (ay m),.str name] (sl cS r) [(0,9)]:=by
 obtain⟨r1,br1,r2,br2,r3,br3,h⟩:=Zb3 h
 obtain rfl:=lf h
 have z:=se (gr m)<|si (.cn ⟨[2,3],[],[],[],[],[.map (aL PVal.bool r1),.cells [.mapr 2] []],[.map (aL PVal.bool r1),.cells [.mapr 0] []],.bptr 3 0,.bptr 1 0,[]⟩) (sQ br1)<|sf (aI (aj bz ([]:List ae)) trivial)<|sf (aI (aI (rM (aL PVal.bool r1)) (qb (n:=0) PVal.bool (fun x=>trivial) r1)) (aI (aI (rW []) (aI (xM [2,3] 0 2 rfl) trivial)) trivial))<|sf (xB [2,3] 1 3 0 rfl)<|sx Xb<|ss<|sx Zv<|ss<|ss<|si (.cg ⟨[1,3,2,4],[.str name,.eptr (ay m),.bptr 0 0,.bptr 3 0],[],[.cells [.bptr 3 0] [],.cells [.mapr 2] [],.map (aL PVal.bool r1),.cells [.func (.func 89) [] [.eptr (ay m),.bptr 1 0,.bptr 4 0]] []],[.cells [.bptr 1 0] [],.cells [.mapr 2] [],.map (aL PVal.bool r1),.cells [.func (.func 89) [] [.eptr (ay m),.bptr 0 0,.bptr 3 0]] []],[.cells [.bptr 3 0] [],.cells [.mapr 2] [],.map (aL PVal.bool r2),.cells [.func (.func 89) [] [.eptr (ay m),.bptr 1 0,.bptr 4 0]] []],[.cells [.bptr 1 0] [],.cells [.mapr 2] [],.map (aL PVal.bool r2),.cells [.func (.func 89) [] [.eptr (ay m),.bptr 0 0,.bptr 3 0]] []],.tuple [],.tuple [],[]⟩) (xl br2)<|sf (aI (xR [1,3,2,4] (.str name) trivial) (aI (xR [1,3,2,4] (.eptr (ay m)) (bp m)) (aI (xB [1,3,2,4] 0 1 0 rfl) (aI (xB [1,3,2,4] 3 4 0 rfl) trivial))))<|sf (aI (aI (rB (.cells [.bptr 3 0] [])) (aI (rW []) (aI (xB [1,3,2,4] 1 3 0 rfl) trivial))) (aI (aI (rB (.cells [.mapr 2] [])) (aI (rW []) (aI (xM [1,3,2,4] 2 2 rfl) trivial))) (aI (aI (rB (.map (aL PVal.bool r1))) (aI (rM (aL PVal.bool r1)) (qb (n:=0) PVal.bool (fun x=>trivial) r1))) (aI (aI (rB (.cells [.func (.func 89) [] [.eptr (ay m),.bptr 1 0,.bptr 4 0]] [])) (aI (rW []) (aI (xF [1,3,2,4] (.func 89) [] [.eptr (ay m),.bptr 1 0,.bptr 4 0] [] [.eptr (ay m),.bptr 0 0,.bptr 3 0] trivial (aI (xR [1,3,2,4] (.eptr (ay m)) (bp m)) (aI (xB [1,3,2,4] 0 1 0 rfl) (aI (xB [1,3,2,4] 3 4 0 rfl) trivial)))) trivial))) trivial))))<|sf (aI (aI (rW []) (aI (xB [1,3,2,4] 1 3 0 rfl) trivial)) (aI (aI (rW []) (aI (xM [1,3,2,4] 2 2 rfl) trivial)) (aI (aI (rM (aL PVal.bool r2)) (qb (n:=0) PVal.bool (fun x=>trivial) r2)) (aI (aI (rW []) (aI (xF [1,3,2,4] (.func 89) [] [.eptr (ay m),.bptr 1 0,.bptr 4 0] [] [.eptr (ay m),.bptr 0 0,.bptr 3 0] trivial (aI (xR [1,3,2,4] (.eptr (ay m)) (bp m)) (aI (xB [1,3,2,4] 0 1 0 rfl) (aI (xB [1,3,2,4] 3 4 0 rfl) trivial)))) trivial)) trivial))))<|sf (xR [1,3,2,4] (.tuple []) trivial)<|ss<|si (.cg ⟨[3,2],[.bptr 0 0],[],[.cells [.mapr 2] [],.map (aL PVal.bool r2)],[.cells [.mapr 1] [],.map (aL PVal.bool r2)],[.cells [.mapr 2] [],.map (aL PVal.bool r2)],[.cells [.mapr 1] [],.map (aL PVal.bool r2)],sl cS r3,sl cS r3,[(0,9)]⟩) (yP br3)<|sf (aI (xB [3,2] 0 3 0 rfl) trivial)<|sf (aI (aI (rB (.cells [.mapr 2] [])) (aI (rW []) (aI (xM [3,2] 1 2 rfl) trivial))) (aI (aI (rB (.map (aL PVal.bool r2))) (aI (rM (aL PVal.bool r2)) (qb (n:=0) PVal.bool (fun x=>trivial) r2))) trivial))<|sf (aI (aI (rW []) (aI (xM [3,2] 1 2 rfl) trivial)) (aI (aI (rM (aL PVal.bool r2)) (qb (n:=0) PVal.bool (fun x=>trivial) r2)) trivial))<|sf (xR [3,2] (sl cS r3) (aj bz r3))<|en (aI (rP (sl cS r3))<|(aj bz r3))
 exact Z39.v (aI (bp m) (aI trivial trivial)) z<|by kernel_rfl
noncomputable def qaX:Code:=f91.body.getD .skip
def ZN:List Nat:=[]
theorem Z91:ZF ZN 91 f91 qaX:=⟨call91,func91,rfl⟩
section
variable(t5:waJ)(t6:Int)(t7:Int)(m:Int)
def jb:aB:=aS 20 [(1,.bptr 0 0),(5,sl aX t5),(6,.int .i64 t6),(7,.int .i64 t7)] [.cells [.int .i64 m] []] []
def pJ(o:Int):aB:=aS 20 [] [.cells [.int .i64 o] []] []
def jc:Option ((Int×Int)⊕(Int)):=
 if(decide (t7<t6))=true then
  (eT t5 t7).bind fun x2=>
  if(x2.Mode !=1)=true then
   (lu x2.Body).bind fun r5=>
   some (.inl (bB (t7+1),bB (m+r5)))
  else
   some (.inl (bB (t7+1),m))
 else
  some (.inr m)
def sN:Option Int:=loop (fun(zz:Int×Int)=>jc t5 t6 zz.1 zz.2) (t7,m)
theorem CS{y:(Int×Int)⊕(Int)}(h:jc t5 t6 t7 m=some y):aW Pg GE 1 (cA qaX 15) (LQ (fun(zz:Int×Int)=>jb t5 t6 zz.1 zz.2) (fun _=>.exit 0) pJ y) (jb t5 t6 t7 m):=by
 rcases aO h with⟨c1,h⟩|⟨c1,h⟩
 ·obtain⟨x2,bx2,h⟩:=ck h
  have p4:=fun{sc F} (r:PS sc F)=>sg 0 c1<|sv (rF.ia (k:=.i64) bx2)<|sv (O5 x2)<|sx Pr<|sx (tQ x2)<|ss<|r
  rcases aO h with⟨c3,h⟩|⟨c3,h⟩
  ·obtain⟨r5,br5,h⟩:=ck h
   obtain rfl:=lf h
   have z:=p4<|sg 0 c3<|G0 [0,0,2,6,15,31]<|ss<|sv (bW x2.Body [.int .i64 x2.Mode,.bool x2.Typed,sl cS x2.Sig.Vars,sl cW x2.Sig.Needs,sl eQ x2.Sig.Abs,sl cw x2.Sig.Bounds,.int .i64 x2.Sig.Type_.Op,.str x2.Sig.Type_.Name,sl ah x2.Sig.Type_.Args,sl cS x2.Sig.Type_.Names,.int .i64 x2.Sig.Type_.Pred.Op,.str x2.Sig.Type_.Pred.Name,.int .i64 x2.Sig.Type_.Pred.N,sl al x2.Sig.Type_.Pred.Kids,sl al x2.Sig.Type_.Preds,sl al x2.Sig.Metric])<|cD (um br5)<|qbQ (rfl:ct (.int .i64 (bB (m+r5)))=some [.int .i64 (bB (m+r5))])<|tr 1 .normal (jb t5 t6 (bB (t7+1)) (bB (m+r5))) rfl (du (aI (aT rfl) (aI (up (aj jm t5)) (aI trivial (aI trivial trivial))))) (aI (aI trivial trivial) trivial)
   exact dy (A:=ZN) mixed z<|by kernel_rfl
  ·obtain rfl:=lf h
   have z:=p4<|sg 0 c3<|tr 1 .normal (jb t5 t6 (bB (t7+1)) m) rfl (du (aI (aT rfl) (aI (up (aj jm t5)) (aI trivial (aI trivial trivial))))) (aI (aI trivial trivial) trivial)
   exact dy (A:=ZN) mixed z<|by kernel_rfl
 ·obtain rfl:=lf h
  have z:=sg 0 c1<|eF (.exit 0) (pJ m)
  exact hU ZN (Zn rfl) z<|by kernel_rfl
theorem DW{x:Int}(h:sN t5 t6 t7 m=some x):aW Pg GE 1 (.loop (cA qaX 15)) (EX (.exit 0) (pJ x)) (jb t5 t6 t7 m):=
 ZL h fun _ _ hy=>CS _ _ _ _ hy
end
def mi(a:waJ)(k0:Int):Option Int:=
 (sN a (a.length:Int) 0 k0).bind fun o6=>
 some o6
theorem zw{a:waJ}{k0:Int}{r:Int}(h:mi a k0=some r):C Pg GE 91 [sl aX a,.bptr 0 0] [] [.cells [.int .i64 k0] []] (.tuple []) [] [.cells [.int .i64 r] []]:=by
 obtain⟨o6,bo6,h⟩:=ck h
 obtain rfl:=lf h
 have z:=bQ (rF.ln a)<|cT (DW a (a.length:Int) 0 k0 bo6)<|en (aI (rP (.tuple []))<|aI trivial<|aI (rL [.cells [.int .i64 o6] []])<|(aI (aI trivial trivial) trivial))
 exact Z91.g (m:=1) rfl z<|by kernel_rfl
noncomputable def qaQ:Code:=f41.body.getD .skip
def qam:List Nat:=[]
theorem Z41:ZF qam 41 f41 qaQ:=⟨call41,func41,rfl⟩
section
variable(t13:(List iy))(t14:Int)(t15:Int)(m:Int)
def nH:aB:=aS 25 [(3,.bptr 1 0),(4,.func (.func 91) [] [.bptr 1 0]),(13,sl cC t13),(14,.int .i64 t14),(15,.int .i64 t15)] [.dead,.cells [.int .i64 m] []] []
def sO(o:Int):aB:=aS 25 [(3,.bptr 1 0)] [.dead,.cells [.int .i64 o] []] []
def kK:Option ((Int×Int)⊕(Int)):=
 if(decide (t15<t14))=true then
  (eT t13 t15).bind fun x3=>
  (mi x3.Defs m).bind fun r4=>
  some (.inl (bB (t15+1),r4))
 else
  some (.inr m)
def wR:Option Int:=loop (fun(zz:Int×Int)=>kK t13 t14 zz.1 zz.2) (t15,m)
theorem Fx{y:(Int×Int)⊕(Int)}(h:kK t13 t14 t15 m=some y):aW Pg GE 0 (cA qaQ 503) (LQ (fun(zz:Int×Int)=>nH t13 t14 zz.1 zz.2) (fun _=>.exit 0) sO y) (nH t13 t14 t15 m):=by
 rcases aO h with⟨c2,h⟩|⟨c2,h⟩
 ·obtain⟨x3,bx3,r4,br4,h⟩:=Zb2 h
  obtain rfl:=lf h
  have z:=sg 0 c2<|sv (QX.ia (k:=.i64) bx3)<|sv (O6 x3)<|sx Zu<|sx (M9 x3)<|ss<|si (.cg ⟨[1],[sl aX x3.Defs,.bptr 0 0],[],[.cells [.int .i64 m] []],[.cells [.int .i64 m] []],[.cells [.int .i64 r4] []],[.cells [.int .i64 r4] []],.tuple [],.tuple [],[]⟩) (zw br4)<|sf (aI (xR [1] (sl aX x3.Defs) (aj jm x3.Defs)) (aI (xB [1] 0 1 0 rfl) trivial))<|sf (aI (aI (rB (.cells [.int .i64 m] [])) (aI (rW []) (aI (xR [1] (.int .i64 m) trivial) trivial))) trivial)<|sf (aI (aI (rW []) (aI (xR [1] (.int .i64 r4) trivial) trivial)) trivial)<|sf (xR [1] (.tuple []) trivial)<|tr 0 .normal (nH t13 t14 (bB (t15+1)) r4) rfl (du (aI (aT rfl) (aI (aI trivial (aI (aT rfl) trivial)) (aI (up (aj Am t13)) (aI trivial (aI trivial trivial)))))) (aI trivial (aI (aI trivial trivial) trivial))
  exact dy (A:=qam) mixed z<|by kernel_rfl
 ·obtain rfl:=lf h
  have z:=sg 0 c2<|eF (.exit 0) (sO m)
  exact hU qam (Zn rfl) z<|by kernel_rfl
theorem G9{x:Int}(h:wR t13 t14 t15 m=some x):aW Pg GE 0 (.loop (cA qaQ 503)) (EX (.exit 0) (sO x)) (nH t13 t14 t15 m):=
 ZL h fun _ _ hy=>Fx _ _ _ _ hy
end
def yh(m:aE):Option Int:=
 (mi m.Defs 0).bind fun r1=>
 (wR m.Instances (m.Instances.length:Int) 0 r1).bind fun o5=>
 some o5
theorem Mi{m:aE}{r:Int}(h:yh m=some r):CC Pg GE 41 [.agg (ay m)] (.int .i64 r) []:=by
 obtain⟨r1,br1,o5,bo5,h⟩:=Zb2 h
 obtain rfl:=lf h
 have z:=se (gr m)<|sx qbM<|ss<|sv (dO m)<|sv (dP m)<|si (.cg ⟨[1],[sl aX m.Defs,.bptr 0 0],[],[.cells [.int .i64 0] []],[.cells [.int .i64 0] []],[.cells [.int .i64 r1] []],[.cells [.int .i64 r1] []],.tuple [],.tuple [],[]⟩) (zw br1)<|sf (aI (xR [1] (sl aX m.Defs) (aj jm m.Defs)) (aI (xB [1] 0 1 0 rfl) trivial))<|sf (aI (aI (rB (.cells [.int .i64 0] [])) (aI (rW []) (aI (xR [1] (.int .i64 0) trivial) trivial))) trivial)<|sf (aI (aI (rW []) (aI (xR [1] (.int .i64 r1) trivial) trivial)) trivial)<|sf (xR [1] (.tuple []) trivial)<|sv (iA m)<|sv (iB m)<|bQ (QX.ln m.Instances)<|cT (G9 m.Instances (m.Instances.length:Int) 0 r1 bo5)<|ss<|en (aI (rP (.int .i64 o5))<|trivial)
 exact Z41.v (aI (bp m) trivial) z<|by kernel_rfl
noncomputable def Yl:Code:=f42.body.getD .skip
def Xl:List Nat:=[18,46]
theorem Z42:ZF Xl 42 f42 Yl:=⟨call42,func42,rfl⟩
section
variable(m:aE)(v:waJ)(i:Int)
def th:aB:=aS 47 [(1,.eptr (ay m)),(3,.int .i64 0),(4,sl aX v),(5,.int .i64 i)] [.dead] [((4,0),64)]
def yA(o:waJ):aB:=aS 47 [(3,.int .i64 0),(4,sl aX o)] [.dead] [((4,0),64)]
def mg:Option ((waJ×Int)⊕(waJ)):=
 if(decide (i<(m.Instances.length:Int)))=true then
  (eT m.Instances i).bind fun x4=>
  (app v x4.Defs).bind fun l5=>
  some (.inl (l5,bB (i+1)))
 else
  some (.inr v)
def BW:Option waJ:=loop (fun(zz:waJ×Int)=>mg m zz.1 zz.2) (v,i)
theorem JC{y:(waJ×Int)⊕(waJ)}(h:mg m v i=some y):aW Pg GE 0 (cA Yl 247) (LQ (fun(zz:waJ×Int)=>th m zz.1 zz.2) (fun _=>.exit 0) yA y) (th m v i):=by
 have p3:=fun{sc F} (r:PS sc F)=>sv (iA m)<|sv (iB m)<|bQ (QX.ln m.Instances)<|r
 rcases aO h with⟨c2,h⟩|⟨c2,h⟩
 ·obtain⟨x4,bx4,l5,bl5,h⟩:=Zb2 h
  obtain rfl:=lf h
  exact wJ Xl (p3<|sg 0 c2<|sv (iA m)<|sv (iB m)<|sv (QX.ia (k:=.i64) bx4)<|sv (pD x4)<|sv (pG x4)<|sv (rF.ap bl5)<|eF .normal (th m l5 (bB (i+1))))<|by kernel_rfl
 ·obtain rfl:=lf h
  have z:=p3<|sg 0 c2<|eF (.exit 0) (yA v)
  exact hU Xl (Zn rfl) z<|by kernel_rfl
theorem K2{x:waJ}(h:BW m v i=some x):aW Pg GE 0 (.loop (cA Yl 247)) (EX (.exit 0) (yA x)) (th m v i):=
 ZL h fun _ _ hy=>JC _ _ _ hy
end
section
variable(n:Int)(v:waJ)(i:Int)
def MI:aB:=aS 47 [(3,.int .i64 n),(4,sl aX v),(6,.int .i64 i)] [.dead] [((4,0),64)]
def yz(o:Int):aB:=aS 47 [(3,.int .i64 o),(4,sl aX v),(6,.int .i64 i)] [.dead] [((4,0),64)]
def tD:Option Int:=
 (eT v i).bind fun x8=>
 if(x8.Mode !=1)=true then
  (eT v i).bind fun x11=>
  (Hz x11.Body).bind fun r12=>
  some (bB (n+r12))
 else
  some n
theorem K1{x:Int}(h:tD n v i=some x):aW Pg GE 0 (cA Yl 2014) (EX .normal (yz v i x)) (MI n v i):=by
 obtain⟨x8,bx8,h⟩:=ck h
 have p10:=fun{sc F} (r:PS sc F)=>sv (rF.ia (k:=.i64) bx8)<|sv (OO x8)<|sv (O4 x8)<|r
 rcases aO h with⟨c9,h⟩|⟨c9,h⟩
 ·obtain⟨x11,bx11,r12,br12,h⟩:=Zb2 h
  obtain rfl:=lf h
  exact bv Xl (p10<|sg 0 c9<|sv (rF.ia (k:=.i64) bx11)<|sv (As x11)<|sv (Ax x11)<|cD (Oh br12)<|eF .normal (yz v i (bB (n+r12))))<|by kernel_rfl
 ·obtain rfl:=lf h
  exact bv Xl (p10<|sg 0 c9<|eF .normal (yz v i n))<|by kernel_rfl
end
section
variable(v:waJ)(n:Int)(i:Int)
def ti:aB:=aS 47 [(3,.int .i64 n),(4,sl aX v),(6,.int .i64 i)] [.dead] [((4,0),64)]
def yB(o:Int):aB:=aS 47 [(3,.int .i64 o)] [.dead] []
def oB:Option ((Int×Int)⊕(Int)):=
 if(decide (i<(v.length:Int)))=true then
  (tD n v i).bind fun o13=>
  some (.inl (o13,bB (i+1)))
 else
  some (.inr n)
def BX:Option Int:=loop (fun(zz:Int×Int)=>oB v zz.1 zz.2) (n,i)
theorem JE{y:(Int×Int)⊕(Int)}(h:oB v n i=some y):aW Pg GE 0 (cA Yl 503) (LQ (fun(zz:Int×Int)=>ti v zz.1 zz.2) (fun _=>.exit 2) yB y) (ti v n i):=by
 rcases aO h with⟨c7,h⟩|⟨c7,h⟩
 ·obtain⟨o13,bo13,h⟩:=ck h
  obtain rfl:=lf h
  exact wJ Xl (bQ (rF.ln v)<|sg 0 c7<|nF 0<|cT (K1 n v i bo13)<|eF .normal (ti v o13 (bB (i+1))))<|by kernel_rfl
 ·obtain rfl:=lf h
  have z:=bQ (rF.ln v)<|sg 0 c7<|eF (.exit 2) (yB n)
  exact hU Xl (Zn rfl) z<|by kernel_rfl
theorem K3{x:Int}(h:BX v n i=some x):aW Pg GE 0 (.loop (cA Yl 503)) (EX (.exit 2) (yB x)) (ti v n i):=
 ZL h fun _ _ hy=>JE _ _ _ hy
end
def BV(m:aE):Option Int:=
 (app ([]:List cp) m.Defs).bind fun l1=>
 (BW m l1 0).bind fun o6=>
 (BX o6 0 0).bind fun o14=>
 some o14
theorem PJ{m:aE}{r:Int}(h:BV m=some r):CC Pg GE 42 [.agg (ay m)] (.int .i64 r) []:=by
 obtain⟨l1,bl1,o6,bo6,o14,bo14,h⟩:=Zb3 h
 obtain rfl:=lf h
 have z:=se (gr m)<|sv (rF.mk' (v:=Ms) GN ([]:List cp) 0 (by kernel_rfl))<|sv (dO m)<|sv (dP m)<|sv (rF.ap bl1)<|cT (K2 m l1 0 bo6)<|cT (K3 o6 0 0 bo14)<|en (aI (rP (.int .i64 o14))<|trivial)
 exact Z42.v (aI (bp m) trivial) z<|by kernel_rfl
end Go.Proofs.YtkdahfeiedaahaaGreatDoor
