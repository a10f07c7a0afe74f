/- PROVED: a part of the proof. Conditions: none. -/
import Derived.Test.YtankopenjcbeeaaGreatDoorPkO18
import Derived.Test.YtankopenjcbeeaaGreatDoorPkO12
import Derived.Shelf.SlicesE.DeleteFunc
import Derived.Shelf.SlicesE.Index
set_option linter.unusedSimpArgs false set_option linter.defProp false
set_option linter.unusedVariables false
noncomputable section
namespace Go.Proofs.YtankopenjcbeeaaGreatDoor
open Go Go.Sort Go.Proofs.Tryz
open Option renaming some→O,none→N
open Go renaming TypeId→G,Value→D,Program→I,Oper→M,World→J,Code→W
open Bool renaming true→T,false→Z
open Decidable renaming decide→Y
open YtankopenjcbeeaaGreatDoor renaming PVal→U
set_option maxRecDepth 100000
abbrev qww:Nat:=61
abbrev qeM:Nat:=82
abbrev qoW:Nat:=31
abbrev qvq:Nat:=83
noncomputable def qp6:W:=f61.body.getD .skip
noncomputable def LY:W:=f82.body.getD .skip
noncomputable def TK:W:=f83.body.getD .skip
def Qq{P:I}{a:Act}{w:J}{t:Exit->Act->J->Prop}{b:Array M}{L:V Nat}{i:Nat}{o:M}{f:FuncId}{m:Array D}{R:Ending->J->Prop}(r:b[i]? =O o)(q:o.guard=N)(c:(execOp a.eval o).run P w=.ok (.enter f m) w)
  (p:Calls P f m w R) (h:∀e d,R e d->∃v,e=.returned v/\wpOps P b t L (a.put o.dst v) d):wpOps P b t (i::L) a w:=by
 rw[wpOps_cons]
 unfold wpOp
 rw[r]
 simp only
 rw[l7 (by simp[Region.wanted,q])]
 refine .inl ?_
 unfold Oper.wp
 rw[c,Oper.upon_enter]
 refine p.mono λe d s=>?_
 grind
def qvi(o:M):G:=match o.op with|.binOp _ _ _ _ s=>s|_=>0
def G2{P:I}{a:Act}{w:J}{o:M}{f:FuncId}{args:Array Operand}{b:Array G}(e:o.op=.call {callee:=.value (.func f),args:=args,argTypes:=b})(d:∀c w,(callFunc f c).run P w=.ok (.enter f c) w):(execOp a.eval o).run P w=.ok (.enter f (args.map a.eval)) w:=by simp only[execOp,e];simp[resolve,Act.eval,Deferred.ofValue,invoke,d]
def SC{Γ:aS}{w:J}{l:V aa}{b c:Nat}{a:Nat->Nat->D}{sz:Nat}(t:∀(i:Nat) e,(l.map cS)[i]? =O e->e.length=sz)
  (r:∀(i:Nat) e (k:Nat) p,(l.map cS)[i]? =O e->e[k]? =O p->w.cell? ⟨b,c+i * sz+k,N⟩=O (a i k))
  (x:∀(i:Nat) e (k:Nat) p,(l.map cS)[i]? =O e->e[k]? =O p->VR Γ [] w p (a i k)):∀j,j<l.length->w.cell? ⟨b,c+j,N⟩=O (encStr l[j]!):=λj s=>by
 have o:(l.map cS)[j]? =O (cS l[j]):=by grind
 have d:sz=1:=by grind [cS]
 subst d
 have h:=r j _ 0 (.str l[j]) o rfl
 have m:=x j _ 0 (.str l[j]) o rfl
 rw[show c+j * 1+0=c+j by omega]at h
 rw[h,getElem!_pos l j s]
 generalize a j 0=q at m
 cases m
 rfl
def qdl(d:G):EqlAt Pg d encStr (λx y=>x==y):=⟨λx y w=>by
 have:=(EqlAt.string Pg d).1 ⟨x.toArray⟩ ⟨y.toArray⟩ w;simp_all,λc a b x y w=>(EqlAt.string Pg d).2 c a b ⟨x.toArray⟩ ⟨y.toArray⟩ w⟩
def qgc(l:V aa)(x:aa):Y (Lib.idxBy (λx y=>x==y) l x>=0)=l.any λy=>y==x:=by have:=Lib.idxBy_nonneg_iff (λx y=>x==y) l x;grind
def qdq{Γ:aS}{W:J}{v:D}{d:V aa}{x:aa}(t:VR Γ [] W (sl cS d) v)(hl:d.length<=bO):Calls Pg qvq #[v,encStr x] W λe w'=>e=.returned (.int .i64 (Lib.idxBy (λx y=>x==y) d x))/\w'=W:=by
 have r:Calls Pg 90 #[v,encStr x] W λe w'=>e=.returned (.int .i64 (Lib.idxBy (λx y=>x==y) d x))/\w'=W:=by
  unfold sl at t;generalize s:d.map cS=es at t;cases t with
  |sliceNil=>
   have p:d=[]:=by simp_all
   subst p;exact AnyE.slices_Index_empty Tryz.ix90 N 0 _ W
  |sliceE a cap=>
   have p:d=[]:=by simp_all
   subst p;exact AnyE.slices_Index_empty Tryz.ix90 (O a) cap _ W
  |slice _ b off cap n sz vals h0 hcap A p hsz hc hvv=>subst s;have h:=AnyE.slices_Index Tryz.ix90 encStr (λx y=>x==y) (qdl _) b off (d.map cS).length cap d x W (by simp) (by grind [List.length_map,bO]) (SC (Γ:=Γ) hsz hc hvv);rw[show d.take (d.map cS).length=d from vb8 (by simp)]at h;exact h
 refine calls_of_wp func83 (c:=TK) rfl ?_;have p:f83.ntmps=8:=by rfl
 refine(λ(z:∀i:Act,i.tmps.size=8->i.tmps[0]? =O v->i.tmps[1]? =O (encStr x)->i.defers=[]->TK.wp Pg _ i W)=>z _ ?_ ?_ ?_ rfl) ?_;.rfl
 .rfl
 .rfl
 intro i q z1 z2 z3;have P:TK=.seq (.region (Rd (aE TK [Z])) #[dv (aE TK [Z]) 0] Z) (.seq (.region (Rd (aE TK [T,Z])) #[dv (aE TK [T,Z]) 0,dv (aE TK [T,Z]) 1,dv (aE TK [T,Z]) 2,dv (aE TK [T,Z]) 3] Z) .ret):=by rfl
 rw[P];have B:(dv (aE TK [Z]) 0).dst=O 4:=by rfl
 have R:(dv (aE TK [T,Z]) 0).op=.move (.tmp 0):=by rfl
 have E:(dv (aE TK [T,Z]) 0).dst=O 5:=by rfl
 have S:(dv (aE TK [T,Z]) 1).op=.move (.tmp 1):=by rfl
 have F:(dv (aE TK [T,Z]) 1).dst=O 6:=by rfl
 have X:(dv (aE TK [T,Z]) 2).op=.call {callee:=.value (.func 90),args:=#[.tmp 5,.tmp 6],argTypes:=XF (dv (aE TK [T,Z]) 2)}:=by rfl
 have H:(dv (aE TK [T,Z]) 2).dst=O 7:=by rfl
 have o4:(dv (aE TK [T,Z]) 3).op=.assign (.tmp 7):=by rfl
 have L:(dv (aE TK [T,Z]) 3).dst=O 4:=by rfl
 refine wp_seq (CX (da (o:=dv (aE TK [Z]) 0) (by rfl) (by rfl) (v:=.int .i64 0) (w':=W) (by rfl) ?_));rw[B];show Code.wp Pg _ _ _ W;refine wp_seq (CX (da (o:=dv (aE TK [T,Z]) 0) (by rfl) (by rfl) (v:=v) (w':=W) ?_ ?_));.have:(i.put (O 4) (.int .i64 0)).eval (.tmp 0)=v:=bu (by grind [cR]);simp[execOp,R,this]
 rw[E];refine da (o:=dv (aE TK [T,Z]) 1) (by rfl) (by rfl) (v:=encStr x) (w':=W) ?_ ?_;.have:((i.put (O 4) (.int .i64 0)).put (O 5) v).eval (.tmp 1)=encStr x:=bu (by grind [cR]);simp[execOp,S,this]
 rw[F];have e5:(((i.put (O 4) (.int .i64 0)).put (O 5) v).put (O 6) (encStr x)).eval (.tmp 5)=v:=bu (by simp only[cR,ct,q];rfl);have e6:(((i.put (O 4) (.int .i64 0)).put (O 5) v).put (O 6) (encStr x)).eval (.tmp 6)=encStr x:=bu (by simp only[cR,ct,q];rfl);have m:=G2 (a:=((i.put (O 4) (.int .i64 0)).put (O 5) v).put (O 6) (encStr x)) (w:=W) X call90;rw[show(#[Operand.tmp 5,.tmp 6]:Array Operand).map (((i.put (O 4) (.int .i64 0)).put (O 5) v).put (O 6) (encStr x)).eval=#[v,encStr x] by grind]at m;refine Qq (o:=dv (aE TK [T,Z]) 2) (by rfl) (by kernel_rfl) m r ?_;rintro e w' ⟨rfl,rfl⟩;refine⟨_,rfl,?_⟩;rw[H];refine da (o:=dv (aE TK [T,Z]) 3) (by rfl) (by rfl) (v:=.int .i64 (Lib.idxBy (λx y=>x==y) d x)) (w':=w') ?_ ?_;.have:((((i.put (O 4) (.int .i64 0)).put (O 5) v).put (O 6) (encStr x)).put (O 7) (.int .i64 (Lib.idxBy (λx y=>x==y) d x))).eval (.tmp 7)=.int .i64 (Lib.idxBy (λx y=>x==y) d x):=bu (by simp only[cR,ct,q];rfl);simp[execOp,o4,this]
 rw[L];show Code.wp Pg _ _ _ w';refine wp_ret ⟨by grind [aW],.int .i64 (Lib.idxBy (λx y=>x==y) d x),?_,rfl,rfl⟩;have A:(((((i.put (O 4) (.int .i64 0)).put (O 5) v).put (O 6) (encStr x)).put (O 7) (.int .i64 (Lib.idxBy (λx y=>x==y) d x))).put (O 4) (.int .i64 (Lib.idxBy (λx y=>x==y) d x))).tmps[4]? =O (.int .i64 (Lib.idxBy (λx y=>x==y) d x)):=by simp only[cR,ct,q];rfl
 simp[results,vaG,A]
def zb.same{Γ:aS}{w W:J}(a:zb GE Γ w)(r:∀b,b<w.heap.size->W.heap[b]? =w.heap[b]?):zb GE Γ W/\Γ.Le w Γ W:=by
 have m:∀b n,Γ b=O n->b<w.heap.size:=λb n h=>by let⟨c,t,fr,q,_⟩:=a.wi b n h;grind
 have d:Γ.Le w Γ W:=λb n p _=>⟨n,p,l8 _,λo _=>bE (r b (m b n p)) o⟩
 refine⟨{
  wi:=λb n h=>by let⟨c,t,fr,q,s⟩:=a.wi b n h;simp_all
  gl:=λg e i=>(a.gl g e i).mono d (.refl _)
  gc:=a.gc
  gx:=λg e i=>by let⟨x,c,t,fr,y,z⟩:=a.gx g e i;grind},d⟩
def qqJ(d:ba):mt Pg 32 (.eptr ((aL d).drop 1)) []=O (sl cS d.Params):=ZU d
def qiu{Γ:aS}{W:J}{cv:D}{d:ba}(hB:zb GE Γ W)(z:VR Γ [] W (.eptr (aL d)) cv)(hl:d.Params.length<=bO)(x:aa):Calls Pg qeM #[encStr x,cv] W λe w'=>e=.returned (.bool (d.Params.any λy=>y==x))/\w'=W:=by
 let⟨v4,A,E⟩:=uS (P:=Pg) z (ZC d);have hS:=hB.fresh (P:=Pg) (a:=#[]) 0 (tmps:=[]) rfl (λt p v L=>by simp);let⟨v5,B,F⟩:=xj (P:=Pg) hS E (qqJ d);have hF:=qdq (x:=x) F hl;refine calls_of_wp func82 (c:=LY) rfl ?_;have hn:f82.ntmps=9:=by rfl
 refine(λ(H:∀h:Act,h.tmps.size=9->h.tmps[0]? =O (encStr x)->h.tmps[1]? =O cv->h.defers=[]->LY.wp Pg _ h W)=>H _ ?_ ?_ ?_ rfl) ?_;.rfl
 .rfl
 .rfl
 intro h z0 z1 z2 z3;have hb:LY=.seq (.region (Rd (aE LY [Z])) #[dv (aE LY [Z]) 0] Z) (.seq (.region (Rd (aE LY [T,Z])) #[dv (aE LY [T,Z]) 0,dv (aE LY [T,Z]) 1,dv (aE LY [T,Z]) 2,dv (aE LY [T,Z]) 3,dv (aE LY [T,Z]) 4,dv (aE LY [T,Z]) 5] Z) .ret):=by rfl
 rw[hb];have S:(dv (aE LY [Z]) 0).dst=O 3:=by rfl
 have o1:(dv (aE LY [T,Z]) 0).op=.fieldAddr 65 (.tmp 1) 1:=by rfl
 have X:(dv (aE LY [T,Z]) 0).dst=O 4:=by rfl
 have o2:(dv (aE LY [T,Z]) 1).op=.load 32 (.tmp 4):=by rfl
 have d2:(dv (aE LY [T,Z]) 1).dst=O 5:=by rfl
 have o3:(dv (aE LY [T,Z]) 2).op=.move (.tmp 0):=by rfl
 have d3:(dv (aE LY [T,Z]) 2).dst=O 6:=by rfl
 have o4:(dv (aE LY [T,Z]) 3).op=.call {callee:=.value (.func qvq),args:=#[.tmp 5,.tmp 6],argTypes:=XF (dv (aE LY [T,Z]) 3)}:=by rfl
 have d4:(dv (aE LY [T,Z]) 3).dst=O 7:=by rfl
 have d5:(dv (aE LY [T,Z]) 4).dst=O 8:=by rfl
 have o6:(dv (aE LY [T,Z]) 5).op=.assign (.tmp 8):=by rfl
 have d6:(dv (aE LY [T,Z]) 5).dst=O 3:=by rfl
 refine wp_seq (CX (da (o:=dv (aE LY [Z]) 0) (by rfl) (by rfl) (v:=.bool Z) (w':=W) (by kernel_rfl) ?_));rw[S];show Code.wp Pg _ _ _ W;refine wp_seq (CX (da (o:=dv (aE LY [T,Z]) 0) (by rfl) (by rfl) (v:=v4) (w':=W) ?_ ?_));.have:(h.put (O 3) (.bool Z)).eval (.tmp 1)=cv:=bu (by grind [cR]);simp[execOp,o1,this,A]
 rw[X];generalize m:(h.put (O 3) (.bool Z)).put (O 4) v4=A1;have s:A1.tmps.size=9:=by grind [ct]
 have y1:A1.tmps[0]? =O (encStr x):=by rw[<-m];grind [cR]
 have y4:A1.tmps[4]? =O v4:=by rw[<-m];simp only[cR,ct,z0];rfl
 have y3:A1.defers=[]:=by grind [aW]
 clear m;refine da (o:=dv (aE LY [T,Z]) 1) (by rfl) (by rfl) (v:=v5) (w':=W) ?_ ?_;.have:A1.eval (.tmp 4)=v4:=bu y4;simp[execOp,o2,this,B]
 rw[d2];refine da (o:=dv (aE LY [T,Z]) 2) (by kernel_rfl) (by kernel_rfl) (v:=encStr x) (w':=W) ?_ ?_;.have:(A1.put (O 5) v5).eval (.tmp 0)=encStr x:=bu (by simp only[cR];exact y1);simp[execOp,o3,this]
 rw[d3];have e5:((A1.put (O 5) v5).put (O 6) (encStr x)).eval (.tmp 5)=v5:=bu (by simp only[cR,ct,s];rfl);have e6:((A1.put (O 5) v5).put (O 6) (encStr x)).eval (.tmp 6)=encStr x:=bu (by simp only[cR,ct,s];rfl);have i:=G2 (a:=(A1.put (O 5) v5).put (O 6) (encStr x)) (w:=W) o4 call83;rw[show(#[Operand.tmp 5,.tmp 6]:Array Operand).map ((A1.put (O 5) v5).put (O 6) (encStr x)).eval=#[v5,encStr x] by grind]at i;refine Qq (o:=dv (aE LY [T,Z]) 3) (by kernel_rfl) (by rfl) i hF ?_;rintro e w' ⟨rfl,rfl⟩;refine⟨_,rfl,?_⟩;rw[d4];generalize b:((A1.put (O 5) v5).put (O 6) (encStr x)).put (O 7) (.int .i64 (Lib.idxBy (λx y=>x==y) d.Params x))=A2;have R:A2.tmps.size=9:=by rw[<-b];simp only[ct];exact s
 have x7:A2.tmps[7]? =O (.int .i64 (Lib.idxBy (λx y=>x==y) d.Params x)):=by rw[<-b];simp only[cR,ct,s];rfl
 have x3:A2.defers=[]:=by rw[<-b];simp only[aW];exact y3
 clear b;have o5:(dv (aE LY [T,Z]) 4).op=.binOp .geq 3 (.tmp 7) (.const (.int .i64 0)) (qvi (dv (aE LY [T,Z]) 4)):=by rfl
 refine da (o:=dv (aE LY [T,Z]) 4) (by kernel_rfl) (by kernel_rfl) (v:=.bool (d.Params.any λy=>y==x)) (w':=w') ?_ ?_
 .have e7:A2.eval (.tmp 7)=.int .i64 (Lib.idxBy (λx y=>x==y) d.Params x):=bu x7;have L:qdT Pg .geq 3 (.int .i64 (Lib.idxBy (λx y=>x==y) d.Params x)) (.int .i64 0)=O (.bool (Y (Lib.idxBy (λx y=>x==y) d.Params x>=0))):=rfl;let⟨vb,q,r⟩:=Wa (P:=Pg) (w:=w') (Γ:=Γ) (bs:=[]) (.int .i64 _) (.int .i64 0) (.tmp 7) (.const (.int .i64 0)) L;rw[qgc]at r;have hv:vb=.bool (d.Params.any λy=>y==x):=by cases r;rfl
  subst hv;have ec:A2.eval (.const (.int .i64 0))=.int .i64 0:=rfl;simp only[execOp,o5,Sem.run_bind,e7,ec]at q ⊢;rw[q];rfl
 rw[d5];refine da (o:=dv (aE LY [T,Z]) 5) (by rfl) (by kernel_rfl) (v:=.bool (d.Params.any λy=>y==x)) (w':=w') ?_ ?_;.have:(A2.put (O 8) (.bool (d.Params.any λy=>y==x))).eval (.tmp 8)=.bool (d.Params.any λy=>y==x):=bu (by simp only[cR,ct,R];rfl);simp[execOp,o6,this]
 rw[d6];show Code.wp Pg _ _ _ w';refine wp_ret ⟨by simp only[aW];grind,.bool (d.Params.any λy=>y==x),?_,rfl,rfl⟩;have hg:((A2.put (O 8) (.bool (d.Params.any λy=>y==x))).put (O 3) (.bool (d.Params.any λy=>y==x))).tmps[3]? =O (.bool (d.Params.any λy=>y==x)):=by simp only[cR,ct,R];rfl
 simp[results,vaG,hg]
def Z5(d:ba)(s:aa):K:=d.Params.any λy=>y==s
noncomputable def qwu:W:=f31.body.getD .skip
def qgd(d:ba):qI [] d=O (-1):=by rfl
def qii(d:ba):CC Pg GE qoW [sl cS ([]:V aa),.func (.func qeM) [] [.eptr (aL d)]] (sl cS ([]:V aa)) []:=by have z:=qhB (zU _ (qgd d))<|sg 0 (show((-1:Int)==-1)=T from rfl)<|en (aI (rP (sl cS ([]:V aa)))<|(cw J3 ([]:V aa)));exact C.evp (A:=[]) mixed call31 func31 (c:=qwu) rfl (aI (cw J3 ([]:V aa))<|aI (aI hV (aI (show ie 0 (aL d)from DK d) trivial)) trivial) z (by rfl)
structure qmY(Γ1 Γ3:aS)(w1 w3:World):Prop where
 wi:∀b n,Γ3 b=some n->∃c t fr,w3.heap[b]? =some (.cells c t fr)/\n<=c.size
 keep:∀b,b<w1.heap.size->w3.heap[b]? =w1.heap[b]?/\Γ3 b=Γ1 b
 os:w3.os=w1.os
 tape:w3.tape=w1.tape
 output:w3.output=w1.output
 size:w1.heap.size<=w3.heap.size
 drawn:dr w1<=dr w3
def qnQ{o a6:aS}{w1 X:J}{cv v5:D}{d:ba}{l:V aa}{bg:Nat->Q kg}(a0:zb GE o w1)(a8:VR o [] w1 (.eptr (aL d)) cv)(bc:d.Params.length<=bO)
  (z:SR Pg (wU GE o w1) a6 [] bg X #[v5] ⟨[sl cS l],[],[((0,0),eS)]⟩) (hl:l.length<=bO):
  Calls Pg qoW #[v5,.func (.func qeM) #[] #[cv]] X λe w3=>∃v7 S,e=.returned v7/\VR S [] w3 (sl cS (l.filter λs=>!Z5 d s)) v7/\qmY o S w1 w3:=by
 have B:∀b,b<w1.heap.size->X.heap[b]? =w1.heap[b]?:=λb hb=>(z.step.keep b hb id).1
 have bm:∀b n,o b=O n->b<w1.heap.size:=λb n h=>by let⟨c,t,fr,q1,_⟩:=a0.wi b n h;grind
 have A:l=[]->VR o [] X (sl cS ([]:V aa)) v5->Calls Pg qoW #[v5,.func (.func qeM) #[] #[cv]] X λe w3=>∃v7 S,e=.returned v7/\VR S [] w3 (sl cS (l.filter λs=>!Z5 d s)) v7/\qmY o S w1 w3:=by
  rintro rfl hv;let⟨a7,a9⟩:=a0.same B;have hT:aV [] (λ_=>N)=λ_=>False:=by funext b;exact propext ⟨λh=>h.elim (λ⟨i,hi⟩=>by simp_all) (λy=>y rfl),False.elim⟩
  have br:=a7.fresh (P:=Pg) (a:=#[v5,.func (.func qeM) #[] #[cv]]) 0 (tmps:=[sl cS ([]:V aa),.func (.func qeM) [] [.eptr (aL d)]]) rfl (λt p v E R=>by
   match t,E,R with
   |0,E,R=>simp_all
   | 1,E,R =>
    simp at E R;subst E;subst R
    exact .func _ _ _ _ _ rfl rfl (λi p v E=>by simp) (λi p v E hv=>by
     match i,E,hv with
     |0,E,hv=>simp at E hv;subst E;subst hv;exact a8.mono a9 (.refl _)
     |i+1,E,_=>simp_all)
   |t+2,E,_=>simp_all)
  have hC:=(qii d).2.2 o [] (λ_=>N) X #[v5,.func (.func qeM) #[] #[cv]] (by simp_all);refine hC.mono λe w3 he=>?_;obtain⟨v7,bi,c2,rfl,hS⟩:=he;rw[hT]at hS;have a3:VR bi [] w3 (sl cS ([]:V aa)) v7:=hS.tm 0 _ _ rfl rfl;refine⟨v7,o,rfl,?_,λb n hb=>?_,λb hb=>⟨?_,rfl⟩,hS.step.os.trans z.step.os,hS.step.tape.trans z.step.tape,hS.step.output.trans z.step.output,m0 z.step.size hS.step.size,m0 z.step.drawn hS.step.drawn⟩;.rw[List.filter_nil];unfold sl at a3 ⊢;rw[vbt]at a3 ⊢;cases a3 with|sliceNil=>exact .sliceNil|sliceE a cap=>exact .sliceE a cap|slice _ b off cap n sz vals h0 hcap hg hn hsz hc hvv=>exact .sliceE _ _
  .let⟨c,t,fr,q1,q2⟩:=a7.wi b n hb;exact⟨c,t,fr,((hS.step.keep b (gM q1) id).1).trans q1,q2⟩
  .exact((hS.step.keep b (R3 hb z.step.size) id).1).trans (B b hb)
 let⟨u,v,hu,an,ad,bb⟩:=z.ot 0 0 eS (by simp)
 have be:u=v5:=by simp_all
 subst be
 have a4:VR a6 [] X (sl cS l) u:=z.tm 0 _ _ rfl rfl
 unfold sl at a4
 generalize b4:l.map cS=es at a4
 cases a4 with
 |sliceNil=>
  have hn:l=[]:=by simp_all
  exact A hn (by unfold sl;rw[vbt];exact .sliceNil)
 |sliceE x cap=>
  have hn:l=[]:=by simp_all
  exact A hn (by unfold sl;rw[vbt];exact .sliceE x cap)
 | slice _ b off cap m sz vals hz0 hcap hg hm hszs hc hvv =>
  rw[Ef]at an
  cases an
  let⟨k,xs,⟨c0,a1⟩,c1⟩:=ad
  rcases a1 with⟨a1,_⟩|⟨g',cap',cur,a1,_,hheap,hkc,hcm,hcs,htake⟩
  .grind
  .cases a1
   subst b4
   rw[qnN,vbv]at hcs htake
   have ab:(l.map cS).length=l.length:=by simp
   have b3:l.length<=cap:=by omega
   have bl:cur.size=cap:=by omega
   have b2:=z.on b _ (bb b rfl)
   have bn:w1.heap.size<=b:=b2.2.resolve_left id
   have a2:=SC (Γ:=a6) hszs hc hvv
   have ao:cur.toList.take l.length=l.map λs=>Value.string ⟨s.toArray⟩:=by
    refine va2 λi=>?_;by_cases hi:i<l.length;.rw[vay hi];simp only[vaK,o8,m3 hi,or];have e1:=a2 i hi;rw[s7,cell_of_row X b i cur eS _ hheap,getElem!_pos l i hi]at e1;omega
    .grind
   have H:∀(W:J)(x:aa),(∀j,j<w1.heap.size->W.heap[j]? =w1.heap[j]?)->FnGives Pg qeM #[cv] #[encStr x] (.bool (Z5 d x)) W:=λW x hW=>by let⟨b1,b7⟩:=a0.same hW;refine(qiu b1 (a8.mono b7 (.refl _)) bc x).mono λe w' he=>?_;obtain⟨rfl,rfl⟩:=he;exact⟨rfl,0,rfl⟩
   have L:=AnyE.slices_DeleteFunc (P:=Pg) Tryz.df31 encStr (λ_=>rfl) (Z5 d) qeM #[cv] call82 [] Tryz.zeroValue9 b 0 cap l.toArray X
    (λW x hb=>H W x λj hj=>(hb.block j (R3 hj z.step.size)).trans (B j hj))
    (λn os dk x bq=>H _ x λj hj=>by
     let⟨k1,_⟩:=BD (n:=n) (os:=os) dk.toList [] hheap (by simp_all) (by simp);rw[Array.toArray_toList]at k1;exact(k1 j (R3 hj z.step.size) (by omega)).trans (B j hj))
    (P1 hheap ao) (by simp;grind [bO]) (by omega)
   have ar:l.toArray.size=l.length:=by simp
   rw[ar]at L
   rw[ab]
   refine L.mono λe w3 he=>?_
   obtain⟨rfl,q,rfl⟩:=he
   generalize hR:(l.filter λx=>!Z5 d x)=r
   have bt:r.length<=l.length:=by grind
   let⟨k1,k2,F,k3,k4,k5⟩:=BD (n:=q) (os:=#[]) (r++List.replicate (l.length - r.length) []) r hheap (by simp;omega) (by simp)
   rw[grow_empty]at k1 k2 k3
   refine⟨_,o.put b r.length,rfl,?_,λx n y=>?_,λx y=>⟨?_,o.put_other (by omega)⟩,z.step.os,z.step.tape,z.step.output,m0 z.step.size k2,m0 z.step.drawn (DY (vbq _ _))⟩
   .have:=VR.slice (Γ:=o.put b r.length) (bs:=[]) (w:=putRow encStr (Sort.ahead X q) b 0 (r++List.replicate (l.length - r.length) []).toArray) (r.map cS) b 0 cap r.length 1 (λi _=>.string ⟨(r[i]!).toArray⟩) (by decide) (by simp;omega) (o.put_same _ _) (by simp)
     (λi x y=>by rw[o8]at y;cases hf:r[i]? with
      |none=>rw[hf]at y;cases y
      |some s=>rw[hf]at y;cases y;rfl)
     (λi x k q' y hq=>by
      rw[o8]at y;cases hf:r[i]? with
      |none=>simp_all
      |some s=>
       rw[hf]at y;cases y;have b5:=aq hf;have hk:k=0:=by grind [aq,cS]
       subst hk;rw[show 0+i * 1+0=i by omega,cell_of_row _ b i F eS _ k3];have h1:(F.toList.take r.length)[i]? =(r.map λs=>Value.string ⟨s.toArray⟩)[i]?:=by rw[k5]
       rw[vay b5]at h1;simp_all)
     (λi x k q' y hq=>by
      rw[o8]at y;cases hf:r[i]? with
      |none=>rw[hf]at y;cases y
      |some s=>
       rw[hf]at y;cases y;have hk:k=0:=by have:=aq hq;simp[cS]at this;omega
       subst hk;simp[cS]at hq;subst hq;have:r[i]! =s:=by simp_all
       rw[this];exact .str s)
    rw[va0]at this
    exact this
   .by_cases a5:x=b
    .subst a5;rw[o.put_same]at y;cases y;exact⟨F,eS,(0,0),k3,by omega⟩
    .rw[o.put_other a5]at y
     let⟨c,t,fr,q1,q2⟩:=a0.wi x n y
     have b0:=gM q1
     exact⟨c,t,fr,((k1 x (R3 b0 z.step.size) a5).trans (B x b0)).trans q1,q2⟩
   .exact(k1 x (R3 y z.step.size) (by omega)).trans (B x y)
def yi(d:ba):Q (V aa):=(Br d.Body).bind λl=>if(Y (l.length<=bO)&&Y (d.Params.length<=bO))then O (l.filter λs=>!Z5 d s)else N
abbrev qvj:W:=aE qp6 [Z]
abbrev Rm:W:=aE qp6 [T,Z]
abbrev qrk(d:ba):az:=aR 8 [(1,.eptr (aL d))] [.dead] []
def qtT(d:ba):dz Pg GE 0 qvj (EX .normal (qrk d)) (aR 8 [(0,.agg (aL d))] [] []):=by have z:=se (Qs d)<|eF .normal (qrk d);exact fU (A:=[]) mixed z (by rfl)
def qn4(d:ba):mt Pg 50 (.eptr ((aL d).drop 2)) []=O (.agg (al d.Body)):=ZV d
def qnt:qp6=.seq qvj (.seq (.region (Rd Rm) #[dv Rm 0,dv Rm 1,dv Rm 2,dv Rm 3,dv Rm 4,dv Rm 5] Z) .ret):=by rfl
def SH{d:ba}{r:V aa}(h:yi d=O r):CC Pg GE qww [.agg (aL d)] (sl cS r) []:=by
 let⟨l,a6,h⟩:=L0 h;rcases Hr h with⟨c1,h⟩|⟨_,h⟩;rotate_left;.grind
 obtain⟨hl,a9⟩:l.length<=bO/\d.Params.length<=bO:=by simp_all
 obtain rfl:=lf h;refine⟨aI (DK d) trivial,call61,λΓ bs ow w vs hS=>calls_of_wp func61 (c:=qp6) rfl ?_⟩;obtain rfl:bs=[]:=IO hS.bl;obtain⟨v,rfl⟩:∃v,vs=#[v]:=vbN.1 hS.sz;have hB:zb GE Γ w:=hS.base;have hE:th GE 0 (wU GE Γ w):=hB.good;have b1:VR Γ [] w (.agg (aL d)) v:=hS.tm 0 _ _ rfl rfl;have h0:SR Pg (wU GE Γ w) Γ [] (λ_=>N) w (#[v]++Array.replicate 7 undef) (aR 8 [(0,.agg (aL d))] [] []):=by
  refine hB.fresh (a:=#[v]++Array.replicate 7 undef) 0 (tmps:=[.agg (aL d)]++List.replicate 7 .undef) (by simp) λt q u hq hu=>?_;by_cases ht:t<1;.simp_all
  .rw[Lf (by grind),vaW]at hq;split at hq<;>cases hq;exact .undef u
 show qp6.wp Pg _ ⟨#[v]++Array.replicate 7 undef,[]⟩ w;rw[qnt];refine wp_seq (wp_mono (qtT d N (wU GE Γ w) [] ⟨#[v]++Array.replicate 7 undef,[]⟩ w hE rfl ⟨Γ,[],_,h0,λi hi=>absurd hi (w0 _)⟩) ?_);rintro e ⟨X,an⟩ w1 ⟨rfl,b4,⟨z,ad,b2,x,_⟩,rfl,rfl⟩;have m:zb GE z w1:=x.base;have a4:X.size=8:=x.sz;obtain⟨cv,B⟩:∃cv,X[1]? =O cv:=⟨X[1]'(by omega),by simp⟩
 have a2:VR z [] w1 (.eptr (aL d)) cv:=(x.tm 1 _ _ rfl B).clo (show ie 0 (aL d)from DK d);let⟨v3,a7,ab⟩:=uS (P:=Pg) a2 (ZD d);let⟨v4,a8,ar⟩:=xj (P:=Pg) (m.fresh (P:=Pg) (a:=#[]) 0 (tmps:=[]) rfl (λt p v hp=>by simp)) ab (qn4 d);have hT:aV [] (λ_=>N)=λ_=>False:=by funext b;exact propext ⟨λh=>h.elim (λ⟨i,hi⟩=>by simp_all) (λhx=>hx rfl),False.elim⟩
 have ao:=m.fresh (P:=Pg) (a:=#[v4]) 0 (tmps:=[.agg (al d.Body)]) rfl (λt p v hp R=>by grind);have hC:=(T6 _ a6).2.2 z [] (λ_=>N) w1 #[v4] (by simp_all);rw[hT]at hC;have o1:(dv Rm 0).op=.fieldAddr 65 (.tmp 1) 2:=by rfl
 have d1:(dv Rm 0).dst=O 3:=by rfl
 have o2:(dv Rm 1).op=.load 50 (.tmp 3):=by rfl
 have d2:(dv Rm 1).dst=O 4:=by rfl
 have o3:(dv Rm 2).op=.call {callee:=.value (.func 81),args:=#[.tmp 4],argTypes:=XF (dv Rm 2)}:=by rfl
 have d3:(dv Rm 2).dst=O 5:=by rfl
 have o4:(dv Rm 3).op=.makeFunc (.func qeM) #[] #[.tmp 1]:=by rfl
 have d4:(dv Rm 3).dst=O 6:=by rfl
 have o5:(dv Rm 4).op=.call {callee:=.value (.func qoW),args:=#[.tmp 5,.tmp 6],argTypes:=XF (dv Rm 4)}:=by rfl
 have d5:(dv Rm 4).dst=O 7:=by rfl
 have o6:(dv Rm 5).op=.assign (.tmp 7):=by rfl
 have d6:(dv Rm 5).dst=O 2:=by rfl
 refine wp_seq (CX (da (o:=dv Rm 0) (by rfl) (by rfl) (v:=v3) (w':=w1) ?_ ?_));.have:(Act.mk X []).eval (.tmp 1)=cv:=bu B;simp[execOp,o1,this,a7]
 rw[d1];refine da (o:=dv Rm 1) (by rfl) (by rfl) (v:=v4) (w':=w1) ?_ ?_;.have:((Act.mk X []).put (O 3) v3).eval (.tmp 3)=v3:=bu (by simp only[cR,a4];rfl);simp[execOp,o2,this,a8]
 rw[d2];generalize a0:((Act.mk X []).put (O 3) v3).put (O 4) v4=A1;have y0:A1.tmps.size=8:=by grind [ct]
 have y1:A1.tmps[1]? =O cv:=by grind [cR]
 have y4:A1.tmps[4]? =O v4:=by rw[<-a0];simp only[cR,ct,a4];rfl
 have y3:A1.defers=[]:=by grind [aW]
 clear a0;have F:=G2 (a:=A1) (w:=w1) o3 call81;rw[show(#[Operand.tmp 4]:Array Operand).map A1.eval=#[v4] by grind [bu]]at F;refine Qq (o:=dv Rm 2) (by rfl) (by rfl) F hC ?_;rintro e w2 ⟨v5,b5,b3,rfl,h2⟩;refine⟨_,rfl,?_⟩;rw[d3];refine da (o:=dv Rm 3) (by rfl) (by rfl) (v:=.func (.func qeM) #[] #[cv]) (w':=w2) ?_ ?_;.have:(A1.put (O 5) v5).eval (.tmp 1)=cv:=bu (by simp_all[cR]);simp[execOp,o4,this];rfl
 rw[d4];generalize H:(A1.put (O 5) v5).put (O 6) (.func (.func qeM) #[] #[cv])=A2;have x0:A2.tmps.size=8:=by grind [ct]
 have x5:A2.tmps[5]? =O v5:=by rw[<-H];simp only[cR,ct,y0];rfl
 have x6:A2.tmps[6]? =O (.func (.func qeM) #[] #[cv]):=by rw[<-H];simp only[cR,ct,y0];rfl
 have x3:A2.defers=[]:=by grind [aW]
 clear H;have y:=G2 (a:=A2) (w:=w2) o5 call31;rw[show(#[Operand.tmp 5,.tmp 6]:Array Operand).map A2.eval=#[v5,.func (.func qeM) #[] #[cv]] by simp_all[bu]]at y;refine Qq (o:=dv Rm 4) (by rfl) (by rfl) y (qnQ m a2 a9 h2 hl) ?_;rintro e w3 ⟨v7,S,rfl,b0,A⟩;refine⟨_,rfl,?_⟩;rw[d5];refine da (o:=dv Rm 5) (by rfl) (by rfl) (v:=v7) (w':=w3) ?_ ?_;.have:(A2.put (O 7) v7).eval (.tmp 7)=v7:=bu (by simp only[cR,ct,x0];rfl);simp[execOp,o6,this]
 rw[d6];show Code.wp Pg _ _ _ w3;have E:∀b n,z b=O n->b<w1.heap.size:=λb n h=>by let⟨c,t,fr,q1,_⟩:=m.wi b n h;grind
 have a3:z.Le w1 S w3:=λb n hb _=>⟨n,by rw[(A.keep b (E b n hb)).2];omega,l8 _,λo _=>bE (A.keep b (E b n hb)).1 o⟩
 have a5:zb GE S w3:={
  wi:=A.wi
  gl:=λg cs hg=>(m.gl g cs hg).mono a3 (.refl _)
  gc:=m.gc
  gx:=λg cs hg=>by let⟨k1,c,t,fr,k2,k3⟩:=m.gx g cs hg;have:=(A.keep g k1).1.trans k2;grind}
 have hF:=a5.fresh (P:=Pg) (a:=#[v7]) 0 (tmps:=[sl cS (l.filter λs=>!Z5 d s)]) rfl (λt p v hp R=>by
  match t,hp,R with
  |0,hp,R=>grind
  |t+1,hp,_=>simp_all)
 refine wp_ret ⟨by simp_all[aW],v7,?_,v7,S,λ_=>N,rfl,{hF with
  bn:=λi b hb=>by simp_all
  on:=λb L hL=>by simp_all
  gx:=hS.gx
  step:=⟨A.os.trans x.step.os,A.tape.trans x.step.tape,A.output.trans x.step.output,m0 x.step.size A.size,m0 x.step.drawn A.drawn,λb hb _=>?_,x.step.le.trans a3⟩}⟩
 .have hg:((A2.put (O 7) v7).put (O 2) v7).tmps[2]? =O v7:=by simp only[cR,ct,x0];rfl
  simp[results,vaG,hg]
 .have k1:=x.step.keep b hb id;have k3:=A.keep b (R3 hb x.step.size);grind
open Go Go.Proofs.Tryz
set_option linter.defProp false
noncomputable def qtN:W:=f60.body.getD .skip
def qsL:ZF Pg [] 60 f60 qtN:=zf call60 func60 rfl mixed
section
variable(e:am)(v:aa)(is:K)(b:waA)(c d:Int)(a:V (aa×K))(h:am)
def kp:Q K:=if is then O (!((oe a v).getD Z)) else O Z
def zZ:OU 4 (cA qtN 8174) (kp v is a) .normal (λo=>[(10,.undef),(41,.bool o)]) (aR 50 [(1,.eptr (au e)),(2,.bptr 0 0),(3,.bptr 3 0),(8,.str v),(10,.bool is),(20,sl cS b),(21,.i6 c),(22,.i6 d)] [.cells [.bptr 1 0] [],.cells [.mapr 2] [],.map (bU PVal.bool a),.cells [.func (.func 60) [] [.eptr (au h),.bptr 0 0,.bptr 3 0]] [],.dead,.dead] []):=qsL.j<|tf (λi=>tg 2 i<|ts<|ts<|tv (RO (f:=PVal.bool) underlying84 underlying9 qo6 a v)<|tE) λi=>tg 2 i<|tE
end
section
variable(b:gV)(h:am)(c:waA)(d:Int)(v:am)(a:Int)(e:V (aa×K))
def jq:az:=aR 50 [(1,.eptr (au h)),(2,.bptr 0 0),(3,.bptr 3 0),(20,sl cS c),(21,.i6 d),(22,.i6 a)] [.cells [.bptr 1 0] [],.cells [.mapr 2] [],.map (bU PVal.bool e),.cells [.func (.func 60) [] [.eptr (au v),.bptr 0 0,.bptr 3 0]] [],.dead] []
def o0(o:V (aa×K)):az:=aR 50 [] [.cells [.bptr 1 0] [],.cells [.mapr 2] [],.map (bU PVal.bool o),.cells [.func (.func 60) [] [.eptr (au v),.bptr 0 0,.bptr 3 0]] [],.dead] []
instance qxq:KS 4 (jq h c d v a e):=ks 5 rfl
instance qxp{o:((List (aa×Bool)))}:KS 4 (o0 v o):=ks 5 rfl
def dV:Q ((Int×(V (aa×K)))⊕(((V (aa×K))))):=if Y (a<d)then (cJ c a).bind λi=>(dM h i).bind λq=>(kp i q.2 e).bind λp=>if p then (mN ([i]:V aa) e).bind λm=>(b i v m v).bind λo=>O (.inl (dc (a+1),o)) else O (.inl (dc (a+1),e)) else O (.inr e)
def qJ:Q (((V (aa×K)))):=loop (λ(i:Int×(V (aa×K)))=>dV b h c d v i.1 i.2) (a,e)
def yY(i:ll b):OL 4 (cA qtN 63) (dV b h c d v a e) (λ(w:Int×(V (aa×K)))=>jq h c d v w.1 w.2) (λ_=>.exit 0) (o0 v) (jq h c d v a e):=qsL.lx<|tF (tb λs r=>tb λt q=>tb λz p=>tv (cT.ia r)<|tv (cX OR (.str s) [])<|tv (bM h)<|cP (fa _ q)<|tx Dl<|tx (eW t.1)<|jC 0<|cM (zZ h s t.2 c d a e v _ p)<|tF (tb λx m=>tb λy o=>ts<|tv (bG [s] 1 rfl)<|tc [1,2] (wc _ m)<|ts<|tc [0,1,2,3] (i _ _ _ _ _ o)<|tE)<|tE)<|tE
def z6(i:ll b):=ug (s:=(a,e)) λm=>yY b h c d v m.1 m.2 i
end
def gY(b:gV)(d:aa)(a:am)(h:V (aa×K))(c:am):Q ((V (aa×K))):=(dM a d).bind λi=>if(!i.2)then O h else (yi i.1).bind λm=>(qJ b a m (m.length:Int) c 0 h).bind λe=>O e
def CJ(b:gV)(e:ll b){d:aa}{a:am}{o:V (aa×K)}{c:am}:OG 60 [.str d,.eptr (au a),.bptr 0 0,.bptr 3 0] [] [.cells [.bptr 1 0] [],.cells [.mapr 2] [],.map (bU PVal.bool o),.cells [.func (.func 60) [] [.eptr (au c),.bptr 0 0,.bptr 3 0]] []] (gY b d a o c) (λr=>.tuple []) [] (λr=>[.cells [.bptr 1 0] [],.cells [.mapr 2] [],.map (bU PVal.bool r),.cells [.func (.func 60) [] [.eptr (au c),.bptr 0 0,.bptr 3 0]] []]):=qsL.g 4<|tb λq i=>tv (bM a)<|cP (fa _ i)<|tx Dl<|tx (eW q.1)<|tF tE<|tb λp m=>tb λs h=>tv (rA q.1 [])<|cP (SH m)<|ca (cT.ln p)<|cM (z6 b a p (p.length:Int) c 0 o e _ h)<|tE
def lA:((aa×am×(V (aa×K))×am)->Q ((V (aa×K))))->(aa×am×(V (aa×K))×am)->Q ((V (aa×K))):=λ(rec:(aa×am×(V (aa×K))×am)->Q ((V (aa×K)))) (x:aa×am×(V (aa×K))×am)=>gY (λb a d c=>rec (b,a,d,c)) x.1 x.2.1 x.2.2.1 x.2.2.2
def nF(b:aa)(a:am)(d:V (aa×K))(c:am):Q ((V (aa×K))):=sQ lA (b,a,d,c)
def Dm{b:aa}{a:am}{e:V (aa×K)}{c:am}:OG 60 [.str b,.eptr (au a),.bptr 0 0,.bptr 3 0] [] [.cells [.bptr 1 0] [],.cells [.mapr 2] [],.map (bU PVal.bool e),.cells [.func (.func 60) [] [.eptr (au c),.bptr 0 0,.bptr 3 0]] []] (nF b a e c) (λr=>.tuple []) [] (λr=>[.cells [.bptr 1 0] [],.cells [.mapr 2] [],.map (bU PVal.bool r),.cells [.func (.func 60) [] [.eptr (au c),.bptr 0 0,.bptr 3 0]] []]):=qaJ λ_ h=>ij (F:=lA) (M:=λ(x:aa×am×(V (aa×K))×am) (r:V (aa×K))=>C Pg GE 60 [.str x.1,.eptr (au x.2.1),.bptr 0 0,.bptr 3 0] [] [.cells [.bptr 1 0] [],.cells [.mapr 2] [],.map (bU PVal.bool x.2.2.1),.cells [.func (.func 60) [] [.eptr (au x.2.2.2),.bptr 0 0,.bptr 3 0]] []] (.tuple []) [] [.cells [.bptr 1 0] [],.cells [.mapr 2] [],.map (bU PVal.bool r),.cells [.func (.func 60) [] [.eptr (au x.2.2.2),.bptr 0 0,.bptr 3 0]] []]) (λrec d x r h=>CJ _ (λb a e c=>qaJ λr h=>d (b,a,e,c) r h) _ h) h
noncomputable def qwf:W:=f40.body.getD .skip
def qvZ:ZF Pg [] 40 f40 qwf:=zf call40 func40 rfl mixed
def gX(m:am)(a:aa):Q waA:=(sj ([]:V aa)).bind λb=>(nF a m b m).bind λc=>(lu c).bind λd=>O d
def Ua{m:am}{a:aa}:OV 40 [.agg (au m),.str a] (gX m a) (λr=>sl cS r) [(0,9)]:=qvZ.v<|tb λb c=>tb λh d=>tb λi e=>te (ew m)<|ti (.cn ⟨[2,3],[],[],[],[],[.map (bU PVal.bool b),.cells [.mapr 2] []],[.map (bU PVal.bool b),.cells [.mapr 0] []],.bptr 3 0,.bptr 1 0,[]⟩) (G7 _ c)<|tq (aI (cw J3 ([]:V aa)) trivial)<|tq (aI (aI (rM (bU PVal.bool b)) (qnF (n:=0) PVal.bool (λx=>trivial) b)) (aI (aI (rW []) (aI (xM [2,3] 0 2 rfl) trivial)) trivial))<|tq (xB [2,3] 1 3 0 rfl)<|tx qrc<|ts<|tx quD<|ts<|ts<|tc [1,3,2,4] (Dm _ d)<|ts<|tc [3,2] (NH e)<|tE
noncomputable def qvb:W:=f16.body.getD .skip
def quY:ZF Pg [27,32] 16 f16 qvb:=zf call16 func16 rfl mixed
section
variable(m:am)(c:waA)(d:Int)(b:waA)(a:Int)
def qR:az:=aR 33 [(2,.eptr (au m)),(5,sl cS b),(12,sl cS c),(13,.i6 d),(14,.i6 a)] [.dead] [((12,0),9),((5,0),9)]
def Ah(o:waA):az:=aR 33 [(5,sl cS o)] [.dead] [((5,0),9)]
instance qxY:KS 0 (qR m c d b a):=ks 1 rfl
instance qxV{o:waA}:KS 0 (Ah o):=ks 1 rfl
def fh:Q ((waA×Int)⊕(waA)):=if Y (a<d)then (cJ c a).bind λe=>(dM m e).bind λi=>if(i.1.Mode==1)then (app b ([e]:V aa)).bind λh=>O (.inl (h,dc (a+1))) else O (.inl (b,dc (a+1))) else O (.inr b)
def uv:Q waA:=loop (λ(e:waA×Int)=>fh m c d e.1 e.2) (b,a)
def JF:OL 0 (cA qvb 119) (fh m c d b a) (λ(p:waA×Int)=>qR m c d p.1 p.2) (λ_=>.exit 0) Ah (qR m c d b a):=quY.lx<|tF (tb λo i=>tb λq h=>tv (cT.ia i)<|tv (cX OR (.str o) [])<|tv (bM m)<|cP (fa _ h)<|tx Dl<|tx (eW q.1)<|ts<|tF (tb λr e=>tv (bG [o] 1 rfl)<|tv (cT.ap e)<|tE)<|tE)<|tE
def KO:=ug (s:=(b,a)) λe=>JF m c d e.1 e.2
end
def ig(m:am)(a:aa):Q waA:=(gX m a).bind λb=>(uv m b (b.length:Int) ([]:V aa) 0).bind λc=>O c
def DM{m:am}{a:aa}:OV 16 [.agg (au m),.str a] (ig m a) (λr=>sl cS r) [(0,9)]:=quY.v<|tb λd c=>tb λe b=>te (ew m)<|tv (bM m)<|cP (Ua _ c)<|ca (cT.ln d)<|cM (KO m d (d.length:Int) ([]:V aa) 0 _ b)<|tE
noncomputable def qmj:W:=f42.body.getD .skip
def qmi:ZF Pg [44,61,78] 42 f42 qmj:=zf call42 func42 rfl mixed
section
variable(name:aa)(m:am)(b a:Int)(c:V Int)
def DP:az:=aR 150 [(1,.str name),(2,.eptr (au m)),(5,.bptr 1 0),(6,.func (.func 66) [] [.bptr 1 0]),(41,.i6 b),(42,.i6 a)] [.dead,.cells [.nptr 1 106,sl (cI .u8) c] [(1,5)],.dead] []
def PG(o:V Int):az:=aR 150 [(1,.str name),(2,.eptr (au m)),(5,.bptr 1 0),(6,.func (.func 66) [] [.bptr 1 0])] [.dead,.cells [.nptr 1 106,sl (cI .u8) o] [(1,5)],.dead] []
def fZ:Q ((Int×V Int)⊕V Int):=if Y (a<b)then (SB m.Datas (O a) (O (dc (a+1)))).bind λd=>(ft (⟨d,[],[],[],[],[]⟩:am)).bind λe=>(d8 e c).bind λh=>O (.inl (dc (a+1),h)) else O (.inr c)
def nH:Q (V Int):=loop (λ(d:Int×V Int)=>fZ m b d.1 d.2) (a,c)
def MD:OL 0 (cA qmj 503) (fZ m b a c) (λ(o:Int×V Int)=>DP name m b o.1 o.2) (λ_=>.exit 0) (PG name m) (DP name m b a c):=qmi.l<|tF (tb λi d=>tb λp e=>tb λq h=>tw (kH m)<|tv (qj5.sc d)<|XD (Zi i) (Ze i)<|cP (sO _ e)<|tc [1] (fk _ h)<|tE)<|tE
def NY:=ug (s:=(a,c)) λd=>MD name m b d.1 d.2
end
section
variable(name:aa)(m:am)(b a:Int)(c:V Int)
def DQ:az:=aR 150 [(1,.str name),(2,.eptr (au m)),(5,.bptr 1 0),(6,.func (.func 66) [] [.bptr 1 0]),(58,.i6 b),(59,.i6 a)] [.dead,.cells [.nptr 1 106,sl (cI .u8) c] [(1,5)],.dead] []
def PH(o:V Int):az:=aR 150 [(1,.str name),(2,.eptr (au m)),(5,.bptr 1 0),(6,.func (.func 66) [] [.bptr 1 0])] [.dead,.cells [.nptr 1 106,sl (cI .u8) o] [(1,5)],.dead] []
def f0:Q ((Int×V Int)⊕V Int):=if Y (a<b)then (SB m.Measures (O a) (O (dc (a+1)))).bind λd=>(ft (⟨[],[],[],d,[],[]⟩:am)).bind λe=>(d8 e c).bind λh=>O (.inl (dc (a+1),h)) else O (.inr c)
def sy:Q (V Int):=loop (λ(d:Int×V Int)=>f0 m b d.1 d.2) (a,c)
def ME:OL 0 (cA qmj 1015) (f0 m b a c) (λ(o:Int×V Int)=>DQ name m b o.1 o.2) (λ_=>.exit 2) (PH name m) (DQ name m b a c):=qmi.l<|tF (tb λi d=>tb λp e=>tb λq h=>tw (kI m)<|tv (qj6.sc d)<|XD (Zj i) (Zf i)<|cP (sO _ e)<|tc [1] (fk _ h)<|tE)<|tE
def NZ:=ug (s:=(a,c)) λd=>ME name m b d.1 d.2
end
section
variable(name:aa)(m:am)(b a:Int)(c:V Int)
def DR:az:=aR 150 [(1,.str name),(2,.eptr (au m)),(5,.bptr 1 0),(6,.func (.func 66) [] [.bptr 1 0]),(75,.i6 b),(76,.i6 a)] [.dead,.cells [.nptr 1 106,sl (cI .u8) c] [(1,5)],.dead] []
def PI(o:V Int):az:=aR 150 [(1,.str name),(2,.eptr (au m)),(5,.bptr 1 0),(6,.func (.func 66) [] [.bptr 1 0])] [.dead,.cells [.nptr 1 106,sl (cI .u8) o] [(1,5)],.dead] []
def f7:Q ((Int×V Int)⊕V Int):=if Y (a<b)then (SB m.Quals (O a) (O (dc (a+1)))).bind λd=>(ft (⟨[],[],[],[],d,[]⟩:am)).bind λe=>(d8 e c).bind λh=>O (.inl (dc (a+1),h)) else O (.inr c)
def sA:Q (V Int):=loop (λ(d:Int×V Int)=>f7 m b d.1 d.2) (a,c)
def MF:OL 0 (cA qmj 2039) (f7 m b a c) (λ(o:Int×V Int)=>DR name m b o.1 o.2) (λ_=>.exit 4) (PI name m) (DR name m b a c):=qmi.l<|tF (tb λi d=>tb λp e=>tb λq h=>tw (kJ m)<|tv (qj7.sc d)<|XD (Zk i) (Zg i)<|cP (sO _ e)<|tc [1] (fk _ h)<|tE)<|tE
def N0:=ug (s:=(a,c)) λd=>MF name m b d.1 d.2
end
section
variable(name:aa)(m:am)(b:waG)(c a:Int)(d:V Int)
def uz:az:=aR 150 [(1,.str name),(2,.eptr (au m)),(5,.bptr 1 0),(6,.func (.func 66) [] [.bptr 1 0]),(91,sl aL b),(92,.i6 c),(93,.i6 a)] [.dead,.cells [.nptr 1 106,sl (cI .u8) d] [(1,5)],.dead] [((91,0),65)]
def DS(o:V Int):az:=aR 150 [(1,.str name),(2,.eptr (au m)),(5,.bptr 1 0),(6,.func (.func 66) [] [.bptr 1 0])] [.dead,.cells [.nptr 1 106,sl (cI .u8) o] [(1,5)],.dead] []
instance qyo:KS 0 (uz name m b c a d):=ks 3 rfl
instance qyb{o:List Int}:KS 0 (DS name m o):=ks 3 rfl
def iB:Q ((Int×V Int)⊕V Int):=if Y (a<c)then (cJ b a).bind λi=>(kG i).bind λe=>(d8 e d).bind λh=>O (.inl (dc (a+1),h)) else O (.inr d)
def zi:Q (V Int):=loop (λ(e:Int×V Int)=>iB b c e.1 e.2) (a,d)
def MG:OL 0 (cA qmj 4087) (iB b c a d) (λ(p:Int×V Int)=>uz name m b c p.1 p.2) (λ_=>.exit 6) (DS name m) (uz name m b c a d):=qmi.lx<|tF (tb λe o=>tb λq h=>tb λr i=>tv (ta.ia o)<|tv (sF e)<|tx Dl<|tx (eW e)<|tv (rA e [])<|cP (uC _ h)<|tc [1] (fk _ i)<|tE)<|tE
def N1:=ug (s:=(a,d)) λe=>MG name m b c e.1 e.2
end
section
variable(name:aa)(m:am)(a c:waA)(d b:Int)(e:V Int)
def uA:az:=aR 150 [(1,.str name),(2,.eptr (au m)),(5,.bptr 1 0),(6,.func (.func 66) [] [.bptr 1 0]),(15,sl cS a),(108,sl cS c),(109,.i6 d),(110,.i6 b)] [.dead,.cells [.nptr 1 106,sl (cI .u8) e] [(1,5)],.dead] []
def DT(o:V Int):az:=aR 150 [(1,.str name),(2,.eptr (au m)),(5,.bptr 1 0),(6,.func (.func 66) [] [.bptr 1 0]),(15,sl cS a)] [.dead,.cells [.nptr 1 106,sl (cI .u8) o] [(1,5)],.dead] []
instance qyp:KS 0 (uA name m a c d b e):=ks 3 rfl
instance qyc{o:List Int}:KS 0 (DT name m a o):=ks 3 rfl
def ga:Q ((Int×V Int)⊕V Int):=if Y (b<d)then (cJ c b).bind λp=>(dM m p).bind λh=>(kG h.1).bind λi=>(d8 i e).bind λo=>O (.inl (dc (b+1),o)) else O (.inr e)
def sB:Q (V Int):=loop (λ(h:Int×V Int)=>ga m c d h.1 h.2) (b,e)
def MH:OL 0 (cA qmj 16375) (ga m c d b e) (λ(s:Int×V Int)=>uA name m a c d s.1 s.2) (λ_=>.exit 8) (DT name m a) (uA name m a c d b e):=qmi.lx<|tF (tb λr p=>tb λq h=>tb λt i=>tb λw o=>tv (cT.ia p)<|tv (cX OR (.str r) [])<|tv (bM m)<|cP (fa _ h)<|tx Dl<|tx (eW q.1)<|tv (rA q.1 [])<|cP (uC _ i)<|tc [1] (fk _ o)<|tE)<|tE
def N2:=ug (s:=(b,e)) λh=>MH name m a c d h.1 h.2
end
section
variable(name:aa)(m:am)(b:waA)(c a:Int)(d:V Int)
def DU:az:=aR 150 [(1,.str name),(2,.eptr (au m)),(5,.bptr 1 0),(6,.func (.func 66) [] [.bptr 1 0]),(125,sl cS b),(126,.i6 c),(127,.i6 a)] [.dead,.cells [.nptr 1 106,sl (cI .u8) d] [(1,5)],.dead] []
def PJ(o:V Int):az:=aR 150 [(1,.str name),(2,.eptr (au m)),(5,.bptr 1 0),(6,.func (.func 66) [] [.bptr 1 0])] [.dead,.cells [.nptr 1 106,sl (cI .u8) o] [(1,5)],.dead] []
def gb:Q ((Int×V Int)⊕V Int):=if Y (a<c)then (cJ b a).bind λi=>(fb m i).bind λe=>(d8 e d).bind λh=>O (.inl (dc (a+1),h)) else O (.inr d)
def sC:Q (V Int):=loop (λ(e:Int×V Int)=>gb m b c e.1 e.2) (a,d)
def MI:OL 0 (cA qmj 32759) (gb m b c a d) (λ(p:Int×V Int)=>DU name m b c p.1 p.2) (λ_=>.exit 10) (PJ name m) (DU name m b c a d):=qmi.l<|tF (tb λo i=>tb λq e=>tb λr h=>tv (cT.ia i)<|tv (cX OR (.str o) [])<|tv (bM m)<|cP (Am _ e)<|tc [1] (fk _ h)<|tE)<|tE
def N3:=ug (s:=(a,d)) λe=>MI name m b c e.1 e.2
end
section
variable(b:waA)(c a:Int)(m:V Int)
def DV:az:=aR 150 [(5,.bptr 1 0),(6,.func (.func 66) [] [.bptr 1 0]),(139,sl cS b),(140,.i6 c),(141,.i6 a)] [.dead,.cells [.nptr 1 106,sl (cI .u8) m] [(1,5)],.dead] [((139,0),9)]
def PK(o:V Int):az:=aR 150 [(5,.bptr 1 0)] [.dead,.cells [.nptr 1 106,sl (cI .u8) o] [(1,5)],.dead] []
def iC:Q ((Int×V Int)⊕V Int):=if Y (a<c)then (cJ b a).bind λe=>(d8 e m).bind λd=>O (.inl (dc (a+1),d)) else O (.inr m)
def zj:Q (V Int):=loop (λ(d:Int×V Int)=>iC b c d.1 d.2) (a,m)
def MJ:OL 0 (cA qmj 65527) (iC b c a m) (λ(i:Int×V Int)=>DV b c i.1 i.2) (λ_=>.exit 12) PK (DV b c a m):=qmi.l<|tF (tb λh e=>tb λo d=>tv (cT.ia e)<|tv (cX OR (.str h) [])<|tc [1] (fk _ d)<|tE)<|tE
def N4:=ug (s:=(a,m)) λd=>MJ b c d.1 d.2
end
def uy(m:am)(a:aa):Q aa:=(dM m a).bind λt=>if(t.1.Mode==1)then (kG t.1).bind λw=>(d8 w ([]:V Int)).bind λx=>(BT x).bind λy=>O y else (nH m (m.Datas.length:Int) 0 ([]:V Int)).bind λe=>(sy m (m.Measures.length:Int) 0 e).bind λh=>(sA m (m.Quals.length:Int) 0 h).bind λi=>(fF m).bind λc=>(zi c (c.length:Int) 0 i).bind λo=>(mQ m a).bind λb=>(sB m b.1 (b.1.length:Int) 0 o).bind λp=>(sC m b.2 (b.2.length:Int) 0 p).bind λq=>(ig m a).bind λd=>(zj d (d.length:Int) 0 q).bind λr=>(BT r).bind λs=>O s
def TQ{m:am}{a:aa}:OV 42 [.agg (au m),.str a] (uy m a) (λr=>.str r) []:=qmi.v<|tb λX z=>te (ew m)<|qwX qq1<|tv (bM m)<|cP (fa _ z)<|tx Dl<|tx (eW X.1)<|ts<|tF (tb λr3 A=>tb λr4 B=>tb λr5 E=>tv (rA X.1 [])<|cP (uC _ A)<|tc [1] (fk _ B)<|tc [1] (Np E)<|tE)<|tb λF e=>tb λH h=>tb λL i=>tb λc t=>tb λP o=>tb λb w=>tb λR p=>tb λS q=>tb λd x=>tb λa0 s=>tb λa1 y=>tw (kH m)<|ca (qj5.ln m.Datas)<|cM (NY a m (m.Datas.length:Int) 0 ([]:V Int) _ e)<|tw (kI m)<|ca (qj6.ln m.Measures)<|cM (NZ a m (m.Measures.length:Int) 0 F _ h)<|tw (kJ m)<|ca (qj7.ln m.Quals)<|cM (N0 a m (m.Quals.length:Int) 0 H _ i)<|tv (bM m)<|cP (Ao _ t)<|ca (ta.ln c)<|cM (N1 a m c (c.length:Int) 0 L _ o)<|tv (bM m)<|cP (KU _ w)<|ca (cT.ln b.1)<|cM (N2 a m b.2 b.1 (b.1.length:Int) 0 P _ p)<|ca (cT.ln b.2)<|cM (N3 a m b.2 (b.2.length:Int) 0 R _ q)<|tv (bM m)<|cP (DM _ x)<|ca (cT.ln d)<|cM (N4 d (d.length:Int) 0 S _ s)<|tc [1] (Np y)<|tE
noncomputable def qwd:W:=f18.body.getD .skip
def qvX:ZF Pg [] 18 f18 qwd:=zf call18 func18 rfl mixed
def eG(m:am)(a:aa):Q Int:=(dM m a).bind λb=>if(!b.2)then O 0 else (uy m a).bind λc=>(wX c).bind λd=>O d
def mj{m:am}{a:aa}:OV 18 [.agg (au m),.str a] (eG m a) (λr=>.i6 r) []:=qvX.v<|tb λe b=>te (ew m)<|tv (bM m)<|cP (fa _ b)<|tx Dl<|tx (eW e.1)<|tF tE<|tb λh c=>tb λi d=>tv (bM m)<|cP (TQ _ c)<|cP (xS _ d)<|tE
noncomputable def qrB:W:=f22.body.getD .skip
def qrx:ZF Pg [53,59] 22 f22 qrB:=zf call22 func22 rfl mixed
section
variable(v e:am)(b:waG)(c a:Int)(d:V (aa×Int))
def qS:az:=aR 60 [(2,.eptr (au v)),(3,.eptr (au e)),(5,.mapr 2),(15,sl aL b),(16,.i6 c),(17,.i6 a)] [.dead,.dead,.map (bU (PVal.int .i64) d)] []
def Aj(o:V (aa×Int)):az:=aR 60 [(3,.eptr (au e)),(5,.mapr 2)] [.dead,.dead,.map (bU (PVal.int .i64) o)] []
instance qxZ:KS 0 (qS v e b c a d):=ks 3 rfl
instance qxW{o:((List (aa×Int)))}:KS 0 (Aj e o):=ks 3 rfl
def Ai:Q ((Int×(V (aa×Int)))⊕(((V (aa×Int))))):=if Y (a<c)then (cJ b a).bind λh=>(eG v h.Name).bind λi=>O (.inl (dc (a+1),mq d h.Name i)) else O (.inr d)
def PD:Q (((V (aa×Int)))):=loop (λ(h:Int×(V (aa×Int)))=>Ai v b c h.1 h.2) (a,d)
def JG:OL 0 (cA qrB 119) (Ai v b c a d) (λ(o:Int×(V (aa×Int)))=>qS v e b c o.1 o.2) (λ_=>.exit 0) (Aj e) (qS v e b c a d):=qrx.lx<|tF (tb λm i=>tb λp h=>tv (ta.ia i)<|tv (sF m)<|tx Dl<|tx (eW m)<|qfr [0,0,2,0,0,16,56,127]<|ts<|tv (bM v)<|ts<|cP (mj _ h)<|qo4 (RP (f:=(PVal.int .i64)) underlying79 underlying9 d m.Name p)<|tE)<|tE
def KQ:=ug (s:=(a,d)) λh=>JG v e b c h.1 h.2
end
section
variable(v:am)(B:waA)(n:Int)(ok:K)(E:waG)(F H:Int)(L:V (aa×Int))(m:aa)(P:waA)(R:Int)(S:aa)(X:Int)(m7:waD)(m8:waF)(m9:rf)(a:md)(b:Int)(c:K)(d:waA)(e:waH)(h:waJ)(i:waI)(p:Int)(q:aa)(r:md)(s:waA)(t:Int)(w:aa)(x:Int)(y z A:m6)
def DN:Q K:=if(!ok)then O T else (eG v m).bind λo=>O (n !=o)
def KP:OU 0 (cA qrB 64494) (DN v n ok m) .normal (λo=>[(11,.undef),(12,.undef),(52,.bool o)]) (aR 60 [(3,.eptr (au v)),(5,.mapr 2),(8,sl cS B),(10,.bptr 3 0),(11,.i6 n),(12,.bool ok),(30,sl aL E),(31,.i6 F),(32,.i6 H)] [.dead,.dead,.map (bU (PVal.int .i64) L),.cells [.str m,sl cS P,.i6 R,.str S,.i6 X,sl al m7,sl aU m8,sl bz m9,sl aj a,.i6 b,.bool c,sl cS d,sl bS e,sl eP h,sl bT i,.i6 p,.str q,sl aj r,sl cS s,.i6 t,.str w,.i6 x,sl af y,sl af z,sl af A] []] [((8,0),9)]):=qrx.j<|tf (λc7=>tg 3 c7<|tE) λc7=>tb λr8 a0=>tg 3 c7<|tv (bM v)<|ts<|cP (mj _ a0)<|tE
end
section
variable(v:am)(c:waG)(d:Int)(e:V (aa×Int))(b:waA)(a:Int)
def qT:az:=aR 60 [(3,.eptr (au v)),(5,.mapr 2),(8,sl cS b),(30,sl aL c),(31,.i6 d),(32,.i6 a)] [.dead,.dead,.map (bU (PVal.int .i64) e)] [((8,0),9)]
def Al(o:waA):az:=aR 60 [(8,sl cS o)] [.dead,.dead,.map (bU (PVal.int .i64) e)] [((8,0),9)]
instance qya:KS 0 (qT v c d e b a):=ks 3 rfl
instance qxX{o:waA}:KS 0 (Al e o):=ks 3 rfl
def Ak:Q ((waA×Int)⊕(waA)):=if Y (a<d)then (cJ c a).bind λh=>(DN v ((oe e h.Name).getD 0) ((oe e h.Name).isSome) h.Name).bind λm=>if m then (app b ([h.Name]:V aa)).bind λi=>O (.inl (i,dc (a+1))) else O (.inl (b,dc (a+1))) else O (.inr b)
def PE:Q waA:=loop (λ(h:waA×Int)=>Ak v c d e h.1 h.2) (b,a)
def JH:OL 0 (cA qrB 503) (Ak v c d e b a) (λ(p:waA×Int)=>qT v c d e p.1 p.2) (λ_=>.exit 2) (Al e) (qT v c d e b a):=qrx.lx<|tF (tb λh o=>tb λr m=>tv (ta.ia o)<|tv (sF h)<|tx Dl<|tx (eW h)<|ts<|tv (qlA (f:=(PVal.int .i64)) underlying79 underlying9 qw9 e h.Name)<|jC 0<|cM (KP v b ((oe e h.Name).getD 0) ((oe e h.Name).isSome) c d a e h.Name h.Params h.Body.Op h.Body.Name h.Body.N h.Body.Kids h.Body.Params h.Body.Alts h.Body.Types h.Mode h.Typed h.Sig.Vars h.Sig.Needs h.Sig.Abs h.Sig.Bounds h.Sig.Type_.Op h.Sig.Type_.Name h.Sig.Type_.Args h.Sig.Type_.Names h.Sig.Type_.Pred.Op h.Sig.Type_.Pred.Name h.Sig.Type_.Pred.N h.Sig.Type_.Pred.Kids h.Sig.Type_.Preds h.Sig.Metric _ m)<|tF (tb λq i=>ts<|tv (bG [h.Name] 1 rfl)<|tv (cT.ap i)<|tE)<|tE)<|tE
def KR:=ug (s:=(b,a)) λh=>JH v c d e h.1 h.2
end
def BV(a b:am):Q waA:=(PD a a.Defs (a.Defs.length:Int) 0 ([]:V (aa×Int))).bind λd=>(PE b b.Defs (b.Defs.length:Int) d ([]:V aa) 0).bind λc=>O c
def DO{a b:am}:OV 22 [.agg (au a),.agg (au b)] (BV a b) (λr=>sl cS r) [(0,9)]:=qrx.v<|tb λh d=>tb λe c=>te (ew a)<|te (ew b)<|tw (ck a)<|ca (ta.ln a.Defs)<|cM (KQ a b a.Defs (a.Defs.length:Int) 0 ([]:V (aa×Int)) _ d)<|tw (ck b)<|ca (ta.ln b.Defs)<|cM (KR b b.Defs (b.Defs.length:Int) h ([]:V aa) 0 _ c)<|tE
noncomputable def qrA:W:=f11.body.getD .skip
def quX:ZF Pg [15] 11 f11 qrA:=zf call11 func11 rfl mixed
section
variable(v c:waA)(b a:Int)
def EU:az:=aR 26 [(0,sl cS v),(1,sl cS c),(12,.i6 b),(13,.i6 a)] [] []
def Nk(o:Unit⊕(Unit)):Exit:=match o with|(.inl _)=>.ret|(.inr _)=>.exit 0
def Nl(o:Unit⊕(Unit)):az:=match o with|(.inl o)=>aR 26 [(4,.bool Z)] [] []|(.inr o)=>aR 26 [] [] []
def Nj:Q (Int⊕(Unit⊕(Unit))):=if Y (a<b)then (cJ v a).bind λd=>(cJ c a).bind λe=>if(!(d==e))then O (.inr (.inl ())) else O (.inl (dc (a+1))) else O (.inr (.inr ()))
def SP:Q (Unit⊕(Unit)):=loop (λ(d:Int)=>Nj v c b d) a
def TB:OL 0 (cA qrA 119) (Nj v c b a) (λ(m:Int)=>EU v c b m) Nk Nl (EU v c b a):=quX.l<|tF (tb λh d=>tb λi e=>qfr [0,0,3,7,0,0,48,112,255]<|tv (cT.ia d)<|tv (cX OR (.str h) [])<|tv (cT.ia e)<|tv (cX OR (.str i) [])<|tF tE<|tE)<|tE
def Ke:OK 0 (.loop (cA qrA 119)) (SP v c b a) Nk Nl (EU v c b a):=NA λ_=>TB _ _ _ _
end
def Ph(a c:waA):Q K:=if((a.length:Int)!=(c.length:Int))then O Z else (SP a c (a.length:Int) 0).bind λb=>match b with|(.inl b)=>O Z|(.inr b)=>O T
def Kf{a c:waA}:OV 11 [sl cS a,sl cS c] (Ph a c) (λr=>.bool r) []:=quX.v<|ca (cT.ln a)<|ca (cT.ln c)<|tF tE<|ca (cT.ln a)<|t2 (λd b=>cM (Ke a c (a.length:Int) 0 _ b)<|tE) λd b=>cM (Ke a c (a.length:Int) 0 _ b)<|tE
abbrev qvr:Nat:=12
abbrev qks:Nat:=32
noncomputable def qfH:W:=f12.body.getD .skip
noncomputable def TL:W:=f32.body.getD .skip
def qwc:ZF Pg [12,20,26,36] qvr f12 qfH:=zf call12 func12 rfl mixed
def qiv{Γ:aS}{W:J}{cv:D}{name:aa}(hB:zb GE Γ W)(q:VR Γ [] W (.eptr (cS name)) cv)(x:aa):Calls Pg qks #[encStr x,cv] W λe w'=>e=.returned (.bool (x==name))/\w'=W:=by
 have hS:=hB.fresh (P:=Pg) (a:=#[]) 0 (tmps:=[]) rfl (λt p v z=>by simp);let⟨v5,r,s⟩:=xj (P:=Pg) (t:=9) hS q (show mt Pg 9 (.eptr (cS name)) []=O (.str name)from cX OR (.str name) []);have h:v5=encStr name:=by cases s;rfl
 subst h;refine calls_of_wp func32 (c:=TL) rfl ?_;have hn:f32.ntmps=7:=by rfl
 refine(λ(y:∀b:Act,b.tmps.size=7->b.tmps[0]? =O (encStr x)->b.tmps[1]? =O cv->b.defers=[]->TL.wp Pg _ b W)=>y _ ?_ ?_ ?_ rfl) ?_;.rfl
 .rfl
 .rfl
 intro b B z1 z2 z3;have hb:TL=.seq (.region (Rd (aE TL [Z])) #[dv (aE TL [Z]) 0] Z) (.seq (.region (Rd (aE TL [T,Z])) #[dv (aE TL [T,Z]) 0,dv (aE TL [T,Z]) 1,dv (aE TL [T,Z]) 2,dv (aE TL [T,Z]) 3] Z) .ret):=by rfl
 rw[hb];have E:(dv (aE TL [Z]) 0).dst=O 3:=by rfl
 have o1:(dv (aE TL [T,Z]) 0).op=.move (.tmp 0):=by rfl
 have F:(dv (aE TL [T,Z]) 0).dst=O 4:=by rfl
 have o2:(dv (aE TL [T,Z]) 1).op=.load 9 (.tmp 1):=by rfl
 have H:(dv (aE TL [T,Z]) 1).dst=O 5:=by rfl
 have o3:(dv (aE TL [T,Z]) 2).op=.binOp .eql 9 (.tmp 4) (.tmp 5) (qvi (dv (aE TL [T,Z]) 2)):=by rfl
 have L:(dv (aE TL [T,Z]) 2).dst=O 6:=by rfl
 have o4:(dv (aE TL [T,Z]) 3).op=.assign (.tmp 6):=by rfl
 have R:(dv (aE TL [T,Z]) 3).dst=O 3:=by rfl
 refine wp_seq (CX (da (o:=dv (aE TL [Z]) 0) (by rfl) (by rfl) (v:=.bool Z) (w':=W) (by rfl) ?_));rw[E];show Code.wp Pg _ _ _ W;refine wp_seq (CX (da (o:=dv (aE TL [T,Z]) 0) (by rfl) (by rfl) (v:=encStr x) (w':=W) ?_ ?_));.have:(b.put (O 3) (.bool Z)).eval (.tmp 0)=encStr x:=bu (by grind [cR]);simp[execOp,o1,this]
 rw[F];refine da (o:=dv (aE TL [T,Z]) 1) (by rfl) (by rfl) (v:=encStr name) (w':=W) ?_ ?_;.have:((b.put (O 3) (.bool Z)).put (O 4) (encStr x)).eval (.tmp 1)=cv:=bu (by grind [cR]);simp[execOp,o2,this,r]
 rw[H];generalize i:((b.put (O 3) (.bool Z)).put (O 4) (encStr x)).put (O 5) (encStr name)=A2;have A:A2.tmps.size=7:=by grind [ct]
 have x4:A2.tmps[4]? =O (encStr x):=by rw[<-i];simp only[cR,ct,B];rfl
 have x5:A2.tmps[5]? =O (encStr name):=by rw[<-i];simp only[cR,ct,B];rfl
 have x3:A2.defers=[]:=by grind [aW]
 clear i;refine da (o:=dv (aE TL [T,Z]) 2) (by rfl) (by rfl) (v:=.bool (x==name)) (w':=W) ?_ ?_
 .have S:A2.eval (.tmp 4)=encStr x:=bu x4;have X:A2.eval (.tmp 5)=encStr name:=bu x5;have z:qdT Pg .eql 9 (.str x) (.str name)=O (.bool (x==name)):=rfl;let⟨vb,d,m⟩:=Wa (P:=Pg) (w:=W) (Γ:=Γ) (bs:=[]) (vx:=encStr x) (vy:=encStr name) (.str x) (.str name) (.tmp 4) (.tmp 5) z;have hv:vb=.bool (x==name):=by cases m;rfl
  subst hv;simp only[execOp,o3,Sem.run_bind,S,X]at d ⊢;rw[d];rfl
 rw[L];refine da (o:=dv (aE TL [T,Z]) 3) (by grind) (by rfl) (v:=.bool (x==name)) (w':=W) ?_ ?_;.have:(A2.put (O 6) (.bool (x==name))).eval (.tmp 6)=.bool (x==name):=bu (by simp only[cR,ct,A];rfl);simp[execOp,o4,this]
 rw[R];show Code.wp Pg _ _ _ W;refine wp_ret ⟨by simp only[aW];exact x3,.bool (x==name),?_,rfl,rfl⟩;have hg:((A2.put (O 6) (.bool (x==name))).put (O 3) (.bool (x==name))).tmps[3]? =O (.bool (x==name)):=by simp only[cR,ct,A];rfl
 simp[results,vaG,hg]
def qnP{d X:aS}{E S:J}{cv v5:D}{p:aa->K}{l:V aa}{ar:Nat->Q kg}(a7:zb GE d E)
  (y:∀(bb:J)(x:aa),(∀j,j<E.heap.size->bb.heap[j]? =E.heap[j]?)->FnGives Pg qks #[cv] #[encStr x] (.bool (p x)) bb)
  (h:SR Pg (wU GE d E) X [] ar S #[v5] ⟨[sl cS l],[],[((0,0),eS)]⟩) (hl:l.length<=bO) (b3:l≠[]):
  Calls Pg qoW #[v5,.func (.func qks) #[] #[cv]] S λe w3=>∃v7 a6,e=.returned v7/\VR a6 [] w3 (sl cS (l.filter λs=>!p s)) v7/\qmY d a6 E w3:=by
 have H:∀b,b<E.heap.size->S.heap[b]? =E.heap[b]?:=λb hb=>(h.step.keep b hb id).1
 let⟨u,v,hu,a2,a1,an⟩:=h.ot 0 0 eS (by simp)
 have ao:u=v5:=by simp_all
 subst ao
 have L:VR X [] S (sl cS l) u:=h.tm 0 _ _ rfl rfl
 unfold sl at L
 generalize ab:l.map cS=es at L
 cases L with
 |sliceNil=>simp_all
 |sliceE x cap=>simp_all
 | slice _ b off cap m sz vals hz0 hcap hg hm hszs hc hvv =>
  rw[Ef]at a2
  cases a2
  let⟨k,xs,⟨b5,B⟩,b7⟩:=a1
  rcases B with⟨B,_⟩|⟨g',cap',cur,B,_,hheap,hkc,hcm,hcs,htake⟩
  .grind
  .cases B
   subst ab
   rw[qnN,vbv]at hcs htake
   have a0:(l.map cS).length=l.length:=by simp
   have a9:l.length<=cap:=by omega
   have b0:cur.size=cap:=by omega
   have a8:=h.on b _ (an b rfl)
   have b1:E.heap.size<=b:=a8.2.resolve_left id
   have F:=SC (Γ:=X) hszs hc hvv
   have a3:cur.toList.take l.length=l.map λs=>Value.string ⟨s.toArray⟩:=by
    refine va2 λi=>?_;by_cases hi:i<l.length;.rw[vay hi];simp only[vaK,o8,m3 hi,or];have e1:=F i hi;rw[s7,cell_of_row S b i cur eS _ hheap,getElem!_pos l i hi]at e1;omega
    grind
   have z:=AnyE.slices_DeleteFunc (P:=Pg) Tryz.df31 encStr (λ_=>rfl) p qks #[cv] call32 [] Tryz.zeroValue9 b 0 cap l.toArray S
    (λbb x hb=>y bb x λj hj=>(hb.block j (R3 hj h.step.size)).trans (H j hj))
    (λn os dk x b2=>y _ x λj hj=>by
     let⟨k1,_⟩:=BD (n:=n) (os:=os) dk.toList [] hheap (by simp_all) (by simp);rw[Array.toArray_toList]at k1;exact(k1 j (R3 hj h.step.size) (by omega)).trans (H j hj))
    (P1 hheap a3) (by grind [bO]) (by omega)
   have a4:l.toArray.size=l.length:=by simp
   rw[a4]at z
   rw[a0]
   refine z.mono λe w3 he=>?_
   obtain⟨rfl,q,rfl⟩:=he
   generalize hR:(l.filter λx=>!p x)=r
   have b4:r.length<=l.length:=by grind
   let⟨k1,k2,o,k3,k4,k5⟩:=BD (n:=q) (os:=#[]) (r++List.replicate (l.length - r.length) []) r hheap (by simp_all) (by simp)
   rw[grow_empty]at k1 k2 k3
   refine⟨_,d.put b r.length,rfl,?_,λx n a=>?_,λx a=>⟨?_,d.put_other (by omega)⟩,h.step.os,h.step.tape,h.step.output,m0 h.step.size k2,m0 h.step.drawn (DY (vbq _ _))⟩
   .have:=VR.slice (Γ:=d.put b r.length) (bs:=[]) (w:=putRow encStr (Sort.ahead S q) b 0 (r++List.replicate (l.length - r.length) []).toArray) (r.map cS) b 0 cap r.length 1 (λi _=>.string ⟨(r[i]!).toArray⟩) (by decide) (by grind) (d.put_same _ _) (by simp)
     (λi x a=>by rw[o8]at a;cases A:r[i]? with
      |none=>rw[A]at a;cases a
      |some s=>rw[A]at a;cases a;rfl)
     (λi x k q' a hq=>by
      rw[o8]at a;cases A:r[i]? with
      |none=>simp_all
      |some s=>
       rw[A]at a;cases a;have ad:=aq A;have hk:k=0:=by have:=aq hq;simp[cS]at this;exact this
       subst hk;rw[show 0+i * 1+0=i by omega,cell_of_row _ b i o eS _ k3];have h1:(o.toList.take r.length)[i]? =(r.map λs=>Value.string ⟨s.toArray⟩)[i]?:=by rw[k5]
       rw[vay ad]at h1;simp only[vaK,o8]at h1;rw[h1];grind)
     (λi x k q' a hq=>by
      rw[o8]at a;cases A:r[i]? with
      |none=>rw[A]at a;cases a
      |some s=>
       rw[A]at a;cases a;have hk:k=0:=by have:=aq hq;simp[cS]at this;exact this
       subst hk;simp[cS]at hq;subst hq;have:r[i]! =s:=by rw[vcb,A];rfl
       rw[this];exact .str s)
    rw[va0]at this
    exact this
   .by_cases R:x=b
    .subst R;rw[d.put_same]at a;cases a;exact⟨o,eS,(0,0),k3,by omega⟩
    .rw[d.put_other R]at a
     let⟨c,t,fr,q1,q2⟩:=a7.wi x n a
     have a5:=gM q1
     exact⟨c,t,fr,((k1 x (R3 a5 h.step.size) R).trans (H x a5)).trans q1,q2⟩
   grind
section
variable(d:D)(a:V ba)(c:Int)(v:V aa)(b:Int)
def uw:az:=aR 47 [(3,.val d),(9,sl cS v),(30,sl aL a),(31,.int .i64 c),(32,.int .i64 b)] [] [((30,0),65),((9,0),eS)]
def pq(o:V aa):az:=aR 47 [(3,.val d),(9,sl cS o)] [] [((9,0),eS)]
instance qyY:KS 0 (uw d a c v b):=⟨rfl,(I6 (aI hV (aI (up (cw J3 v)) (aI (up (cw DK a)) (aI hV (aI hV hV)))))),hV⟩
instance qyW{o:List aa}:KS 0 (pq d o):=⟨rfl,(I6 (aI hV (aI (up (cw J3 o)) trivial))),hV⟩
def KT:Q ((V aa×Int)⊕V aa):=if Y (b<c)then (cJ a b).bind λh=>(app v ([h.Name]:V aa)).bind λe=>O (.inl (e,dc (b+1))) else O (.inr v)
def HR:Q (V aa):=loop (λ(e:V aa×Int)=>KT a c e.1 e.2) (v,b)
def Ru:OL 0 (cA qfH 503) (KT a c v b) (λ(m:V aa×Int)=>uw d a c m.1 m.2) (λ_=>.exit 0) (pq d) (uw d a c v b):=qwc.lx<|tF (tb λi h=>tb λo e=>tv (ta.ia h)<|tv (sF i)<|tx Dl<|tx (eW i)<|ts<|tv (bG [i.Name] 1 rfl)<|tv (cT.ap e)<|tE)<|tE
def TO:OJ 0 (.loop (cA qfH 503)) (HR a c v b) (.exit 0) (pq d) (uw d a c v b):=ug λ_=>Ru _ _ _ _ _
end
def XW(m:am)(a:aa):Q (V aa):=(dM m a).bind λh=>if(!h.2)then N else (mQ m a).bind λc=>(app c.1 c.2).bind λe=>(fF m).bind λd=>(HR d (d.length:Int) e 0).bind λb=>if(!b.isEmpty&&Y (b.length<=bO))then K9 (b.filter λs=>!(s==a)) []else N
abbrev qqS:W:=aE qfH [Z]
abbrev qqQ:W:=aE qfH [T,Z]
abbrev qjg:W:=aE qfH [T,T,Z]
abbrev qqT:W:=aE qfH [T,T,T,Z]
abbrev qqR:W:=aE qfH [T,T,T,T,Z]
abbrev wD:W:=aE qfH [T,T,T,T,T,Z]
abbrev qmG:W:=aE qfH [T,T,T,T,T,T,Z]
def qny:qfH=.seq qqS (.seq qqQ (.seq (.region (qaI qjg) (kP qjg) Z) (.seq qqT (.seq qqR (.seq (.region (Rd wD) #[dv wD 0,dv wD 1,dv wD 2,dv wD 3] Z) (.seq qmG .ret)))))):=by rfl
abbrev qo1(m:am)(a:aa):az:=aR 47 [(2,.eptr (au m)),(3,.eptr (cS a))] [.dead,.dead] []
abbrev qqP(m:am)(a:aa):az:=aR 47 [(2,.eptr (au m)),(3,.eptr (cS a)),(21,.agg (au m)),(22,.str a)] [.dead,.dead] []
abbrev qlH(m:am)(a:aa)(b:D):az:=aR 47 [(2,.eptr (au m)),(3,.val b),(21,.agg (au m)),(22,.str a)] [] []
abbrev qup(m:am)(a:D)(c:V aa×V aa):az:=aR 47 [(2,.eptr (au m)),(3,.val a),(7,sl cS c.1),(8,sl cS c.2)] [] [((7,0),eS)]
abbrev quq(m:am)(a:D)(l:V aa):az:=aR 47 [(2,.eptr (au m)),(3,.val a),(9,sl cS l)] [] [((9,0),eS)]
abbrev qvB(l:V aa):az:=aR 47 [(4,sl cS l)] [] []
def qur(m:am)(a:aa):dz Pg GE 0 qqS (EX .normal (qo1 m a)) (aR 47 [(0,.agg (au m)),(1,.str a)] [] []):=by have z:=se (ew m)<|se (qon a)<|eF .normal (qo1 m a);exact fU (A:=[]) mixed z (by rfl)
def quu{m:am}{a:aa}{r:ba×K}(h:dM m a=O r)(c:(!r.2)=Z):dz Pg GE 0 qqQ (EX .normal (qo1 m a)) (qo1 m a):=by have z:=sv (bM m)<|sv (cX OR (.str a) [])<|qhB (fa r h)<|sx Dl<|sx (eW r.1)<|sg 0 c<|qvp 0 .normal (qo1 m a) rfl (I6 (aI (Ro (jI m)) (aI (Ro (J3 a)) trivial))) (aI hV (aI hV hV));exact Ux (A:=[12]) mixed z (by rfl)
def qus(m:am)(a:D){c:V aa×V aa}{l:V aa}(h:app c.1 c.2=O l):dz Pg GE 0 qqT (EX .normal (quq m a l)) (qup m a c):=by have z:=sv (cT.ap h)<|eF .normal (quq m a l);exact fU (A:=[26]) mixed z (by rfl)
def qut(m:am)(b:D){a:V ba}{l o:V aa}(h:fF m=O a)(c:HR a (a.length:Int) l 0=O o):dz Pg GE 0 qqR (EX .normal (pq b o)) (quq m b l):=by have z:=sv (bM m)<|qhB (Ao a h)<|qvK (ta.ln a)<|qwU (TO b a (a.length:Int) l 0 o c)<|eF .normal (pq b o);exact fU (A:=[]) mixed z (by rfl)
def qqU(l r:V aa)(h:K9 l []=O r):dz Pg GE 0 (.seq qmG .ret) (EX .ret (qvB r)) (aR 47 [(9,sl cS l)] [] []):=by have z:=qhB (VX h)<|eF .ret (qvB r);exact fU (A:=[]) mixed z (by rfl)
def SR.alone{P:I}{E:qy}{Γ:aS}{A:bC}{z:Nat->Q kg}{w:J}{a:Array D}{r:az}{t:Nat}{p:U}{v:D}{e:G}(h:SR P E Γ A z w a r)(X:r.tmps[t]? =O p)(hv:a[t]? =O v)(S:((t,0),e)∈r.own)(R:p.cl 0):∃o,SR P E Γ [] o w #[v] ⟨[p],[],[((0,0),e)]⟩:=by
 refine⟨λb=>if z b=O (.tmp t 0)then O (.tmp 0 0)else N,{
  wi:=h.wi
  sz:=rfl
  tm:=λk q u c m=>?_
  bl:=rfl
  bx:=λi b B y=>by simp
  inj:=λi j b y=>by simp
  bn:=λi b y=>by simp_all
  on:=λb L H=>?_
  ot:=λk j F s=>?_
  ob:=λi j e d own b hB=>by simp
  gl:=λg d x=>(h.gl g d x).clo (show ie 0 d from h.gc g d x)
  gc:=h.gc
  gx:=h.gx
  step:=h.step}⟩
 .match k,c,m with|0,c,m=>simp at c m;subst c;subst m;exact(h.tm t p v X hv).clo R|k+1,c,_=>simp_all
 .split at H;.rename_i hx;exact h.on b _ hx
  simp_all
 .simp at s;obtain⟨⟨rfl,rfl⟩,rfl⟩:=s;let⟨u,v',h1,h2,h3,h4⟩:=h.ot t 0 F S;simp_all
def Zr{m:am}{d:aa}{r:V aa}(h:XW m d=O r):CC Pg GE qvr [.agg (au m),.str d] (sl cS r) []:=by
 let⟨r1,c9,h⟩:=L0 h;rcases Hr h with⟨_,h⟩|⟨c1,h⟩;.grind
 let⟨r3,cd,h⟩:=L0 h;let⟨l4,c6,h⟩:=L0 h;let⟨r5,cg,h⟩:=L0 h;let⟨o9,c8,h⟩:=L0 h;rcases Hr h with⟨c2,h⟩|⟨_,h⟩;rotate_left;.grind
 rw[ne,oy]at c2;let⟨c2,c3⟩:=c2;have c7:o9≠[]:=by simp_all
 refine⟨aI (jI m) (aI hV hV),call12,λΓ bs ow w vs hS=>calls_of_wp func12 (c:=qfH) rfl ?_⟩;obtain rfl:bs=[]:=IO hS.bl;have e9:vs.size=2:=hS.sz;have hB:zb GE Γ w:=hS.base;have hE:th GE 0 (wU GE Γ w):=hB.good;have hn:f12.ntmps=47:=by rfl
 have h0:SR Pg (wU GE Γ w) Γ [] (λ_=>N) w (vs++Array.replicate (47 - 2) undef) (aR 47 [(0,.agg (au m)),(1,.str d)] [] []):=by
  refine hB.fresh (a:=vs++Array.replicate (47 - 2) undef) 0 (tmps:=[.agg (au m),.str d]++List.replicate 45 .undef) (by simp_all) λt p v z hv=>?_;by_cases ht:t<2;.rw[B2 (by omega)]at z;rw[va3 (by omega)]at hv;exact hS.tm t p v z hv
  .rw[Lf (by simp_all),vaW]at z;split at z<;>cases z;exact .undef v
 refine(λ(cn:∀A0:Array D,A0=vs++Array.replicate (47 - 2) undef->qfH.wp Pg _ ⟨A0,[]⟩ w)=>cn _ ?_) ?_;.simp_all
 rintro _ rfl;rw[qny];refine wp_seq (wp_mono (qur m d N (wU GE Γ w) [] ⟨vs++Array.replicate (47 - 2) undef,[]⟩ w hE rfl ⟨Γ,[],_,h0,λi F=>absurd F (w0 _)⟩) ?_);rintro e ⟨a1,dx⟩ w1 ⟨rfl,ek,⟨de,bq,d0,h1,_⟩,rfl,rfl⟩;refine wp_seq (wp_mono (quu c9 c1 N (wU GE Γ w) [] ⟨a1,[]⟩ w1 hE rfl ⟨de,bq,d0,h1,λi F=>absurd F (w0 _)⟩) ?_);rintro e ⟨a2,e0⟩ w2 ⟨rfl,el,⟨dk,b2,d5,h2,_⟩,rfl,rfl⟩;refine wp_seq (CX ?_);rw[show List.range (kP qjg).size=[0,1]++([2,3,4,5,6,7]++[]) by rfl];have z1:=sv (bM m)<|sv (cX OR (.str d) [])<|en (fr (qqP m d));refine Lh (A:=[20]) (bs0:=b2) (E:=wU GE Γ w) (K:=λst=>FG st (qqP m d)) (λq b3 bi a3 w3 dd hx S hX=>?_) ((kP qjg).toList.take 2) _ 0 dk b2 d5 a2 w2 (qo1 m d) (by rfl) (xi (by rfl)) h2 ⟨[],by simp⟩ (Lm z1 (by rfl));clear hX;let⟨q,b3,bi,y,_⟩:=(S.weak (P:=Pg) (m:=0)) (wU GE Γ w) [] ⟨a3,[]⟩ w3 rfl ⟨q,b3,bi,hx,λi F=>absurd F (w0 _)⟩;simp only at y;clear hx S;have B:zb GE q w3:=y.base;have b7:th GE 0 (wU GE q w3):=B.good;have ci:a3.size=47:=y.sz;obtain⟨cv,ab⟩:∃cv,a3[3]? =O cv:=⟨a3[3]'(by omega),by simp⟩
 have c5:VR q [] w3 (.eptr (cS d)) cv:=(y.tm 3 _ _ rfl ab).clo (show ie 0 (cS d)from J3 d);have bc:ie 0 (qqP m d).tmps:=I6 (aI (Ro (jI m)) (aI (Ro (J3 d)) (aI (show ie 0 (au m)from jI m) (aI hV hV))));have h3:SR Pg (wU GE q w3) q [] (λ_=>N) w3 a3 (qlH m d cv):=by
  refine B.fresh 0 (tmps:=(qlH m d cv).tmps) ci λt p v z hv=>?_;have he:(qlH m d cv).tmps=(qqP m d).tmps.set 3 (.val cv):=rfl;rw[he]at z;by_cases ht:3=t;.subst ht;rw[pi (show 3<(qqP m d).tmps.length from vaL rfl)]at z;rw[ab]at hv;cases z;cases hv;exact .val _
  .rw[Pi ht]at z;exact(y.tm t p v z hv).clo (qj bc z)
 have z2:=qhB (KU r3 cd)<|en (fr (qup m cv r3));refine Lh (A:=[20]) (bs0:=[]) (E:=wU GE q w3) (K:=λst=>FG st (qup m cv r3)) (λb1 an b0 a4 w4 dd hx S hX=>?_) ((kP qjg).toList.drop 2) _ 0 q [] _ a3 w3 (qlH m d cv) (by rfl) (xi (by rfl)) h3 ⟨[],rfl⟩ (Lm z2 (by rfl));clear hX;let⟨b1,an,b0,h4,_⟩:=(S.weak (P:=Pg) (m:=0)) (wU GE q w3) [] ⟨a4,[]⟩ w4 rfl ⟨b1,an,b0,hx,λi F=>absurd F (w0 _)⟩;simp only at h4;clear hx S;show Code.wp Pg _ _ _ w4;refine wp_seq (wp_mono (qus m cv c6 N (wU GE q w3) [] ⟨a4,[]⟩ w4 b7 rfl ⟨b1,an,b0,h4,λi F=>absurd F (w0 _)⟩) ?_);rintro e ⟨a5,e4⟩ w5 ⟨rfl,em,⟨dl,br,d6,h5,_⟩,rfl,rfl⟩;refine wp_seq (wp_mono (qut m cv cg c8 N (wU GE q w3) [] ⟨a5,[]⟩ w5 b7 rfl ⟨dl,br,d6,h5,λi F=>absurd F (w0 _)⟩) ?_);rintro e ⟨a6,e5⟩ w6 ⟨rfl,es,⟨ex,ds,eb,h6,_⟩,rfl,rfl⟩;have bg:a6.size=47:=h6.sz;obtain⟨v9,be⟩:∃v9,a6[9]? =O v9:=⟨a6[9]'(by omega),by simp⟩
 have e8:a6[3]? =O cv:=by
  obtain⟨u,hu⟩:∃u,a6[3]? =O u:=⟨a6[3]'(by omega),by simp⟩
  have:=h6.tm 3 (.val cv) u rfl hu;cases this;omega
 let⟨eg,c4⟩:=h6.alone (t:=9) (p:=sl cS o9) (e:=eS) rfl be (va1.2 rfl) (cw J3 o9);have o1:(dv wD 0).op=.move (.tmp 9):=by rfl
 have d1:(dv wD 0).dst=O 42:=by rfl
 have o2:(dv wD 1).op=.makeFunc (.func qks) #[] #[.tmp 3]:=by rfl
 have d2:(dv wD 1).dst=O 43:=by rfl
 have o3:(dv wD 2).op=.call {callee:=.value (.func qoW),args:=#[.tmp 42,.tmp 43],argTypes:=XF (dv wD 2)}:=by rfl
 have d3:(dv wD 2).dst=O 44:=by rfl
 have o4:(dv wD 3).op=.assign (.tmp 44):=by kernel_rfl
 have d4:(dv wD 3).dst=O 9:=by rfl
 refine wp_seq (CX (da (o:=dv wD 0) (by rfl) (by rfl) (v:=v9) (w':=w6) ?_ ?_));.have:(Act.mk a6 []).eval (.tmp 9)=v9:=bu be;simp[execOp,o1,this]
 rw[d1];refine da (o:=dv wD 1) (by rfl) (by rfl) (v:=.func (.func qks) #[] #[cv]) (w':=w6) ?_ ?_;.have:((Act.mk a6 []).put (O 42) v9).eval (.tmp 3)=cv:=bu (by simp_all[cR]);simp[execOp,o2,this];rfl
 rw[d2];generalize ar:((Act.mk a6 []).put (O 42) v9).put (O 43) (.func (.func qks) #[] #[cv])=A2;have x0:A2.tmps.size=47:=by grind [ct]
 have x5:A2.tmps[42]? =O v9:=by rw[<-ar];simp only[cR,ct,bg];rfl
 have x6:A2.tmps[43]? =O (.func (.func qks) #[] #[cv]):=by rw[<-ar];simp only[cR,ct,bg];rfl
 have x3:A2.defers=[]:=by grind [aW]
 clear ar;have X:=G2 (a:=A2) (w:=w6) o3 call31;rw[show(#[Operand.tmp 42,.tmp 43]:Array Operand).map A2.eval=#[v9,.func (.func qks) #[] #[cv]] by simp_all[bu]]at X;have ao:∀(W:J)(x:aa),(∀j,j<w3.heap.size->W.heap[j]? =w3.heap[j]?)->FnGives Pg qks #[cv] #[encStr x] (.bool (x==d)) W:=λW x R=>by let⟨c0,a0⟩:=B.same R;refine(qiv c0 (c5.mono a0 (.refl _)) x).mono λe w' he=>?_;obtain⟨rfl,rfl⟩:=he;exact⟨rfl,0,rfl⟩
 refine Qq (o:=dv wD 2) (by rfl) (by rfl) X (qnP B ao c4 c3 c7) ?_;rintro e w7 ⟨v7,H,rfl,ea,R⟩;refine⟨_,rfl,?_⟩;rw[d3];refine da (o:=dv wD 3) (by rfl) (by rfl) (v:=v7) (w':=w7) ?_ ?_;.have:(A2.put (O 44) v7).eval (.tmp 44)=v7:=bu (by simp only[cR,ct,x0];rfl);simp[execOp,o4,this]
 rw[d4];generalize b4:(A2.put (O 44) v7).put (O 9) v7=A3;have u0:A3.tmps.size=47:=by grind [ct]
 have u9:A3.tmps[9]? =O v7:=by rw[<-b4];simp only[cR,ct,x0];rfl
 have u3:A3.defers=[]:=by grind [aW]
 clear b4;let⟨a7,e6⟩:=A3;simp only at u0 u9 u3;subst u3;have ad:∀b n,q b=O n->b<w3.heap.size:=λb n h=>by let⟨c,t,fr,q1,_⟩:=B.wi b n h;grind
 have a0:q.Le w3 H w7:=λb n hb _=>⟨n,by rw[(R.keep b (ad b n hb)).2];omega,l8 _,λo _=>bE (R.keep b (ad b n hb)).1 o⟩
 have b5:zb GE H w7:={
  wi:=R.wi
  gl:=λg cs hg=>(B.gl g cs hg).mono a0 (.refl _)
  gc:=B.gc
  gx:=λg cs hg=>by let⟨k1,c,t,fr,k2,k3⟩:=B.gx g cs hg;have:=(R.keep g k1).1.trans k2;grind}
 have h7:SR Pg (wU GE H w7) H [] (λ_=>N) w7 a7 (aR 47 [(9,sl cS (o9.filter λs=>!(s==d)))] [] []):=by
  refine b5.fresh 0 (tmps:=(List.replicate 47 PVal.undef).set 9 (sl cS (o9.filter λs=>!(s==d)))) (by grind) λt p v z hv=>?_;by_cases ht:9=t;.grind
  .rw[Pi ht,vaW]at z;split at z<;>cases z;exact .undef v
 show Code.wp Pg _ _ _ w7;refine wp_mono (qqU _ r h N (wU GE H w7) [] ⟨a7,[]⟩ w7 b5.good rfl ⟨H,[],_,h7,λi F=>absurd F (w0 _)⟩) ?_;rintro e ⟨a8,e7⟩ w8 ⟨rfl,et,⟨bm,dt,ec,h8,_⟩,rfl,rfl⟩;let⟨vr,e1,e2,e3⟩:=p7 h8 (fn:=f12) (r:=sl cS r) (by rfl);have bt:zb GE bm w8:=h8.base
 have hF:=bt.fresh (P:=Pg) (a:=#[vr]) 0 (tmps:=[sl cS r]) rfl (λt p v z a9=>by
  match t,z,a9 with
  |0,z,a9=>simp at z a9;subst z;subst a9;exact e2.clo (cw J3 r)
  |t+1,z,_=>grind)
 have bl:w3.heap.size<=w7.heap.size:=R.size;refine⟨rfl,vr,e1,vr,bm,λ_=>N,rfl,{hF with
  bn:=λi b hb=>by simp_all
  on:=λb L hL=>by grind
  gx:=hS.gx
  step:=⟨h8.step.os.trans (R.os.trans y.step.os),h8.step.tape.trans (R.tape.trans y.step.tape),h8.step.output.trans (R.output.trans y.step.output),m0 y.step.size (m0 bl h8.step.size),m0 y.step.drawn (m0 R.drawn h8.step.drawn),λb hb _=>?_,y.step.le.trans (a0.trans h8.step.le)⟩}⟩
 have k1:=y.step.keep b hb id;have bb:b<w3.heap.size:=R3 hb y.step.size;have k2:=R.keep b bb;have k3:=h8.step.keep b (R3 bb bl) id;simp_all
end Go.Proofs.YtankopenjcbeeaaGreatDoor
