/- PROVED: a part of the proof. Conditions: none. -/
import Derived.Test.YtankopenjcbeeaaGreatDoorPkO11
import Derived.Shelf.Strings.OnBuilder
set_option linter.unusedSimpArgs false set_option linter.defProp false
set_option linter.unusedVariables false
noncomputable section
namespace Go.Proofs.YtankopenjcbeeaaGreatDoor
open Go Go.Proofs.Tryz
open Option renaming some→O,none→N
open Go renaming TypeId→G,Value→D,Program→I,Oper→M,World→J,Code→W
open Bool renaming true→T,false→Z
open Decidable renaming decide→Y
open YtankopenjcbeeaaGreatDoor renaming PVal→U
set_option maxRecDepth 100000
def lu(m:V (aa×K)):Q (V aa):=if Y (m.length<=bO)then O (uK (m.map λe=>e.1))else N
abbrev qwA:Nat:=63
noncomputable def qhX:W:=f63.body.getD .skip
def qvF:W->Nat×Array M|.region id ops _=>(id,ops)|_=>(0,#[])
abbrev qrG:W:=aE qhX [Z]
abbrev qrH:W:=aE qhX [T,Z]
abbrev XC:W:=aE qhX [T,T,Z,Z]
abbrev qo2:W:=aE qhX [T,T,Z,T,Z,Z,Z]
abbrev qmO:W:=aE qhX [T,T,Z,T,Z,Z,T,T,Z,Z]
abbrev quG:W:=aE qhX [T,T,Z,T,Z,Z,T,T,Z,T]
abbrev qo3:W:=aE qhX [T,T,T,Z]
abbrev qvG:W:=aE qhX [T,T,T,T,Z]
abbrev dv(c:W)(i:Nat):M:=((qvF c).2)[i]?.getD default
abbrev Rd(c:W):Nat:=(qvF c).1
def qnz:qhX=.seq (.region (Rd qrG) #[dv qrG 0] Z) (.seq (.region (Rd qrH) #[dv qrH 0] Z) (.seq (.seq (.region (Rd XC) #[dv XC 0,dv XC 1,dv XC 2,dv XC 3,dv XC 4] Z)
  (.block 0 (.loop (.seq (.region (Rd qo2) #[dv qo2 0,dv qo2 1] Z) (.seq (.cond (.tmp 11) .skip (.exit 0)) (.block 1 (.seq (.region (Rd qmO) #[dv qmO 0,dv qmO 1,dv qmO 2] Z) quG)))))))
  (.seq (.region (Rd qo3) #[dv qo3 0,dv qo3 1] Z) (.seq qvG .ret)))):=by kernel_rfl
abbrev eS:G:=9
def qwR(iv:D)(l:V aa)(s:aa)(h:l.length+1<=bO):dz Pg GE 1000 quG (EX .normal (kS eS (l++[s]) iv .undef)) (kS eS l iv (.str s)):=by
 have a:app l [s]=O (l++[s]):=by unfold app;rw[l7 (by simpa using h)]
 have z:=sv (cT.mk' (v:=PVal.str) qon ([s]:V aa) 1 (by kernel_rfl))<|sv (cT.ap a)<|eF .normal (kS eS (l++[s]) iv .undef);exact fU (A:=[14]) mixed z (by kernel_rfl)
def qwS(l:V aa)(h:l.length<=bO):dz Pg GE 0 (.region (Rd qo3) #[dv qo3 0,dv qo3 1] Z) (EX .normal (fJ 21 3 (nW l) eS)) (fJ 21 3 l eS):=
 dz.inplace (t:=3) (d1:=18) (d2:=19) UD qnN h rfl rfl rfl rfl rfl rfl (by decide) (.inl ⟨rfl,nD l⟩)
abbrev sE(l:V aa):az:=aR 21 [(2,sl cS l)] [] [((2,0),eS)]
def qwT(l:V aa):dz Pg GE 0 (.seq qvG .ret) (EX .ret (sE l)) (fJ 21 3 l eS):=by have z:=eF .ret (sE l);exact fU (A:=[20]) mixed z (by kernel_rfl)
theorem cR{a:Act}{d t:Nat}{v:D}:(a.put (O d) v).tmps[t]? =if d=t then(if d<a.tmps.size then O v else N)else a.tmps[t]?:=by show(a.tmps.setIfInBounds d v)[t]? =_;rw[vba]
theorem ct{a:Act}{d:Nat}{v:D}:(a.put (O d) v).tmps.size=a.tmps.size:=by show(a.tmps.setIfInBounds d v).size=_;simp
def CX{a:Act}{w:J}{c:Exit->Act->J->Prop}{id:Nat}{b:Array M}(h:wpOps Pg b c (List.range b.size) a w):(Code.region id b Z).wp Pg c a w:=wp_region h
def quI(m:V (aa×K)):mt Pg 84 (.bptr 0 0) [.cells [.mapr 1] [],.map (bU PVal.bool m)]=O (.mapr 1):=by kernel_rfl
def quH:nl Pg 99 (.bptr 0 0) 0=O (.bptr 0 0):=by kernel_rfl
def quJ:Pg.underlying 84=O (.map 9 4):=by kernel_rfl
def NH{m:V (aa×K)}{r:V aa}(h:lu m=O r):C Pg GE qwA [.bptr 0 0] [] [.cells [.mapr 1] [],.map (bU PVal.bool m)] (sl cS r) [(0,eS)] [.cells [.mapr 1] [],.map (bU PVal.bool m)]:=by
 rcases Hr h with⟨hl,h⟩|⟨_,h⟩;rotate_left;.cases h
 obtain rfl:=lf h;have ad:m.length<=bO:=by simpa using hl
 refine⟨call63,λΓ bs ow w vs hS=>calls_of_wp func63 (c:=qhX) rfl ?_⟩;obtain⟨v,rfl⟩:∃v,vs=#[v]:=vbN.1 hS.sz;have a8:VR Γ bs w (.bptr 0 0) v:=hS.tm 0 _ _ rfl rfl;have cg:∃z,v=.pointer (O ⟨z,0,N⟩)/\bs[0]? =O (O z):=by cases a8 with|bptr _ _ z a4=>exact⟨z,rfl,a4⟩
 obtain⟨z,rfl,a4⟩:=cg;let⟨vm,c8,cv⟩:=xj (P:=Pg) hS (t:=84) a8 (quI m);have ao:∃A,vm=.map (O A)/\bs[1]? =O (O A):=by cases cv with|mapr _ A hbm=>exact⟨A,rfl,hbm⟩
 obtain⟨A,rfl,bt⟩:=ao;let⟨_,de,es,a,a1,a7,ab,a5⟩:=hS.bx 1 A _ bt rfl;let⟨vf,c4,ci⟩:=uS (P:=Pg) a8 quH;have an:vf=.pointer (O ⟨z,0,N⟩):=by cases ci with|bptr _ _ b X=>rw[a4]at X;cases X;rfl
 subst an;have cd:=run_range_map (P:=Pg) w 84 9 4 A es a quJ a1;have hB:zb GE Γ w:=hS.base;have hE:th GE 0 (wU GE Γ w):=hB.good
 have a0:∀(j:Nat)(x:MapEntry),es[j]? =O x->∃s u,m[j]? =O (s,u)/\x.key=.string ⟨s.toArray⟩:=λj x hx=>by
  have hj:j<m.length:=by have:=(vh.1 hx).1;rw[a7]at this;simpa[bU]using this
  let⟨H,_⟩:=ab j (.str m[j].1) (.bool m[j].2) x (by simp[bU,hj]) hx;refine⟨m[j].1,m[j].2,by simp[hj],?_⟩;generalize x.key=k at H;cases H;rfl
 have hk:∀y∈es.toList,y.key=.string ⟨(ki y).toArray⟩:=λy hy=>by let⟨j,hj⟩:=vbc.1 hy;let⟨s,u,_,h2⟩:=a0 j y (by simpa using hj);unfold ki;rw[h2]
 have c7:es.toList.map ki=m.map λe=>e.1:=by
  refine va2 λj=>?_;simp only[o8,vaK];cases hj:es[j]? with
  |none=>
   have H:m.length<=j:=by have:=vbL.1 hj;rw[a7]at this;simpa[bU]using this
   simp[H]
  |some x=>let⟨s,u,H,h2⟩:=a0 j x hj;simp[H,ki,h2]
 have hn:f63.ntmps=21:=by kernel_rfl
 refine(λ(d0:∀F:Act,F.tmps.size=21->F.tmps[0]? =O (.pointer (O ⟨z,0,N⟩))->F.defers=[]->qhX.wp Pg _ F w)=>d0 _ ?_ ?_ rfl) ?_;.rw[hn];simp
 .rw[hn];simp
 intro F z0 z1 z2;rw[qnz];have bc:(dv qrG 0).dst=O 2:=by kernel_rfl
 have be:(dv qrH 0).dst=O 3:=by kernel_rfl
 have d1:(dv XC 0).op=.move (.tmp 0):=by kernel_rfl
 have bg:(dv XC 0).dst=O 5:=by kernel_rfl
 have d2:(dv XC 1).op=.nilCheck (.tmp 5):=by kernel_rfl
 have bi:(dv XC 1).dst=O 6:=by kernel_rfl
 have d3:(dv XC 2).op=.fieldAddr 99 (.tmp 6) 0:=by kernel_rfl
 have bl:(dv XC 2).dst=O 7:=by kernel_rfl
 have d4:(dv XC 3).op=.load 84 (.tmp 7):=by kernel_rfl
 have bn:(dv XC 3).dst=O 8:=by kernel_rfl
 have d5:(dv XC 4).op=.range 84 (.tmp 8):=by kernel_rfl
 have bq:(dv XC 4).dst=O 9:=by kernel_rfl
 refine wp_seq (CX (da (o:=dv qrG 0) (by kernel_rfl) (by kernel_rfl) (v:=.slice N 0 0) (w':=w) (by kernel_rfl) ?_));rw[bc];show Code.wp Pg _ _ _ w;refine wp_seq (CX (da (o:=dv qrH 0) (by kernel_rfl) (by kernel_rfl) (v:=.slice N 0 0) (w':=w) (by kernel_rfl) ?_));rw[be];show Code.wp Pg _ _ _ w;refine wp_seq (wp_seq (CX (da (o:=dv XC 0) (by kernel_rfl) (by kernel_rfl) (v:=.pointer (O ⟨z,0,N⟩)) (w':=w) ?_ ?_)));.have:((F.put (O 2) (.slice N 0 0)).put (O 3) (.slice N 0 0)).eval (.tmp 0)=.pointer (O ⟨z,0,N⟩):=bu (by simp only[cR];exact z1);simp[execOp,d1,this]
 rw[bg];refine da (o:=dv XC 1) (by kernel_rfl) (by kernel_rfl) (v:=.pointer (O ⟨z,0,N⟩)) (w':=w) ?_ ?_;.have:(((F.put (O 2) (.slice N 0 0)).put (O 3) (.slice N 0 0)).put (O 5) (.pointer (O ⟨z,0,N⟩))).eval (.tmp 5)=.pointer (O ⟨z,0,N⟩):=bu (by simp only[cR,ct,z0];rfl);simp[execOp,d2,this]
 rw[bi];refine da (o:=dv XC 2) (by kernel_rfl) (by kernel_rfl) (v:=.pointer (O ⟨z,0,N⟩)) (w':=w) ?_ ?_;.have:((((F.put (O 2) (.slice N 0 0)).put (O 3) (.slice N 0 0)).put (O 5) (.pointer (O ⟨z,0,N⟩))).put (O 6) (.pointer (O ⟨z,0,N⟩))).eval (.tmp 6)=.pointer (O ⟨z,0,N⟩):=bu (by simp only[cR,ct,z0];rfl);simp[execOp,d3,this,c4]
 rw[bl];refine da (o:=dv XC 3) (by kernel_rfl) (by kernel_rfl) (v:=.map (O A)) (w':=w) ?_ ?_;.have:(((((F.put (O 2) (.slice N 0 0)).put (O 3) (.slice N 0 0)).put (O 5) (.pointer (O ⟨z,0,N⟩))).put (O 6) (.pointer (O ⟨z,0,N⟩))).put (O 7) (.pointer (O ⟨z,0,N⟩))).eval (.tmp 7)=.pointer (O ⟨z,0,N⟩):=bu (by simp only[cR,ct,z0];rfl);simp[execOp,d4,this,c8]
 rw[bn];refine da (o:=dv XC 4) (by kernel_rfl) (by kernel_rfl) (v:=JM w.heap.size) (w':=w.alloc (.mapIter (O A) a #[] a)) ?_ ?_;.have:((((((F.put (O 2) (.slice N 0 0)).put (O 3) (.slice N 0 0)).put (O 5) (.pointer (O ⟨z,0,N⟩))).put (O 6) (.pointer (O ⟨z,0,N⟩))).put (O 7) (.pointer (O ⟨z,0,N⟩))).put (O 8) (.map (O A))).eval (.tmp 8)=.map (O A):=bu (by simp only[cR,ct,z0];rfl);simp[execOp,d5,this,cd]
 rw[bq];generalize R:((((((F.put (O 2) (.slice N 0 0)).put (O 3) (.slice N 0 0)).put (O 5) (.pointer (O ⟨z,0,N⟩))).put (O 6) (.pointer (O ⟨z,0,N⟩))).put (O 7) (.pointer (O ⟨z,0,N⟩))).put (O 8) (.map (O A))).put (O 9) (JM w.heap.size)=A1;have y0:A1.tmps.size=21:=by rw[<-R];simp[ct,z0]
 have y3:A1.tmps[3]? =O (.slice N 0 0):=by rw[<-R];simp only[cR,ct,z0];rfl
 have y9:A1.tmps[9]? =O (JM w.heap.size):=by rw[<-R];simp only[cR,ct,z0];rfl
 have y2:A1.defers=[]:=by rw[<-R];simp only[aW];exact z2
 clear R;have h0:SR Pg (wU GE Γ w) Γ [] (λ_=>N) w A1.tmps ⟨(kS eS [] (JM w.heap.size) .undef).tmps,[],[]⟩:=by
  refine hB.fresh 0 y0 λt p v hp hv=>?_;by_cases h3:t=3;.subst h3;rw[y3]at hv;cases hp;cases hv;exact .sliceNil
  .by_cases h9:t=9;.subst h9;rw[y9]at hv;cases hp;cases hv;exact .val _
   .have:p=.undef:=by
     have ht:t<21:=by have:=aq hp;simpa[kS]using this
     clear hv
     rcases(show t=0\/t=1\/t=2\/t=4\/t=5\/t=6\/t=7\/t=8\/t=10\/t=11\/t=12\/t=13\/t=14\/t=15\/t=16\/t=17\/t=18\/t=19\/t=20 by omega)with h|h|h|h|h|h|h|h|h|h|h|h|h|h|h|h|h|h|h<;>subst h<;>cases hp<;>rfl
    rw[this]
    exact .undef v
 have H:SR Pg (wU GE Γ w) Γ [] (λ_=>N) w A1.tmps (kS eS [] (JM w.heap.size) .undef):={h0 with
  ot:=λt k e he=>by simp[kS]at he;obtain⟨⟨rfl,rfl⟩,rfl⟩:=he;exact⟨_,_,y3,rfl,⟨0,[],World.ownsRow_nil _ _ _ _,λb X=>by simp[Value.ownBlock]at X⟩,λb X=>by simp[Value.ownBlock]at X⟩
  ob:=λi j e cs own b hB=>by simp[kS]at hB}
 let⟨h2,_⟩:=H.allocO (.mapIter (O A) a #[] a);have hR:Pq Pg (wU GE Γ w) eS es a A w.heap.size [] .undef A1 (w.alloc (.mapIter (O A) a #[] a)):=⟨World.alloc_heap_new w _,Γ,_,h2⟩
 have c3:es.size<=bO:=by rw[a7];simpa[bU]using ad
 have c9:=qgl (P:=Pg) (GE:=GE) (E:=wU GE Γ w) (e:=eS) (ro:=N) (i3:=Rd qo2) (i4:=Rd qmO) (o10:=dv qo2 0) (o11:=dv qo2 1) (o12:=dv qmO 0) (o13:=dv qmO 1) (o4:=dv qmO 2) (c5:=quG) hE a1 a5 (l8 _) hk
  (by kernel_rfl) (by kernel_rfl) (by kernel_rfl) (by kernel_rfl) (by kernel_rfl) (by kernel_rfl) (by kernel_rfl) (by kernel_rfl) (by kernel_rfl) (by kernel_rfl) (by kernel_rfl) (by kernel_rfl) (by kernel_rfl) (by kernel_rfl) (by kernel_rfl)
  (λl s dk=>qwR (JM w.heap.size) l s (by omega)) hR
 show Code.wp Pg _ _ A1 _;refine wp_block (wp_mono c9 λq A2 w2 hq=>?_);obtain⟨rfl,c0,B,S,b4,b2,a2⟩:=hq;show Code.wp Pg _ _ A2 w2;have a2:SR Pg (wU GE Γ w) b4 [] b2 w2 A2.tmps (fJ 21 3 (B.map ki) eS):=a2.forgetT (tm:=(fJ 21 3 (B.map ki) eS).tmps) rfl;have cn:(B.map ki).length<=bO:=by rw[va0,S.length_eq];simpa using c3
 have ar:=qwS (B.map ki) cn N (wU GE Γ w) [] A2 w2 hE rfl ⟨b4,[],b2,a2,λi hi=>absurd hi (w0 _)⟩;refine wp_seq (wp_mono ar λq A3 w3 hq=>?_);obtain⟨c1,dl,⟨dd,b7,d6,br,_⟩,rfl,rfl⟩:=hq;show Code.wp Pg _ _ A3 w3;have b1:=qwT (nW (B.map ki)) N (wU GE Γ w) [] A3 w3 hE rfl ⟨dd,b7,d6,br,λi hi=>absurd hi (w0 _)⟩;refine wp_mono b1 λq A4 w4 hq=>?_;obtain⟨c2,ds,⟨b5,bb,b3,a3,_⟩,rfl,rfl⟩:=hq;have a6:nW (B.map ki)=uK (m.map λe=>e.1):=by rw[<-P3];refine CH (jf _) (jf _) (((gd _).trans ?_).trans (gd _).symm);rw[<-c7];exact S.map ki
 rw[a6]at a3;let⟨vr,e1,e2,e3⟩:=p7 a3 (fn:=f63) (r:=sl cS (uK (m.map λe=>e.1))) (by kernel_rfl)
 have hf:=a3.finish (H':=[]) (src:=dX f63.results.toList) (ro:=[(0,eS)]) e2 (cw J3 _) trivial (λx hx=>by
  simp only[va1]at hx;subst hx;exact⟨va1.2 rfl,λu v'=>e3 0 u v' hV⟩) (λx hx y hy _=>by
  simp only[va1]at hx hy;rw[hx,hy])
 have a9:bb.take (List.length ([]:V ay))=[]:=by simp
 rw[a9]at hf;refine⟨((((c2.trans c1).trans c0)).trans y2:A4.defers=[]),vr,e1,vr,b5,Tb 0 (B3 (dX f63.results.toList) [(0,eS)] b3) ow,rfl,?_⟩;have hT:∀b,¬(wU GE Γ w).T b:=λb X=>X;have hw:=hS.aside hf;have hr:VR b5 bs w4 (sl cS (uK (m.map λe=>e.1))) vr:=e2.clo (cw J3 _);have:=hw.setResult (d:=0) (ro:=[(0,eS)]) (by simp) hr (owC:=B3 (dX f63.results.toList) [(0,eS)] b3) (λk e hm=>?_) (λb t k X=>?_);.exact this
 .let⟨u,v',H,h2,h3,h4⟩:=hf.ot 0 k e (l9.2 ⟨(k,e),hm,rfl⟩);simp at H;subst H;exact⟨v',h2,h3,h4⟩
 .let⟨k1,k2⟩:=hf.on b _ X;have c6:w.heap.size<=b:=k2.resolve_left (hT b);refine⟨?_,k1,.inr (m0 hS.step.size c6)⟩;cases hL:ow b with|none=>rfl|some L=>have:=(hS.on b L hL).1;omega
open Go Go.Shelf Go.RowKit Go.Proofs.Tryz
section
variable{P:I}{ρ:Ren}
set_option maxHeartbeats 1000000 in
set_option maxRecDepth 100000 in
def qfK(L:Lays.n240 P ρ)(b:Nat)(w:J)(a0:G)(n:Nat)(j:TypeInfo)(i:P.info? (ρ.t 72)=O j)(d:j.size≠0)(x:0<n)(a:liesAt P P.depth a0 (n / P.cellsOf a0) 0 (ρ.t 72) 1=T)
  (h0:w.cell? ⟨b,0,N⟩=O (.pointer N)) (c:w.shape? b=O (a0,n)) (t:w.frozen? ⟨b,0,N⟩=Z):
  Calls P (ρ.f 240) #[.pointer (O ⟨b,0,N⟩)] w λe H=>e=.returned (.tuple #[])/\H=w.setCell ⟨b,0,N⟩ (.pointer (O ⟨b,0,N⟩)):=by
 have mixed:=L.mixed
 have z:=L.t72;have s:=L.a72;have S:=L.z72;have F:=L.v72;have B:=run_underlying L.t72
 have y:=L.t70;have r:=L.a70;have R:=L.z70;have E:=L.v70;have A:=run_underlying L.t70
 have t9:=L.t9;have a9:=L.a9;have z9:=L.z9;have v9:=L.v9;have u9:=run_underlying L.t9
 have t4:=L.t4;have X:=L.a4;have z4:=L.z4;have v4:=L.v4;have u4:=run_underlying L.t4
 have m:=L.t164;have h:=L.a164;have q:=L.z164;have p:=L.v164;have o:=run_underlying L.t164
 go_enter L.f240,Body.n240_ntmps ρ
 go_wp2
 rw[Lib.run_to_unsafe w ⟨b,0,N⟩ L.t70 L.t164 i d c x]
 simp only[Result.andThen]
 rw[Oper.upon_value]
 go_wp2
 rw[run_callFunc_extern L.f276 (by rfl) (by rfl) (by rfl) (e:=Extern.AbiNoEscape.same) (by rfl)]
 rw[Lib.run_noEscape]
 simp only[Result.andThen]
 rw[Oper.upon_value]
 go_wp2
 rw[Lib.run_from_unsafe w ⟨b,0,N⟩ L.t164 L.t70 i c a]
 simp only[Result.andThen]
 rw[Oper.upon_value]
 go_wp2
 go_end0
 simp
structure Ng(g:Nat)(w w':World):Prop where
 os:w'.os=w.os
 tape:w'.tape=w.tape
 output:w'.output=w.output
 size:w.heap.size<=w'.heap.size
 keep:∀b,b<w.heap.size->b≠g->w'.heap[b]? =w.heap[b]?
 here:∀c t fr,w.heap[g]? =some (.cells c t fr)->∃fr',w'.heap[g]? =some (.cells c t fr')
def Ng.drew(g:Nat)(w:J):Ng g w w.drew:=⟨rfl,rfl,rfl,l8 _,λ_ _ _=>rfl,λc t fr h=>⟨fr,h⟩⟩
def Ng.alloc(g:Nat)(w:J)(o:Obj):Ng g w (w.drew.alloc o):=⟨rfl,rfl,rfl,by simp,λb d _=>Lib.alloc_old w.drew o b d,λc t fr h=>by
 have a:g<w.heap.size:=(vh.1 h).1;exact⟨fr,(Lib.alloc_old w.drew o g a).trans h⟩⟩
def Ng.freeze(g:Nat)(w:J)(n:Nat):Ng g w (w.drew.freeze ⟨g,0,N⟩ n):=by
 unfold World.freeze;split;.exact .drew g w
 .refine⟨rfl,rfl,rfl,by simp,λb _ d=>?_,λc t fr h=>?_⟩;.show(w.heap.modify g _)[b]? =_;grind
  .show ∃a,(w.heap.modify g _)[g]? =_;grind
set_option maxHeartbeats 1000000 in
set_option maxRecDepth 100000 in
def qh0(L:Lays.n169 P ρ)(X:Builder.Extra P ρ)(b g a:Nat)(l:V UInt8)(c:Array D)(w:J)(z:l≠[])(m:l.length<=a)(d:a<=maxLen)(A:w.cell? ⟨b,1,N⟩=O (.slice (O ⟨g,0,N⟩) l.length a))
  (R:w.heap[g]? =O (.cells c (ρ.t 5) (0,0))) (H:c.size=a) (F:∀(j:Nat)(x:UInt8),l[j]? =O x->w.cell? ⟨g,j,N⟩=O (.int .u8 x.toNat)):
  Calls P (ρ.f 169) #[.pointer (O ⟨b,0,N⟩)] w λe w'=>e=.returned (.string ⟨l.toArray⟩)/\Ng g w w':=by
 have S:l.length≠0:=by simp_all
 have c1:w.drew.cell? ⟨b,1,N⟩=O (.slice (O ⟨g,0,N⟩) l.length a):=A
 have B:(Builtin.unsafeSliceData_ #[(ρ.t 37)] (ρ.t 127) #[.slice (O ⟨g,0,N⟩) l.length a]).run P w.drew=.ok (.pointer (O ⟨g,0,N⟩)) w.drew:=
  Lib.run_unsafeSliceData_row _ _ _ _ _ _ (by omega)
 have E:(Builtin.unsafeString_ #[(ρ.t 127),(ρ.t 3)] (ρ.t 9) #[.pointer (O ⟨g,0,N⟩),.int .i64 l.length]).run P w.drew=.ok (.string ⟨l.toArray⟩) (w.drew.freeze ⟨g,0,N⟩ l.length):=by refine Lib.run_unsafeString_row w.drew (ρ.t 127) (ρ.t 3) (ρ.t 9) (ρ.t 5) L.t127 X.cellsByte g c.size (by have h:w.drew.heap[g]? =O (.cells c (ρ.t 5) (0,0)):=R;simp[World.shape?,h]) l z (by omega) (by unfold maxLen at d;omega) ?_;intro j x hx;have:=F j x hx;rw[Lib.add_plain];simp_all
 have mixed:=L.mixed
 have a2:=L.t72;have y:=L.a72;have ar:=L.z72;have ad:=L.v72;have a7:=run_underlying L.t72
 have a1:=L.t70;have t:=L.a70;have ao:=L.z70;have ab:=L.v70;have a6:=run_underlying L.t70
 have a0:=L.t37;have s:=L.a37;have an:=L.z37;have a8:=L.v37;have a4:=run_underlying L.t37
 have o:=L.t127;have i:=L.a127;have r:=L.z127;have q:=L.v127;have p:=run_underlying L.t127
 have t3:=L.t3;have a3:=L.a3;have z3:=L.z3;have v3:=L.v3;have u3:=run_underlying L.t3
 have t9:=L.t9;have a9:=L.a9;have z9:=L.z9;have v9:=L.v9;have u9:=run_underlying L.t9
 have t5:=X.t5;have a5:=X.a5;have z5:=X.z5;have v5:=X.v5;have u5:=run_underlying X.t5
 go_enter L.f169,Body.n169_ntmps ρ
 go_wp2
 go_region_o
 all_goals (go_wp2;go_ret;exact⟨rfl,.freeze g w _⟩)
set_option maxHeartbeats 2000000 in
set_option maxRecDepth 100000 in
def U5(L:Lays.n169 P ρ)(X:Builder.Extra P ρ)(b g:Nat)(v q:D)(w ad:J)(E:∃c a,v=.slice c 0 a)(B:∃h,q=.pointer h)(x:w.cell? ⟨b,1,N⟩=O v)(h2:ad.cell? ⟨b,1,N⟩=O v)(y:Ng g w ad)
  (z:(Builtin.unsafeSliceData_ #[(ρ.t 37)] (ρ.t 127) #[v]).run P w.drew=.ok q ad):
  Calls P (ρ.f 169) #[.pointer (O ⟨b,0,N⟩)] w λe w'=>e=.returned (.string ⟨#[]⟩)/\Ng g w w':=by
 obtain⟨c,a,rfl⟩:=E
 obtain⟨h,rfl⟩:=B
 have A:=Any.unsafeString_none L X
 have c1:w.drew.cell? ⟨b,1,N⟩=O (.slice c 0 a):=x
 have mixed:=L.mixed
 have R:=L.t72;have t:=L.a72;have ab:=L.z72;have a6:=L.v72;have a1:=run_underlying L.t72
 have H:=L.t70;have s:=L.a70;have a8:=L.z70;have a4:=L.v70;have a0:=run_underlying L.t70
 have F:=L.t37;have r:=L.a37;have a7:=L.z37;have a2:=L.v37;have S:=run_underlying L.t37
 have i:=L.t127;have d:=L.a127;have p:=L.z127;have o:=L.v127;have m:=run_underlying L.t127
 have t3:=L.t3;have a3:=L.a3;have z3:=L.z3;have v3:=L.v3;have u3:=run_underlying L.t3
 have t9:=L.t9;have a9:=L.a9;have z9:=L.z9;have v9:=L.v9;have u9:=run_underlying L.t9
 have t5:=X.t5;have a5:=X.a5;have z5:=X.z5;have v5:=X.v5;have u5:=run_underlying X.t5
 go_enter L.f169,Body.n169_ntmps ρ
 go_wp2
 go_region_o
 all_goals (go_wp2;go_ret;exact⟨rfl,y⟩)
end
def qiM:Lays.n240 Pg Tryz.lays156_ren:={Tryz.lays156 with}
abbrev tC:G:=5
abbrev bx(a:G)(R:V U)(l:V Int)(own:V (Nat×G)):ay:=.cells (.nptr 0 a::sl (cI .u8) l::R) own
def qml{E:qy}{Γ:aS}{e:bC}{L:Nat->Q kg}{w:J}{i:Array D}{a0:G}{R:V U}{l:V Int}(h:SR Pg E Γ e L w i ⟨[.bptr 0 0],[bx a0 R l [(1,tC)]],[]⟩):∃b c v,i=#[.pointer (O ⟨b,0,N⟩)]/\e=[O b]/\Γ b=N/\b<w.heap.size/\w.heap[b]? =O (.cells c a0 (0,0))/\c.size=R.length+2/\
   (c[0]? =O (.pointer N)\/c[0]? =O (.pointer (O ⟨b,0,N⟩)))/\c[1]? =O v/\VR Γ e w (sl (cI .u8) l) v/\eI Pg Γ w v tC/\∀A,v.ownBlock=O A->L A=O (.box 0 1):=by
 have S:i.size=1:=h.sz
 have m:=h.tm 0 _ i[0] rfl (by simp)
 generalize hu:i[0]=u at m
 have x:i=#[u]:=by grind
 cases m with
 | bptr _ _ b hb =>
  have p:e.length=1:=h.bl
  have q:e=[O b]:=by match e,p,hb with|[y],_,hb=>simp_all
  let⟨P,r,c,t,F,H,a,d⟩:=h.bx 0 b _ hb rfl
  obtain⟨rfl,s⟩:=d 0 0 a0 rfl
  have s:c.size=R.length+2:=s
  let⟨v,X,k2,k3⟩:=h.ob 0 1 tC _ _ b rfl (by simp) hb
  have o:c[1]? =O v:=by rw[cell_of_row w b 1 c _ _ F]at X;omega
  have B:c[0]? =O c[0]:=by simp
  have v0:=a 0 _ c[0] rfl B
  generalize c[0]=z at v0 B
  refine⟨b,c,v,x,q,P,r,F,s,?_,o,a 1 _ v rfl o,k2,k3⟩
  cases v0 with
  |nptrN _ _=>simp_all
  |nptr _ b2 _ hb2=>simp_all
def SZ{a8:G}{R:V U}(hl:liesAt Pg Pg.depth a8 ((R.length+2) / Pg.cellsOf a8) 0 (Tryz.lays156_ren.t 72) 1=T){x0:V Int}:C Pg GE 85 [.bptr 0 0] [] [bx a8 R x0 [(1,tC)]] (.tuple []) [] [bx a8 R x0 [(1,tC)]]:=by
 refine⟨call85,λΓ bs F w vs P=>?_⟩;obtain⟨b,c,v,rfl,rfl,hg,a7,S,hn,H,h1,hv,ho,a3⟩:=qml P;have fin:∀{w'},SR Pg ⟨GE,Γ,w,aV [O b] F⟩ Γ [O b] F w' #[.pointer (O ⟨b,0,N⟩)] ⟨[.bptr 0 0],[bx a8 R x0 [(1,tC)]],[]⟩->SR Pg ⟨GE,Γ,w,aV [O b] F⟩ Γ [O b] F w' #[.tuple #[]] ⟨[.tuple []],[bx a8 R x0 [(1,tC)]],[]⟩:=λh=>{h with
  sz:=rfl
  tm:=λt p v E hv=>by cases t with|zero=>simp at E hv;subst E;subst hv;exact .tuple [] #[] rfl (λi p v E _=>by simp_all)|succ t=>simp_all
  ot:=λt k e he=>by simp_all}
 have r:∀j,w.cell? ⟨b,j,N⟩=c[j]?:=λj=>cell_of_row w b j c _ _ S;rcases H with H|H
 .let⟨jj,z,a6⟩:=vaH.1 (show(Pg.info? (Tryz.lays156_ren.t 72)).map (·.size)=O 2 by kernel_rfl);refine(qfK qiM b w a8 (R.length+2) jj z (by omega) (by omega) hl ((r 0).trans H) (by simp[World.shape?,S,hn]) (by simp[World.frozen?,S])).mono λe w' he=>?_;obtain⟨rfl,rfl⟩:=he;have s:(w.setCell ⟨b,0,N⟩ (.pointer (O ⟨b,0,N⟩))).heap[b]? =O (.cells (c.setIfInBounds 0 (.pointer (O ⟨b,0,N⟩))) a8 (0,0)):=by show(w.heap.modify b _)[b]? =_;grind
  have a:∀d,d≠b->(w.setCell ⟨b,0,N⟩ (.pointer (O ⟨b,0,N⟩))).heap[d]? =w.heap[d]?:=λd x=>by show(w.heap.modify b _)[d]? =_;grind
  have a2:∀{d n},Γ d=O n->d≠b:=λhb e=>by simp_all
  have a1:Γ.Le w Γ (w.setCell ⟨b,0,N⟩ (.pointer (O ⟨b,0,N⟩))):=λd m x _=>⟨m,x,l8 _,λo _=>bE (a d (a2 x)) o⟩
  refine⟨_,Γ,F,rfl,fin ?_⟩;have hW:=P.box_write (i:=0) (b:=b) rfl (w':=w.setCell ⟨b,0,N⟩ (.pointer (O ⟨b,0,N⟩))) (B:=bx a8 R x0 [(1,tC)]) (ow':=F) rfl rfl rfl (by simp) a ?_ (λd L hL _=>hL) P.on ?_;.grind
  .refine⟨_,a8,s,by grind,λj p u E X=>?_,λj i T' z=>?_⟩
   .rw[vba]at X;by_cases z:0=j;.subst z;rw[l7 rfl,l7 (by omega)]at X;cases X;cases E;exact .nptr 0 b a8 rfl
    .rw[hG z]at X;let⟨_,_,c',t',q,_,y,_⟩:=P.bx 0 b _ rfl rfl;rw[S]at q;cases q;exact(y j p u E X).mono a1 (.refl _)
   .rw[Array.size_setIfInBounds];let⟨_,_,c',t',q,_,_,A⟩:=P.bx 0 b _ rfl rfl;rw[S]at q;cases q;exact A j i T' z
  .intro a5 a4 a0 j e z;cases a0;simp only[va1,Prod.mk.injEq]at z;obtain⟨rfl,rfl⟩:=z;refine⟨v,?_,ho.same λd x=>⟨a d ?_,rfl⟩,a3⟩;.rw[cell_of_row _ b 1 _ _ _ s,vba,hG (by omega)];omega
   .let⟨n,xs,o1,o2⟩:=ho;simp_all
 .refine(Any.Builder_copyCheck_used qiM {sizeBuilder:=by kernel_rfl,liesBuilder:=by kernel_rfl} b w ((r 0).trans H)).mono λe w' he=>?_;obtain⟨rfl,rfl⟩:=he;grind
def ZA:Builder.Extra Pg Tryz.lays169_ren:={sizeBuilder:=by kernel_rfl,liesBuilder:=by kernel_rfl,t5:=by kernel_rfl,a5:=λw=>by kernel_rfl,z5:=λw=>by kernel_rfl,v5:=λw=>by kernel_rfl,infoByte:=by kernel_rfl,cellsByte:=by kernel_rfl,sizeByte:=by kernel_rfl,neB5:=by decide}
def XR:∀{l:List Int}{r:aa},ru l=O r->r.length=l.length/\∀(j:Nat)(x:UInt8),r[j]? =O x->l[j]? =O (x.toNat:Int)
 |[],r,h=>by cases h;simp
 | n :: l,r,h => by
  simp only[ru]at h;split at h;.rename_i d;cases a:ru l with|none=>simp_all|some q=>rw[a]at h;cases h;let⟨b,c⟩:=XR a;grind [UInt8.toNat_ofNat']
  grind
def LZ{Γ:aS}{b g:Nat}{z:Nat->Q kg}{w w':J}{a1:G}{R:V U}{l:V Int}{own:V (Nat×G)}{r:aa}(h:SR Pg ⟨GE,Γ,w,aV [O b] z⟩ Γ [O b] z w #[.pointer (O ⟨b,0,N⟩)] ⟨[.bptr 0 0],[bx a1 R l own],[]⟩)(s:Ng g w w')(a0:g≠b)(m:z g≠N\/w.heap.size<=g):SR Pg ⟨GE,Γ,w,aV [O b] z⟩ Γ [O b] (λ_=>N) w' #[.string ⟨r.toArray⟩] ⟨[.str r],[bx a1 R l []],[]⟩:=by
 have X:SR Pg ⟨GE,Γ,w,aV [O b] z⟩ Γ [O b] (λ_=>N) w #[.pointer (O ⟨b,0,N⟩)] ⟨[.bptr 0 0],[bx a1 R l []],[]⟩:={h with
  bx:=λi a B d F=>by cases i with|zero=>simp at F;subst F;exact h.bx 0 a (bx a1 R l own) d rfl|succ i=>simp_all
  on:=λb L hL=>by grind
  ot:=λt k e he=>by simp_all
  ob:=λi j e cs S a F hj d=>by grind}
 have x:∀a n,Γ a=O n->∃c t fr q,w.heap[a]? =O (.cells c t fr)/\w'.heap[a]? =O (.cells c t q)/\n<=c.size:=λa n d=>by
  let⟨c,t,fr,y,E⟩:=h.wi a n d;by_cases e:a=g;.subst e;let⟨q,h3⟩:=s.here c t fr y;simp_all
  .exact⟨c,t,fr,fr,y,(s.keep a (vh.1 y).1 e).trans y,E⟩
 have hW:=X.world (Γ':=Γ) (w':=w') (λa=>a=g) (λa n d _=>⟨n,d,l8 _,λo _=>by
   let⟨c,t,fr,q,y,E,_⟩:=x a n d;simp[World.cell?,y,E]⟩) (λa n d=>by grind) s.os s.tape s.output s.size (λa d A=>⟨s.keep a d A,rfl⟩) (λa A=>by
   subst A;rcases m with m|m;.exact .inl (.inr m)
   .grind) (λi a d A=>by grind) (λa L hL=>by grind)
 exact{hW with
  sz:=rfl
  tm:=λt p v H P=>by cases t with|zero=>simp at H P;subst H;subst P;exact .str r|succ t=>simp at H
  ot:=λt k e he=>by grind}
def U4{a7:G}{R:V U}{s:V Int}{r:aa}(h:ru s=O r):C Pg GE 68 [.bptr 0 0] [] [bx a7 R s [(1,tC)]] (.str r) [] [bx a7 R s []]:=by
 refine⟨call68,λΓ bs ow w vs t=>?_⟩;obtain⟨b,c,v,rfl,rfl,hg,a1,hc,hn,h0,q,H,ho,a4⟩:=qml t;have d:∀j,w.cell? ⟨b,j,N⟩=c[j]?:=λj=>cell_of_row w b j c _ _ hc;let⟨B,A⟩:=XR h;have e1:Pg.cellsOf tC=1:=by kernel_rfl
 let⟨n,xs,⟨a3,E⟩,F⟩:=ho;rw[e1]at a3 E F;unfold sl at H;generalize P:s.map (cI .u8)=es at H;rcases E with⟨rfl,rfl⟩|⟨g,cap,cur,rfl,_,hgh,hnc,hcm,hcs,htk⟩
 .have hx:s=[]:=by
   cases H with
   |sliceNil=>simp_all
  subst hx
  have hr:r=[]:=IO (by omega)
  subst hr
  refine(U5 Tryz.lays169 ZA b w.heap.size (.slice N 0 0) (.pointer N) w w.drew ⟨_,_,rfl⟩ ⟨_,rfl⟩ ((d 1).trans q) ((d 1).trans q) (.drew _ w) rfl).mono λe w' i=>?_
  obtain⟨rfl,m⟩:=i
  exact⟨_,Γ,λ_=>N,rfl,LZ (r:=[]) t m (by omega) (.inr (l8 _))⟩
 .have o:g≠b:=λe=>by
   have:=F g rfl
   simp_all
  have p:ow g≠N:=by rw[a4 g rfl];simp
  have a0:s.length=n:=by cases H with|sliceE a cap=>simp_all|slice _ _ _ _ _ _ _ _ _ _ _ _ _ _=>grind
  by_cases hz:r=[]
  .subst hz
   have a2:n=0:=by simp_all
   subst a2
   by_cases y:cap=0
   .subst y
    refine(U5 Tryz.lays169 ZA b g (.slice (O ⟨g,0,N⟩) 0 0) (.pointer (O ⟨w.drew.heap.size,0,N⟩)) w (w.drew.alloc (.view ⟨g,0,N⟩ tC)) ⟨_,_,rfl⟩ ⟨_,rfl⟩ ((d 1).trans q) ?_ (.alloc g w _) ?_).mono λe w' i=>?_
    .rw[bE (Lib.alloc_old w.drew _ b a1) 1]
     simp_all
    .exact Lib.run_unsafeSliceData_zero w.drew _ _ tC (Tryz.lays169).t127 ⟨g,0,N⟩ 0 (tC,cur.size) (by have S:w.drew.heap[g]? =O (.cells cur tC (0,0)):=hgh;simp[World.shape?,S])
    .obtain⟨rfl,m⟩:=i
     exact⟨_,Γ,λ_=>N,rfl,LZ (r:=[]) t m o (.inl p)⟩
   .refine(U5 Tryz.lays169 ZA b g (.slice (O ⟨g,0,N⟩) 0 cap) (.pointer (O ⟨g,0,N⟩)) w w.drew ⟨_,_,rfl⟩ ⟨_,rfl⟩ ((d 1).trans q) ((d 1).trans q) (.drew g w) (Lib.run_unsafeSliceData_row _ _ _ _ _ _ y)).mono λe w' i=>?_
    obtain⟨rfl,m⟩:=i
    exact⟨_,Γ,λ_=>N,rfl,LZ (r:=[]) t m o (.inl p)⟩
  .have a5:r.length=n:=B.trans a0
   have L:∀(j:Nat)(x:UInt8),r[j]? =O x->w.cell? ⟨g,j,N⟩=O (.int .u8 x.toNat):=λj x hx=>by
    have X:=A j x hx;cases H with
    |sliceE a cap=>simp_all
    |slice _ _ _ _ n' sz vals q0 q1 q2 q3 q4 q5 q6=>
     have i:es[j]? =O [.int .u8 (x.toNat:Int)]:=by rw[<-P,o8,X];rfl
     have a6:sz=1:=(q4 j _ i).symm;subst a6;have k1:=q5 j _ 0 _ i rfl;have k2:=q6 j _ 0 _ i rfl;rw[show(0:Nat)+j * 1+0=j by omega]at k1;rw[k1];generalize vals j 0=z at k2;cases k2;rfl
   subst a5
   refine(qh0 Tryz.lays169 ZA b g cap r cur w hz hnc hcm ((d 1).trans q) hgh (by omega) L).mono λe w' i=>?_
   obtain⟨rfl,m⟩:=i
   exact⟨_,Γ,λ_=>N,rfl,LZ t m o (.inl p)⟩
def KA(a:V Int)(b:K):Q Unit:=O ()
def NS(a:V Int)(b:K):Q aa:=ru a
def U3{b:V Int}{a:K}{r:Unit}(h:KA b a=O r):C Pg GE 85 [.bptr 0 0] [] [.cells [.nptr 0 132,sl (cI .u8) b,.bool a] [(1,tC)]] (.tuple []) [] [.cells [.nptr 0 132,sl (cI .u8) b,.bool a] [(1,tC)]]:=SZ (R:=[.bool a]) (show liesAt Pg Pg.depth 132 ((([.bool a]:V U).length+2) / Pg.cellsOf 132) 0 (Tryz.lays156_ren.t 72) 1=T by kernel_rfl)
def W1{b:V Int}{a:K}{r:aa}(h:NS b a=O r):C Pg GE 68 [.bptr 0 0] [] [.cells [.nptr 0 132,sl (cI .u8) b,.bool a] [(1,tC)]] (.str r) [] [.cells [.nptr 0 132,sl (cI .u8) b,.bool a] []]:=U4 (R:=[.bool a]) h
def Kz(a:V Int):Q Unit:=O ()
def BT(a:V Int):Q aa:=ru a
def U2{a:V Int}{r:Unit}(h:Kz a=O r):C Pg GE 85 [.bptr 0 0] [] [.cells [.nptr 0 106,sl (cI .u8) a] [(1,tC)]] (.tuple []) [] [.cells [.nptr 0 106,sl (cI .u8) a] [(1,tC)]]:=SZ (R:=[]) (show liesAt Pg Pg.depth 106 ((([]:V U).length+2) / Pg.cellsOf 106) 0 (Tryz.lays156_ren.t 72) 1=T by kernel_rfl)
def Np{a:V Int}{r:aa}(h:BT a=O r):C Pg GE 68 [.bptr 0 0] [] [.cells [.nptr 0 106,sl (cI .u8) a] [(1,tC)]] (.str r) [] [.cells [.nptr 0 106,sl (cI .u8) a] []]:=U4 (R:=[]) h
def Yb(l:V aa)(s:aa):Q aa:=if l.length<=1073741824/\(Lib.join l s).length<=1073741824 then O (Lib.join l s)else N
def ZB:Builder.Extra Pg Tryz.lays156_ren:={sizeBuilder:=by kernel_rfl,liesBuilder:=by kernel_rfl,t5:=by kernel_rfl,a5:=λw=>by kernel_rfl,z5:=λw=>by kernel_rfl,v5:=λw=>by kernel_rfl,infoByte:=by kernel_rfl,cellsByte:=by kernel_rfl,sizeByte:=by kernel_rfl,neB5:=by decide}
def qfA.of_below{w w':J}(h:Below w.heap.size w w'):qfA w w':=⟨h.os,h.tape,h.output,h.size,l8 _,λb a=>h.block b a⟩
def qbC{l:V aa}{s r:aa}(h:Yb l s=O r):CC Pg GE 273 [sl cS l,.str s] (.str r) []:=by
 unfold Yb at h;split at h;case isFalse=>grind
 rename_i hl;cases h;refine⟨aI (cw J3 l)<|aI hV hV,call273,λΓ bs ow w F i=>?_⟩;have a2:F.size=2:=i.sz;have P:=i.tm 0 _ F[0] rfl (by simp);have R:=i.tm 1 _ F[1] rfl (by simp);generalize hu:F[0]=u at P;generalize a3:F[1]=u1 at R;have a1:F=#[u,u1]:=by grind
 subst a1;cases R;have S:Calls Pg 273 #[u,.string ⟨s.toArray⟩] w λe w'=>e=.returned (.string ⟨(Lib.join l s).toArray⟩)/\qfA w w':=by
  unfold sl at P;generalize E:l.map cS=es at P;cases P with
  |sliceNil=>
   have:l=[]:=by simp_all
   subst this;exact(Any.strings_Join_none Tryz.lays156 ZB N 0 _ w).mono λe w' d=>⟨d.1,d.2▸.of_below (Below.refl _ _)⟩
  |sliceE a cap=>
   have:l=[]:=by simp_all
   subst this;exact(Any.strings_Join_none Tryz.lays156 ZB (O a) cap _ w).mono λe w' d=>⟨d.1,d.2▸.of_below (Below.refl _ _)⟩
  | slice _ b off cap n sz vals q0 q1 q2 q3 q4 q5 q6 =>
   have hm:(l.map λs:aa=>(⟨s.toArray⟩:ByteArray)).map (·.data.toList)=l:=by simp[vb4,Function.comp_def]
   have L:es.length=(l.map λs:aa=>(⟨s.toArray⟩:ByteArray)).length:=by grind
   have X:l≠[]->b<w.heap.size:=λ_=>by let⟨c,t,fr,k1,_⟩:=i.wi b n q2;grind
   by_cases H:l=[]
   .subst H;simp at E;subst E;exact(Any.strings_Join_none Tryz.lays156 ZB _ cap _ w).mono λe w' d=>⟨d.1,d.2▸.of_below (Below.refl _ _)⟩
   have S:=Any.strings_Join Tryz.lays156 ZB b off cap (l.map λs:aa=>(⟨s.toArray⟩:ByteArray)) ⟨s.toArray⟩ w (λj x A=>?_) (X H) (by grind) (by omega) (by rw[hm];grind);.rw[hm]at S;rw[L];exact S.mono λe w' d=>⟨d.1,.of_below d.2⟩
   .rw[o8]at A;obtain⟨y,hy,rfl⟩:=vaH.1 A;have d:es[j]? =O [.str y]:=by rw[<-E,o8,hy];rfl
    have hz:sz=1:=(q4 j _ d).symm;subst hz;have k1:=q5 j _ 0 _ d rfl;have k2:=q6 j _ 0 _ d rfl;rw[show off+j * 1+0=off+j by omega]at k1;rw[k1];generalize vals j 0=z at k2;cases k2;rfl
 refine S.mono λe w' d=>?_;obtain⟨rfl,q⟩:=d;have a0:bs.length=0:=i.bl;obtain rfl:bs=[]:=IO a0
 have hW:=i.world (Γ':=Γ) (w':=w') (λ_=>False) (λb m B _=>⟨m,B,l8 _,λo _=>bE (q.keep b (i.lt_of_ghost B)) o⟩)
  (λb m B=>by
   let⟨c,t,fr,R,h2⟩:=i.wi b m B;exact⟨c,t,fr,(q.keep b (i.lt_of_ghost B)).trans R,h2⟩) q.os q.tape q.output q.size (λb B _=>⟨q.keep b B,rfl⟩) (λ_ A=>A.elim) (λ_ _ _ A=>A) (λ_ _ _ A=>A) q.drawn
 refine⟨_,Γ,ow,rfl,{hW with
  sz:=rfl
  tm:=λt p v hp hv=>by cases t with|zero=>simp at hp hv;subst hp;subst hv;exact .str _|succ t=>simp_all
  ot:=λt k e d=>by simp_all}⟩
set_option linter.defProp false
abbrev DH:=(ah->Q Int)
abbrev J6(R:DH):Prop:=∀(e:ah),OV 25 [.agg (al e)] (R e) (λr=>.i6 r) []
noncomputable def qvg:W:=f45.body.getD .skip
def qu6:ZF Pg [16,25] 45 f45 qvg:=zf call45 func45 rfl mixed
section
variable(e:ah)(a:waD)(i:Int)
def I5:az:=aR 26 [(1,.eptr (al e)),(3,sl al a),(4,.i6 i)] [.dead] [((3,0),50)]
def TH(o:waD):az:=aR 26 [(3,sl al o)] [.dead] [((3,0),50)]
def iM:Q ((waD×Int)⊕(waD)):=if Y (i<(e.Alts.length:Int))then (cJ e.Alts i).bind λc=>(app a ([c.Body]:V ah)).bind λb=>O (.inl (b,dc (i+1))) else O (.inr a)
def xL:Q waD:=loop (λ(b:waD×Int)=>iM e b.1 b.2) (a,i)
def Po:OL 0 (cA qvg 119) (iM e a i) (λ(h:waD×Int)=>I5 e h.1 h.2) (λ_=>.exit 0) TH (I5 e a i):=qu6.l<|
 tw (aF e)<|ca (kn.ln e.Alts)<|tF (tb λd c=>tb λm b=>tw (aF e)<|tv (kn.ia c)<|tw (sS d)<|tv (iQ.mk' (v:=UE) Sm ([d.Body]:V ah) 1 (by kernel_rfl))<|tv (iQ.ap b)<|tE)<|tE
def Rg:=ug (s:=(a,i)) λb=>Po e b.1 b.2
end
def wS(e:ah):Q waD:=(app ([]:V ah) e.Kids).bind λa=>(xL e a 0).bind λb=>O b
def WU{e:ah}:OV 45 [.agg (al e)] (wS e) (λr=>sl al r) [(0,50)]:=qu6.v<|
 tb λc a=>tb λd b=>te (dG e)<|tv (iQ.mk' (v:=UE) Sm ([]:V ah) 0 (by kernel_rfl))<|tw (aB e)<|tv (iQ.ap a)<|cM (Rg e c 0 _ b)<|tE
noncomputable def qvd:W:=f25.body.getD .skip
def qu1:ZF Pg [21] 25 f25 qvd:=zf call25 func25 rfl mixed
section
variable(a:DH)(v:waD)(n i:Int)
def Ko:az:=aR 22 [(3,.i6 n),(4,sl al v),(5,.i6 i)] [.dead] [((4,0),50)]
def UQ(o:Int):az:=aR 22 [(3,.i6 o)] [.dead] []
def jD:Q ((Int×Int)⊕(Int)):=if Y (i<(v.length:Int))then (cJ v i).bind λc=>(a c).bind λb=>O (.inl (dc (n+b),dc (i+1))) else O (.inr n)
def Hx:Q Int:=loop (λ(b:Int×Int)=>jD a v b.1 b.2) (n,i)
def Rf(d:J6 a):OL 0 (cA qvd 247) (jD a v n i) (λ(e:Int×Int)=>Ko v e.1 e.2) (λ_=>.exit 0) UQ (Ko v n i):=qu1.l<|ca (iQ.ln v)<|tF (tb λh c=>tb λm b=>tv (iQ.ia c)<|tv (bv h)<|cP (d _ _ b)<|tE)<|tE
def TG(b:J6 a):=ug (s:=(n,i)) λc=>Rf a v c.1 c.2 b
end
def DC(a:DH)(e:ah):Q Int:=(wS e).bind λc=>(Hx a c 1 0).bind λb=>O b
def WT(a:DH)(d:J6 a){e:ah}:OV 25 [.agg (al e)] (DC a e) (λr=>.i6 r) []:=qu1.v<|tb λh c=>tb λi b=>te (dG e)<|tv (bv e)<|cP (WU _ c)<|cM (TG a h 1 0 d _ b)<|tE
def Kn:(ah->Q Int)->(ah)->Q Int:=λ(rec:ah->Q Int) (x:ah)=>DC (λe=>rec e) x
def LT(e:ah):Q Int:=sQ Kn e
def Y4{e:ah}:OV 25 [.agg (al e)] (LT e) (λr=>.i6 r) []:=qaK λ_ h=>ij (F:=Kn) (M:=λ(x:ah) (r:Int)=>CC Pg GE 25 [.agg (al x)] (.i6 r) []) (λrec a x r h=>WT _ (λe=>qaK λr h=>a e r h) _ h) h
noncomputable def b8:W:=Tryz.f8.body.getD .skip
def Z8:ZF Pg [] 8 Tryz.f8 b8:=zf call8 func8 rfl mixed
section
variable(m:am)(t6:waG)(t7 t8:Int)(m2:aa)(E:waA)(F:Int)(H:aa)(L:Int)(P:waD)(R:waF)(S:rf)(c:md)(d:Int)(e:K)(h:waA)(i:waH)(p:waJ)(a:waI)(q:Int)(s:aa)(t:md)(w:waA)(x:Int)(y:aa)(z:Int)(A B b:m6)
def NO:Q K:=(LT (⟨F,H,L,P,R,S,c⟩:ah)).bind λo=>if Y (o>200)then O T else if Y ((E.length:Int)>20)then O T else if Y ((a.length:Int)>10)then O T else O (Y ((b.length:Int)>10))
def WW:OJ 0 (cA b8 3574) (NO E F H L P R S c a b) .normal (λo=>aR 59 [(1,.eptr (au m)),(6,sl aL t6),(7,.i6 t7),(8,.i6 t8),(35,.bool o)] [.dead,.dead] []) (aR 59 [(1,.eptr (au m)),(4,.bptr 1 0),(6,sl aL t6),(7,.i6 t7),(8,.i6 t8)] [.dead,.cells [.str m2,sl cS E,.i6 F,.str H,.i6 L,sl al P,sl aU R,sl bz S,sl aj c,.i6 d,.bool e,sl cS h,sl bS i,sl eP p,sl bT a,.i6 q,.str s,sl aj t,sl cS w,.i6 x,.str y,.i6 z,sl af A,sl af B,sl af b] []] []):=Z8.j<|
 tb λr3 a3=>have a0:=λ{X a4 a5} (r:PV _ X a4 a5)=>tv (fH (⟨F,H,L,P,R,S,c⟩:ah) [.i6 d,.bool e,sl cS h,sl bS i,sl eP p,sl bT a,.i6 q,.str s,sl aj t,sl cS w,.i6 x,.str y,.i6 z,sl af A,sl af B,sl af b])<|cP (Y4 _ a3)<|r;tf (λc4=>a0<|tg 5 c4<|tE) λc4=>have a1:=λ{X a4 a5} (r:PV _ X a4 a5)=>a0<|tg 5 c4<|ts<|ca (cT.ln E)<|r;tf (λc6=>a1<|tg 11 c6<|tE) λc6=>have a2:=λ{X a4 a5} (r:PV _ X a4 a5)=>a1<|tg 11 c6<|ts<|ca (qoA.ln a)<|r;tf (λc8=>a2<|tg 18 c8<|tE) λc8=>a2<|tg 18 c8<|ts<|ca (je.ln b)<|tE
end
section
variable(m:am)(b:waG)(c a:Int)
def AK:az:=aR 59 [(1,.eptr (au m)),(6,sl aL b),(7,.i6 c),(8,.i6 a)] [.dead] []
def Pr(o:Unit⊕(Unit)):Exit:=match o with|(.inl _)=>.ret|(.inr _)=>.exit 0
def HH(o:Unit⊕(Unit)):az:=match o with|(.inl o)=>aR 59 [(2,.bool Z)] [.dead] []|(.inr o)=>aR 59 [(1,.eptr (au m))] [.dead] []
instance qzc:KS 0 (AK m b c a):=ks 1 rfl
instance qzb{o:Unit⊕(Unit)}:KS 0 (HH m o):=match o with|(.inl o)=>ks 1 rfl|(.inr o)=>ks 1 rfl
def qi:Q (Int⊕(Unit⊕(Unit))):=if Y (a<c)then (cJ b a).bind λd=>(NO d.Params d.Body.Op d.Body.Name d.Body.N d.Body.Kids d.Body.Params d.Body.Alts d.Body.Types d.Sig.Bounds d.Sig.Metric).bind λe=>if e then O (.inr (.inl ())) else O (.inl (dc (a+1))) else O (.inr (.inr ()))
def NP:Q (Unit⊕(Unit)):=loop (λ(d:Int)=>qi b c d) a
def UZ:OL 0 (cA b8 55) (qi b c a) (λ(o:Int)=>AK m b c o) Pr (HH m) (AK m b c a):=Z8.lx<|tF (tb λd h=>tb λi e=>tv (ta.ia h)<|tv (sF d)<|tx Dl<|tx (eW d)<|jC 0<|cM (WW m b c a d.Name d.Params d.Body.Op d.Body.Name d.Body.N d.Body.Kids d.Body.Params d.Body.Alts d.Body.Types d.Mode d.Typed d.Sig.Vars d.Sig.Needs d.Sig.Abs d.Sig.Bounds d.Sig.Type_.Op d.Sig.Type_.Name d.Sig.Type_.Args d.Sig.Type_.Names d.Sig.Type_.Pred.Op d.Sig.Type_.Pred.Name d.Sig.Type_.Pred.N d.Sig.Type_.Pred.Kids d.Sig.Type_.Preds d.Sig.Metric _ e)<|tF tE<|tE)<|tE
def No:OK 0 (.loop (cA b8 55)) (NP b c a) Pr (HH m) (AK m b c a):=NA λ_=>UZ _ _ _ _
end
def Uj(m:am):Q K:=(NP m.Defs (m.Defs.length:Int) 0).bind λa=>match a with|(.inl a)=>O Z| (.inr a) =>if Y ((m.Datas.length:Int)<=10)then if Y ((m.Measures.length:Int)<=10)then if Y ((m.Quals.length:Int)<=10)then O (Y ((m.Defs.length:Int)<=10)) else O Z else O Z else O Z
def qcO{m:am}:OV 8 [.agg (au m)] (Uj m) (λr=>.bool r) []:=Z8.v<|
 te (ew m)<|tw (ck m)<|ca (ta.ln m.Defs)<|t2 (λo a=>cM (No m m.Defs (m.Defs.length:Int) 0 _ a)<|tE) λo a=>cM (No m m.Defs (m.Defs.length:Int) 0 _ a)<|have b:=λ{X p q} (r:PV _ X p q)=>tw (kH m)<|ca (qj5.ln m.Datas)<|r;tf (λe=>have c:=λ{X p q} (r:PV _ X p q)=>b<|tg 5 e<|tw (kI m)<|ca (qj6.ln m.Measures)<|r;tf (λh=>have d:=λ{X p q} (r:PV _ X p q)=>c<|tg 11 h<|tw (kJ m)<|ca (qj7.ln m.Quals)<|r;tf (λi=>d<|tg 17 i<|tw (ck m)<|ca (ta.ln m.Defs)<|tE) λi=>d<|tg 17 i<|tE) λh=>c<|tg 11 h<|tE) λe=>b<|tg 5 e<|tE
noncomputable def qva:W:=f10.body.getD .skip
def quW:ZF Pg [13,19] 10 f10 qva:=zf call10 func10 rfl mixed
section
variable(c:waG)(d:Int)(a:waA)(b:Int)
def BQ:az:=aR 20 [(3,sl cS a),(7,sl aL c),(8,.i6 d),(9,.i6 b)] [.dead] [((3,0),9)]
def Kw(o:waA):az:=aR 20 [(3,sl cS o)] [.dead] [((3,0),9)]
instance qyX:KS 0 (BQ c d a b):=ks 1 rfl
instance qyV{o:waA}:KS 0 (Kw o):=ks 1 rfl
def po:Q ((waA×Int)⊕(waA)):=if Y (b<d)then (cJ c b).bind λh=>(app a ([h.Name]:V aa)).bind λe=>O (.inl (e,dc (b+1))) else O (.inr a)
def Ps:Q waA:=loop (λ(e:waA×Int)=>po c d e.1 e.2) (a,b)
def Ri:OL 0 (cA qva 119) (po c d a b) (λ(m:waA×Int)=>BQ c d m.1 m.2) (λ_=>.exit 0) Kw (BQ c d a b):=quW.lx<|tF (tb λi h=>tb λo e=>tv (ta.ia h)<|tv (sF i)<|tx Dl<|tx (eW i)<|ts<|tv (bG [i.Name] 1 rfl)<|tv (cT.ap e)<|tE)<|tE
def TI:=ug (s:=(a,b)) λe=>Ri c d e.1 e.2
end
def FU(m:am):Q waA:=(Ps m.Defs (m.Defs.length:Int) ([]:V aa) 0).bind λa=>O a
def Pt{m:am}:OV 10 [.agg (au m)] (FU m) (λr=>sl cS r) [(0,9)]:=quW.v<|tb λb a=>te (ew m)<|tw (ck m)<|ca (ta.ln m.Defs)<|cM (TI m.Defs (m.Defs.length:Int) ([]:V aa) 0 _ a)<|tE
noncomputable def qtL:W:=f44.body.getD .skip
def qu5:ZF Pg [10,17] 44 f44 qtL:=zf call44 func44 rfl mixed
section
variable(v:waA)(s:aa)(b a:Int)
def ET:az:=aR 19 [(0,sl cS v),(1,.str s),(7,.i6 b),(8,.i6 a)] [] []
def Nh(o:Int⊕(Unit)):Exit:=match o with|(.inl _)=>.ret|(.inr _)=>.exit 0
def Ni(o:Int⊕(Unit)):az:=match o with|(.inl o)=>aR 19 [(4,.i6 o)] [] []|(.inr o)=>aR 19 [] [] []
def rp:Q (Int⊕(Int⊕(Unit))):=if Y (a<b)then (cJ v a).bind λc=>if(c==s)then O (.inr (.inl a)) else O (.inl (dc (a+1))) else O (.inr (.inr ()))
def Kb:Q (Int⊕(Unit)):=loop (λ(c:Int)=>rp v s b c) a
def TA:OL 0 (cA qtL 55) (rp v s b a) (λ(e:Int)=>ET v s b e) Nh Ni (ET v s b a):=qu5.l<|tF (tb λd c=>tv (cT.ia c)<|tv (cX OR (.str d) [])<|tF tE<|tE)<|tE
def Kc:OK 0 (.loop (cA qtL 55)) (Kb v s b a) Nh Ni (ET v s b a):=NA λ_=>TA _ _ _ _
end
def Ka(a:waA)(s:aa):Q Int:=(Kb a s (a.length:Int) 0).bind λb=>match b with|(.inl b)=>O b|(.inr b)=>O (-1)
def qaO{a:waA}{s:aa}:OV 44 [sl cS a,.str s] (Ka a s) (λr=>.i6 r) []:=qu5.v<|ca (cT.ln a)<|t2 (λc b=>cM (Kc a s (a.length:Int) 0 _ b)<|tE) λc b=>cM (Kc a s (a.length:Int) 0 _ b)<|tE
noncomputable def qtr:W:=f24.body.getD .skip
def qu0:ZF Pg [8] 24 f24 qtr:=zf call24 func24 rfl mixed
section
variable(v:waA)(b a:Int)
def uk:az:=aR 18 [(0,sl cS v),(5,.i6 b),(6,.i6 a)] [] []
def Dr(o:Unit⊕(Unit)):Exit:=match o with|(.inl _)=>.ret|(.inr _)=>.exit 0
def Ds(o:Unit⊕(Unit)):az:=match o with|(.inl o)=>aR 18 [(2,.bool Z)] [] []|(.inr o)=>aR 18 [] [] []
def oJ:Q (Int⊕(Unit⊕(Unit))):=if Y (a<b)then (cJ v a).bind λd=>(Ka v d).bind λc=>if(c !=a)then O (.inr (.inl ())) else O (.inl (dc (a+1))) else O (.inr (.inr ()))
def zc:Q (Unit⊕(Unit)):=loop (λ(c:Int)=>oJ v b c) a
def MA:OL 0 (cA qtr 55) (oJ v b a) (λ(h:Int)=>uk v b h) Dr Ds (uk v b a):=qu0.l<|tF (tb λe d=>tb λi c=>tv (cT.ia d)<|tv (cX OR (.str e) [])<|cP (qaO _ c)<|tF tE<|tE)<|tE
def BG:OK 0 (.loop (cA qtr 55)) (zc v b a) Dr Ds (uk v b a):=NA λ_=>MA _ _ _
end
def kC(a:waA):Q K:=(zc a (a.length:Int) 0).bind λb=>match b with|(.inl b)=>O Z|(.inr b)=>O T
def Tz{a:waA}:OV 24 [sl cS a] (kC a) (λr=>.bool r) []:=qu0.v<|ca (cT.ln a)<|t2 (λc b=>cM (BG a (a.length:Int) 0 _ b)<|tE) λc b=>cM (BG a (a.length:Int) 0 _ b)<|tE
noncomputable def qwg:W:=f47.body.getD .skip
def qv0:ZF Pg [] 47 f47 qwg:=zf call47 func47 rfl mixed
def qeq:Q iu:=O (⟨[],[],[],[],⟨6,[],[⟨1,[],[],[],⟨0,[],0,[]⟩,[]⟩,⟨1,[],[],[],⟨0,[],0,[]⟩,[]⟩],[[120]],⟨0,[],0,[]⟩,[]⟩,[]⟩:iu)
def qcP:OV 47 [] qeq (λr=>.agg (cr r)) [(0,9),(1,223),(2,194),(3,197),(13,59)]:=qv0.va<|
 tx quB<|tv (bG [([120]:aa)] 1 rfl)<|XD (Va 1) (U7 1)<|XD (Va 1) (U7 1)<|tv (ff.mk' (v:=qft) qgS ([⟨1,[],[],[],⟨0,[],0,[]⟩,[]⟩,⟨1,[],[],[],⟨0,[],0,[]⟩,[]⟩]:V ai) 2 (by kernel_rfl))<|XD (Vb 6 ([[120]]:V aa) ([⟨1,[],[],[],⟨0,[],0,[]⟩,[]⟩,⟨1,[],[],[],⟨0,[],0,[]⟩,[]⟩]:V ai)) (U8 6 ([[120]]:V aa) ([⟨1,[],[],[],⟨0,[],0,[]⟩,[]⟩,⟨1,[],[],[],⟨0,[],0,[]⟩,[]⟩]:V ai))<|XD (qfO (⟨6,[],[⟨1,[],[],[],⟨0,[],0,[]⟩,[]⟩,⟨1,[],[],[],⟨0,[],0,[]⟩,[]⟩],[[120]],⟨0,[],0,[]⟩,[]⟩:ai)) (qfM (⟨6,[],[⟨1,[],[],[],⟨0,[],0,[]⟩,[]⟩,⟨1,[],[],[],⟨0,[],0,[]⟩,[]⟩],[[120]],⟨0,[],0,[]⟩,[]⟩:ai))<|ty (nh (⟨[],[],[],[],⟨6,[],[⟨1,[],[],[],⟨0,[],0,[]⟩,[]⟩,⟨1,[],[],[],⟨0,[],0,[]⟩,[]⟩],[[120]],⟨0,[],0,[]⟩,[]⟩,[]⟩:iu))<|QZ λq=>aI (qjY (⟨[],[],[],[],⟨6,[],[⟨1,[],[],[],⟨0,[],0,[]⟩,[]⟩,⟨1,[],[],[],⟨0,[],0,[]⟩,[]⟩],[[120]],⟨0,[],0,[]⟩,[]⟩,[]⟩:iu)) q.2
noncomputable def qve:W:=f27.body.getD .skip
def qu2:ZF Pg [] 27 f27 qve:=zf call27 func27 rfl mixed
section
variable(name:aa)(e:K)(a:aa)(m:waD)(c:waF)(d:rf)(b:md)(p:waH)(q:waJ)(r:waI)(i:m6)(h:Int)
def UY:Q (Int×aa×Int×waD×waF×rf×md):=if(!(a==([]:aa)))then O (5,a,0,([⟨1,[],h,m,c,d,b⟩]:V ah),([]:V aY),([]:V bH),([]:V ai)) else O (1,([]:aa),h,m,c,d,b)
def WV:OJ 0 (cA qve 14) (UY a m c d b h) .normal (λo=>aR 24 [(0,.str name),(1,.bool e),(8,.bptr 0 0),(9,.bptr 1 0)] [.cells [.str ([]:aa),sl cS ([]:V aa),.i6 0,.str ([]:aa),.i6 0,sl al m,sl aU c,sl bz d,sl aj b,.i6 0,.bool Z,sl cS ([]:V aa),sl bS p,sl eP q,sl bT r,.i6 0,.str ([]:aa),sl aj b,sl cS ([]:V aa),.i6 0,.str ([]:aa),.i6 0,sl af i,sl af i,sl af i] [(1,9),(5,50),(6,185),(7,124),(8,61),(11,9),(12,223),(13,194),(14,197),(17,61),(18,9),(22,59),(23,59),(24,59)],.cells [.i6 o.1,.str o.2.1,.i6 o.2.2.1,sl al o.2.2.2.1,sl aU o.2.2.2.2.1,sl bz o.2.2.2.2.2.1,sl aj o.2.2.2.2.2.2] [(4,185),(5,124),(6,61)]] []) (aR 24 [(0,.str name),(1,.bool e),(2,.str a),(8,.bptr 0 0),(9,.bptr 1 0)] [.cells [.str ([]:aa),sl cS ([]:V aa),.i6 0,.str ([]:aa),.i6 0,sl al m,sl aU c,sl bz d,sl aj b,.i6 0,.bool Z,sl cS ([]:V aa),sl bS p,sl eP q,sl bT r,.i6 0,.str ([]:aa),sl aj b,sl cS ([]:V aa),.i6 0,.str ([]:aa),.i6 0,sl af i,sl af i,sl af i] [(1,9),(5,50),(6,185),(7,124),(8,61),(11,9),(12,223),(13,194),(14,197),(17,61),(18,9),(22,59),(23,59),(24,59)],.cells [.i6 1,.str ([]:aa),.i6 h,sl al m,sl aU c,sl bz d,sl aj b] [(3,50),(4,185),(5,124),(6,61)]] []):=qu2.j<|
 tF (tv (fH (⟨1,[],h,m,c,d,b⟩:ah) [])<|tv (iQ.mk' (v:=UE) Sm ([⟨1,[],h,m,c,d,b⟩]:V ah) 1 (by kernel_rfl))<|XD (U9 5 a ([⟨1,[],h,m,c,d,b⟩]:V ah)) (U6 5 a ([⟨1,[],h,m,c,d,b⟩]:V ah))<|ty (d9 (⟨5,a,0,[⟨1,[],h,m,c,d,b⟩],[],[],[]⟩:ah))<|tE)<|tE
end
def AJ(d:aa)(b:K)(c:aa)(n:Int):Q ba:=(UY c ([]:V ah) ([]:V aY) ([]:V bH) ([]:V ai) n).bind λa=>qeq.bind λe=>O (⟨d,[[120]],⟨a.1,a.2.1,a.2.2.1,a.2.2.2.1,a.2.2.2.2.1,a.2.2.2.2.2.1,a.2.2.2.2.2.2⟩,0,b,e⟩:ba)
def pn{c:aa}{b:K}{d:aa}{n:Int}:OV 27 [.str c,.bool b,.str d,.i6 n] (AJ c b d n) (λr=>.agg (aL r)) []:=qu2.v<|tb λa e=>tb λi h=>tx Dl<|XD (Zh 1 n) (Zd 1 n)<|tx qaq<|ty (d9 (⟨1,[],n,[],[],[],[]⟩:ah))<|jC 0<|cM (WV c b d ([]:V ah) ([]:V aY) ([]:V bH) ([]:V ai) ([]:V dZ) ([]:V ku) ([]:V cY) ([]:V ag) n _ e)<|qfr [0,0,0,0,0,31,63]<|tv (bG [([120]:aa)] 1 rfl)<|tv (fH (⟨a.1,a.2.1,a.2.2.1,a.2.2.2.1,a.2.2.2.2.1,a.2.2.2.2.2.1,a.2.2.2.2.2.2⟩:ah) [])<|cP (qcP _ h)<|tv (PC c ([[120]]:V aa) (⟨a.1,a.2.1,a.2.2.1,a.2.2.2.1,a.2.2.2.2.1,a.2.2.2.2.2.1,a.2.2.2.2.2.2⟩:ah) b i)<|tx (eW (⟨c,[[120]],⟨a.1,a.2.1,a.2.2.1,a.2.2.2.1,a.2.2.2.2.1,a.2.2.2.2.2.1,a.2.2.2.2.2.2⟩,0,b,i⟩:ba))<|QZ λq=>aI (Wx (⟨c,[[120]],⟨a.1,a.2.1,a.2.2.1,a.2.2.2.1,a.2.2.2.2.1,a.2.2.2.2.2.1,a.2.2.2.2.2.2⟩,0,b,i⟩:ba)) q.2
noncomputable def qvc:W:=f20.body.getD .skip
def quZ:ZF Pg [] 20 f20 qvc:=zf call20 func20 rfl mixed
section
variable(s:aa)(v i:Int)
def I7:az:=aR 20 [(0,.str s),(3,.int .u32 v),(4,.i6 i)] [] []
def TP(o:Int):az:=aR 20 [(3,.int .u32 o)] [] []
def iO:Q ((Int×Int)⊕(Int)):=if Y (i<(s.length:Int))then (lO s i).bind λa=>O (.inl (IntKind.u32.wrap ((qnZ .u32 v (IntKind.u32.wrap a)) * 16777619),dc (i+1))) else O (.inr v)
def E3:Q Int:=loop (λ(a:Int×Int)=>iO s a.1 a.2) (v,i)
def PF:OL 0 (cA qvc 119) (iO s v i) (λ(b:Int×Int)=>I7 s b.1 b.2) (λ_=>.exit 0) TP (I7 s v i):=quZ.l<|ca (LF underlying9 s)<|tF (tb λc a=>tv (wP underlying9 a)<|tv (qvn underlying5 underlying78 c)<|tE)<|tE
def Rv:=ug (s:=(v,i)) λa=>PF s a.1 a.2
end
def wX(s:aa):Q Int:=(E3 s 2166136261 0).bind λa=>O (IntKind.i64.wrap a)
def xS{s:aa}:OV 20 [.str s] (wX s) (λr=>.i6 r) []:=quZ.v<|tb λb a=>cM (Rv s 2166136261 0 _ a)<|tv (qvn underlying78 underlying3 b)<|tE
noncomputable def qtF:W:=f28.body.getD .skip
def qu3:ZF Pg [] 28 f28 qtF:=zf call28 func28 rfl mixed
section
variable(name:aa)(R:waG)(B r:Int)(m:aa)(E:waA)(S:Int)(X:aa)(m5:Int)(F:waD)(H:waF)(L:rf)(P:md)(s:Int)(t:K)(a:waA)(b:waH)(c:waJ)(d:waI)(w:Int)(x:aa)(e:md)(h:waA)(y:Int)(z:aa)(A:Int)(i p q:m6)
def sJ:az:=aR 22 [(1,.str name),(4,.bptr 1 0),(9,sl aL R),(10,.i6 B),(11,.i6 r)] [.dead,.cells [.str m,sl cS E,.i6 S,.str X,.i6 m5,sl al F,sl aU H,sl bz L,sl aj P,.i6 s,.bool t,sl cS a,sl bS b,sl eP c,sl bT d,.i6 w,.str x,sl aj e,sl cS h,.i6 y,.str z,.i6 A,sl af i,sl af p,sl af q] [(1,9),(5,50),(6,185),(7,124),(8,61),(11,9),(12,223),(13,194),(14,197),(17,61),(18,9),(22,59),(23,59),(24,59)]] []
def Ju(o:(aa×waA×Int×aa×Int×waD×waF×rf×md×Int×K×waA×waH×waJ×waI×Int×aa×md×waA×Int×aa×Int×m6×m6×m6)⊕(aa×waA×Int×aa×Int×waD×waF×rf×md×Int×K×waA×waH×waJ×waI×Int×aa×md×waA×Int×aa×Int×m6×m6×m6)):Exit:=match o with|(.inl _)=>.ret|(.inr _)=>.exit 0
def zW(o:(aa×waA×Int×aa×Int×waD×waF×rf×md×Int×K×waA×waH×waJ×waI×Int×aa×md×waA×Int×aa×Int×m6×m6×m6)⊕(aa×waA×Int×aa×Int×waD×waF×rf×md×Int×K×waA×waH×waJ×waI×Int×aa×md×waA×Int×aa×Int×m6×m6×m6)):az:=match o with|(.inl o)=>aR 22 [(4,.bptr 1 0),(5,.bool T)] [.dead,.cells [.str o.1,sl cS o.2.1,.i6 o.2.2.1,.str o.2.2.2.1,.i6 o.2.2.2.2.1,sl al o.2.2.2.2.2.1,sl aU o.2.2.2.2.2.2.1,sl bz o.2.2.2.2.2.2.2.1,sl aj o.2.2.2.2.2.2.2.2.1,.i6 o.2.2.2.2.2.2.2.2.2.1,.bool o.2.2.2.2.2.2.2.2.2.2.1,sl cS o.2.2.2.2.2.2.2.2.2.2.2.1,sl bS o.2.2.2.2.2.2.2.2.2.2.2.2.1,sl eP o.2.2.2.2.2.2.2.2.2.2.2.2.2.1,sl bT o.2.2.2.2.2.2.2.2.2.2.2.2.2.2.1,.i6 o.2.2.2.2.2.2.2.2.2.2.2.2.2.2.2.1,.str o.2.2.2.2.2.2.2.2.2.2.2.2.2.2.2.2.1,sl aj o.2.2.2.2.2.2.2.2.2.2.2.2.2.2.2.2.2.1,sl cS o.2.2.2.2.2.2.2.2.2.2.2.2.2.2.2.2.2.2.1,.i6 o.2.2.2.2.2.2.2.2.2.2.2.2.2.2.2.2.2.2.2.1,.str o.2.2.2.2.2.2.2.2.2.2.2.2.2.2.2.2.2.2.2.2.1,.i6 o.2.2.2.2.2.2.2.2.2.2.2.2.2.2.2.2.2.2.2.2.2.1,sl af o.2.2.2.2.2.2.2.2.2.2.2.2.2.2.2.2.2.2.2.2.2.2.1,sl af o.2.2.2.2.2.2.2.2.2.2.2.2.2.2.2.2.2.2.2.2.2.2.2.1,sl af o.2.2.2.2.2.2.2.2.2.2.2.2.2.2.2.2.2.2.2.2.2.2.2.2] []] []|(.inr o)=>aR 22 [(4,.bptr 1 0)] [.dead,.cells [.str o.1,sl cS o.2.1,.i6 o.2.2.1,.str o.2.2.2.1,.i6 o.2.2.2.2.1,sl al o.2.2.2.2.2.1,sl aU o.2.2.2.2.2.2.1,sl bz o.2.2.2.2.2.2.2.1,sl aj o.2.2.2.2.2.2.2.2.1,.i6 o.2.2.2.2.2.2.2.2.2.1,.bool o.2.2.2.2.2.2.2.2.2.2.1,sl cS o.2.2.2.2.2.2.2.2.2.2.2.1,sl bS o.2.2.2.2.2.2.2.2.2.2.2.2.1,sl eP o.2.2.2.2.2.2.2.2.2.2.2.2.2.1,sl bT o.2.2.2.2.2.2.2.2.2.2.2.2.2.2.1,.i6 o.2.2.2.2.2.2.2.2.2.2.2.2.2.2.2.1,.str o.2.2.2.2.2.2.2.2.2.2.2.2.2.2.2.2.1,sl aj o.2.2.2.2.2.2.2.2.2.2.2.2.2.2.2.2.2.1,sl cS o.2.2.2.2.2.2.2.2.2.2.2.2.2.2.2.2.2.2.1,.i6 o.2.2.2.2.2.2.2.2.2.2.2.2.2.2.2.2.2.2.2.1,.str o.2.2.2.2.2.2.2.2.2.2.2.2.2.2.2.2.2.2.2.2.1,.i6 o.2.2.2.2.2.2.2.2.2.2.2.2.2.2.2.2.2.2.2.2.2.1,sl af o.2.2.2.2.2.2.2.2.2.2.2.2.2.2.2.2.2.2.2.2.2.2.1,sl af o.2.2.2.2.2.2.2.2.2.2.2.2.2.2.2.2.2.2.2.2.2.2.2.1,sl af o.2.2.2.2.2.2.2.2.2.2.2.2.2.2.2.2.2.2.2.2.2.2.2.2] [(1,9),(5,50),(6,185),(7,124),(8,61),(11,9),(12,223),(13,194),(14,197),(17,61),(18,9),(22,59),(23,59),(24,59)]] []
instance qyS:KS 0 (sJ name R B r m E S X m5 F H L P s t a b c d w x e h y z A i p q):=⟨rfl,(I6 (aI hV (aI (qiY rfl) (aI (up (cw DK R)) (aI hV (aI hV hV)))))),(aI hV (aI (aI hV (aI (up (cw J3 E)) (aI hV (aI hV (aI hV (aI (up (cw yC F)) (aI (up (cw wW H)) (aI (up (cw HK L)) (aI (up (cw pp P)) (aI hV (aI hV (aI (up (cw J3 a)) (aI (up (cw KK b)) (aI (up (cw Ul c)) (aI (up (cw F2 d)) (aI hV (aI hV (aI (up (cw pp e)) (aI (up (cw J3 h)) (aI hV (aI hV (aI hV (aI (up (cw dn i)) (aI (up (cw dn p)) (aI (up (cw dn q)) trivial))))))))))))))))))))))))) trivial))⟩
instance qyO{o:(aa×waA×Int×aa×Int×waD×waF×rf×md×Int×Bool×waA×waH×waJ×waI×Int×aa×md×waA×Int×aa×Int×m6×m6×m6)⊕(aa×waA×Int×aa×Int×waD×waF×rf×md×Int×Bool×waA×waH×waJ×waI×Int×aa×md×waA×Int×aa×Int×m6×m6×m6)}:KS 0 (zW o):=match o with|(.inl o)=>⟨rfl,(I6 (aI (qiY rfl) (aI hV hV))),(aI hV (aI (aI hV (aI (up (cw J3 o.2.1)) (aI hV (aI hV (aI hV (aI (up (cw yC o.2.2.2.2.2.1)) (aI (up (cw wW o.2.2.2.2.2.2.1)) (aI (up (cw HK o.2.2.2.2.2.2.2.1)) (aI (up (cw pp o.2.2.2.2.2.2.2.2.1)) (aI hV (aI hV (aI (up (cw J3 o.2.2.2.2.2.2.2.2.2.2.2.1)) (aI (up (cw KK o.2.2.2.2.2.2.2.2.2.2.2.2.1)) (aI (up (cw Ul o.2.2.2.2.2.2.2.2.2.2.2.2.2.1)) (aI (up (cw F2 o.2.2.2.2.2.2.2.2.2.2.2.2.2.2.1)) (aI hV (aI hV (aI (up (cw pp o.2.2.2.2.2.2.2.2.2.2.2.2.2.2.2.2.2.1)) (aI (up (cw J3 o.2.2.2.2.2.2.2.2.2.2.2.2.2.2.2.2.2.2.1)) (aI hV (aI hV (aI hV (aI (up (cw dn o.2.2.2.2.2.2.2.2.2.2.2.2.2.2.2.2.2.2.2.2.2.2.1)) (aI (up (cw dn o.2.2.2.2.2.2.2.2.2.2.2.2.2.2.2.2.2.2.2.2.2.2.2.1)) (aI (up (cw dn o.2.2.2.2.2.2.2.2.2.2.2.2.2.2.2.2.2.2.2.2.2.2.2.2)) trivial))))))))))))))))))))))))) trivial))⟩|(.inr o)=>⟨rfl,(I6 (aI (qiY rfl) trivial)),(aI hV (aI (aI hV (aI (up (cw J3 o.2.1)) (aI hV (aI hV (aI hV (aI (up (cw yC o.2.2.2.2.2.1)) (aI (up (cw wW o.2.2.2.2.2.2.1)) (aI (up (cw HK o.2.2.2.2.2.2.2.1)) (aI (up (cw pp o.2.2.2.2.2.2.2.2.1)) (aI hV (aI hV (aI (up (cw J3 o.2.2.2.2.2.2.2.2.2.2.2.1)) (aI (up (cw KK o.2.2.2.2.2.2.2.2.2.2.2.2.1)) (aI (up (cw Ul o.2.2.2.2.2.2.2.2.2.2.2.2.2.1)) (aI (up (cw F2 o.2.2.2.2.2.2.2.2.2.2.2.2.2.2.1)) (aI hV (aI hV (aI (up (cw pp o.2.2.2.2.2.2.2.2.2.2.2.2.2.2.2.2.2.1)) (aI (up (cw J3 o.2.2.2.2.2.2.2.2.2.2.2.2.2.2.2.2.2.2.1)) (aI hV (aI hV (aI hV (aI (up (cw dn o.2.2.2.2.2.2.2.2.2.2.2.2.2.2.2.2.2.2.2.2.2.2.1)) (aI (up (cw dn o.2.2.2.2.2.2.2.2.2.2.2.2.2.2.2.2.2.2.2.2.2.2.2.1)) (aI (up (cw dn o.2.2.2.2.2.2.2.2.2.2.2.2.2.2.2.2.2.2.2.2.2.2.2.2)) trivial))))))))))))))))))))))))) trivial))⟩
def iX:Q ((Int×aa×waA×Int×aa×Int×waD×waF×rf×md×Int×K×waA×waH×waJ×waI×Int×aa×md×waA×Int×aa×Int×m6×m6×m6)⊕((aa×waA×Int×aa×Int×waD×waF×rf×md×Int×K×waA×waH×waJ×waI×Int×aa×md×waA×Int×aa×Int×m6×m6×m6)⊕(aa×waA×Int×aa×Int×waD×waF×rf×md×Int×K×waA×waH×waJ×waI×Int×aa×md×waA×Int×aa×Int×m6×m6×m6))):=if Y (r<B)then (cJ R r).bind λo=>if(o.Name==name)then O (.inr (.inl (o.Name,o.Params,o.Body.Op,o.Body.Name,o.Body.N,o.Body.Kids,o.Body.Params,o.Body.Alts,o.Body.Types,o.Mode,o.Typed,o.Sig.Vars,o.Sig.Needs,o.Sig.Abs,o.Sig.Bounds,o.Sig.Type_.Op,o.Sig.Type_.Name,o.Sig.Type_.Args,o.Sig.Type_.Names,o.Sig.Type_.Pred.Op,o.Sig.Type_.Pred.Name,o.Sig.Type_.Pred.N,o.Sig.Type_.Pred.Kids,o.Sig.Type_.Preds,o.Sig.Metric))) else O (.inl (dc (r+1),m,E,S,X,m5,F,H,L,P,s,t,a,b,c,d,w,x,e,h,y,z,A,i,p,q)) else O (.inr (.inr (m,E,S,X,m5,F,H,L,P,s,t,a,b,c,d,w,x,e,h,y,z,A,i,p,q)))
def FB:Q ((aa×waA×Int×aa×Int×waD×waF×rf×md×Int×K×waA×waH×waJ×waI×Int×aa×md×waA×Int×aa×Int×m6×m6×m6)⊕(aa×waA×Int×aa×Int×waD×waF×rf×md×Int×K×waA×waH×waJ×waI×Int×aa×md×waA×Int×aa×Int×m6×m6×m6)):=loop (λ(o:Int×aa×waA×Int×aa×Int×waD×waF×rf×md×Int×K×waA×waH×waJ×waI×Int×aa×md×waA×Int×aa×Int×m6×m6×m6)=>iX name R B o.1 o.2.1 o.2.2.1 o.2.2.2.1 o.2.2.2.2.1 o.2.2.2.2.2.1 o.2.2.2.2.2.2.1 o.2.2.2.2.2.2.2.1 o.2.2.2.2.2.2.2.2.1 o.2.2.2.2.2.2.2.2.2.1 o.2.2.2.2.2.2.2.2.2.2.1 o.2.2.2.2.2.2.2.2.2.2.2.1 o.2.2.2.2.2.2.2.2.2.2.2.2.1 o.2.2.2.2.2.2.2.2.2.2.2.2.2.1 o.2.2.2.2.2.2.2.2.2.2.2.2.2.2.1 o.2.2.2.2.2.2.2.2.2.2.2.2.2.2.2.1 o.2.2.2.2.2.2.2.2.2.2.2.2.2.2.2.2.1 o.2.2.2.2.2.2.2.2.2.2.2.2.2.2.2.2.2.1 o.2.2.2.2.2.2.2.2.2.2.2.2.2.2.2.2.2.2.1 o.2.2.2.2.2.2.2.2.2.2.2.2.2.2.2.2.2.2.2.1 o.2.2.2.2.2.2.2.2.2.2.2.2.2.2.2.2.2.2.2.2.1 o.2.2.2.2.2.2.2.2.2.2.2.2.2.2.2.2.2.2.2.2.2.1 o.2.2.2.2.2.2.2.2.2.2.2.2.2.2.2.2.2.2.2.2.2.2.1 o.2.2.2.2.2.2.2.2.2.2.2.2.2.2.2.2.2.2.2.2.2.2.2.1 o.2.2.2.2.2.2.2.2.2.2.2.2.2.2.2.2.2.2.2.2.2.2.2.2.1 o.2.2.2.2.2.2.2.2.2.2.2.2.2.2.2.2.2.2.2.2.2.2.2.2.2) (r,m,E,S,X,m5,F,H,L,P,s,t,a,b,c,d,w,x,e,h,y,z,A,i,p,q)
def QQ:OL 0 (cA qtF 55) (iX name R B r m E S X m5 F H L P s t a b c d w x e h y z A i p q) (λ(o:Int×aa×waA×Int×aa×Int×waD×waF×rf×md×Int×K×waA×waH×waJ×waI×Int×aa×md×waA×Int×aa×Int×m6×m6×m6)=>sJ name R B o.1 o.2.1 o.2.2.1 o.2.2.2.1 o.2.2.2.2.1 o.2.2.2.2.2.1 o.2.2.2.2.2.2.1 o.2.2.2.2.2.2.2.1 o.2.2.2.2.2.2.2.2.1 o.2.2.2.2.2.2.2.2.2.1 o.2.2.2.2.2.2.2.2.2.2.1 o.2.2.2.2.2.2.2.2.2.2.2.1 o.2.2.2.2.2.2.2.2.2.2.2.2.1 o.2.2.2.2.2.2.2.2.2.2.2.2.2.1 o.2.2.2.2.2.2.2.2.2.2.2.2.2.2.1 o.2.2.2.2.2.2.2.2.2.2.2.2.2.2.2.1 o.2.2.2.2.2.2.2.2.2.2.2.2.2.2.2.2.1 o.2.2.2.2.2.2.2.2.2.2.2.2.2.2.2.2.2.1 o.2.2.2.2.2.2.2.2.2.2.2.2.2.2.2.2.2.2.1 o.2.2.2.2.2.2.2.2.2.2.2.2.2.2.2.2.2.2.2.1 o.2.2.2.2.2.2.2.2.2.2.2.2.2.2.2.2.2.2.2.2.1 o.2.2.2.2.2.2.2.2.2.2.2.2.2.2.2.2.2.2.2.2.2.1 o.2.2.2.2.2.2.2.2.2.2.2.2.2.2.2.2.2.2.2.2.2.2.1 o.2.2.2.2.2.2.2.2.2.2.2.2.2.2.2.2.2.2.2.2.2.2.2.1 o.2.2.2.2.2.2.2.2.2.2.2.2.2.2.2.2.2.2.2.2.2.2.2.2.1 o.2.2.2.2.2.2.2.2.2.2.2.2.2.2.2.2.2.2.2.2.2.2.2.2.2) Ju zW (sJ name R B r m E S X m5 F H L P s t a b c d w x e h y z A i p q):=qu3.lx<|tF (tb λx2 a0=>tv (ta.ia a0)<|tv (sF x2)<|tx Dl<|tx (eW x2)<|ts<|tF (tv (rA x2 [])<|tx (eW x2)<|tE)<|tE)<|tE
def G5:OK 0 (.loop (cA qtF 55)) (FB name R B r m E S X m5 F H L P s t a b c d w x e h y z A i p q) Ju zW (sJ name R B r m E S X m5 F H L P s t a b c d w x e h y z A i p q):=NA λ_=>QQ _ _ _ _ _ _ _ _ _ _ _ _ _ _ _ _ _ _ _ _ _ _ _ _ _ _ _ _ _
end
def dM(m:am)(b:aa):Q (ba×K):=(FB b m.Defs (m.Defs.length:Int) 0 ([]:aa) ([]:V aa) 0 ([]:aa) 0 ([]:V ah) ([]:V aY) ([]:V bH) ([]:V ai) 0 Z ([]:V aa) ([]:V dZ) ([]:V ku) ([]:V cY) 0 ([]:aa) ([]:V ai) ([]:V aa) 0 ([]:aa) 0 ([]:V ag) ([]:V ag) ([]:V ag)).bind λa=>match a with|(.inl a)=>O ((⟨a.1,a.2.1,⟨a.2.2.1,a.2.2.2.1,a.2.2.2.2.1,a.2.2.2.2.2.1,a.2.2.2.2.2.2.1,a.2.2.2.2.2.2.2.1,a.2.2.2.2.2.2.2.2.1⟩,a.2.2.2.2.2.2.2.2.2.1,a.2.2.2.2.2.2.2.2.2.2.1,⟨a.2.2.2.2.2.2.2.2.2.2.2.1,a.2.2.2.2.2.2.2.2.2.2.2.2.1,a.2.2.2.2.2.2.2.2.2.2.2.2.2.1,a.2.2.2.2.2.2.2.2.2.2.2.2.2.2.1,⟨a.2.2.2.2.2.2.2.2.2.2.2.2.2.2.2.1,a.2.2.2.2.2.2.2.2.2.2.2.2.2.2.2.2.1,a.2.2.2.2.2.2.2.2.2.2.2.2.2.2.2.2.2.1,a.2.2.2.2.2.2.2.2.2.2.2.2.2.2.2.2.2.2.1,⟨a.2.2.2.2.2.2.2.2.2.2.2.2.2.2.2.2.2.2.2.1,a.2.2.2.2.2.2.2.2.2.2.2.2.2.2.2.2.2.2.2.2.1,a.2.2.2.2.2.2.2.2.2.2.2.2.2.2.2.2.2.2.2.2.2.1,a.2.2.2.2.2.2.2.2.2.2.2.2.2.2.2.2.2.2.2.2.2.2.1⟩,a.2.2.2.2.2.2.2.2.2.2.2.2.2.2.2.2.2.2.2.2.2.2.2.1⟩,a.2.2.2.2.2.2.2.2.2.2.2.2.2.2.2.2.2.2.2.2.2.2.2.2⟩⟩:ba),T)|(.inr a)=>O ((⟨[],[],⟨0,[],0,[],[],[],[]⟩,0,Z,⟨[],[],[],[],⟨0,[],[],[],⟨0,[],0,[]⟩,[]⟩,[]⟩⟩:ba),Z)
def fa{m:am}{b:aa}:OV 28 [.agg (au m),.str b] (dM m b) (λr=>.tuple [.agg (aL r.1),.bool r.2]) []:=qu3.v<|te (ew m)<|tx Dl<|tw (ck m)<|ca (ta.ln m.Defs)<|t2 (λa c=>cM (G5 b m.Defs (m.Defs.length:Int) 0 ([]:aa) ([]:V aa) 0 ([]:aa) 0 ([]:V ah) ([]:V aY) ([]:V bH) ([]:V ai) 0 Z ([]:V aa) ([]:V dZ) ([]:V ku) ([]:V cY) 0 ([]:aa) ([]:V ai) ([]:V aa) 0 ([]:aa) 0 ([]:V ag) ([]:V ag) ([]:V ag) _ c)<|QZ λq=>aI (m4 PVal.tuple (ej (Wx (⟨a.1,a.2.1,⟨a.2.2.1,a.2.2.2.1,a.2.2.2.2.1,a.2.2.2.2.2.1,a.2.2.2.2.2.2.1,a.2.2.2.2.2.2.2.1,a.2.2.2.2.2.2.2.2.1⟩,a.2.2.2.2.2.2.2.2.2.1,a.2.2.2.2.2.2.2.2.2.2.1,⟨a.2.2.2.2.2.2.2.2.2.2.2.1,a.2.2.2.2.2.2.2.2.2.2.2.2.1,a.2.2.2.2.2.2.2.2.2.2.2.2.2.1,a.2.2.2.2.2.2.2.2.2.2.2.2.2.2.1,⟨a.2.2.2.2.2.2.2.2.2.2.2.2.2.2.2.1,a.2.2.2.2.2.2.2.2.2.2.2.2.2.2.2.2.1,a.2.2.2.2.2.2.2.2.2.2.2.2.2.2.2.2.2.1,a.2.2.2.2.2.2.2.2.2.2.2.2.2.2.2.2.2.2.1,⟨a.2.2.2.2.2.2.2.2.2.2.2.2.2.2.2.2.2.2.2.1,a.2.2.2.2.2.2.2.2.2.2.2.2.2.2.2.2.2.2.2.2.1,a.2.2.2.2.2.2.2.2.2.2.2.2.2.2.2.2.2.2.2.2.2.1,a.2.2.2.2.2.2.2.2.2.2.2.2.2.2.2.2.2.2.2.2.2.2.1⟩,a.2.2.2.2.2.2.2.2.2.2.2.2.2.2.2.2.2.2.2.2.2.2.2.1⟩,a.2.2.2.2.2.2.2.2.2.2.2.2.2.2.2.2.2.2.2.2.2.2.2.2⟩⟩:ba)) (ej (rP (.bool T)) (rfl:([]:V U)=[])))) q.2) λa c=>cM (G5 b m.Defs (m.Defs.length:Int) 0 ([]:aa) ([]:V aa) 0 ([]:aa) 0 ([]:V ah) ([]:V aY) ([]:V bH) ([]:V ai) 0 Z ([]:V aa) ([]:V dZ) ([]:V ku) ([]:V cY) 0 ([]:aa) ([]:V ai) ([]:V aa) 0 ([]:aa) 0 ([]:V ag) ([]:V ag) ([]:V ag) _ c)<|XD (qfN) (qfL)<|ty (iF (⟨[],[],⟨0,[],0,[],[],[],[]⟩,0,Z,⟨[],[],[],[],⟨0,[],[],[],⟨0,[],0,[]⟩,[]⟩,[]⟩⟩:ba))<|QZ λq=>aI (m4 PVal.tuple (ej (Wx (⟨[],[],⟨0,[],0,[],[],[],[]⟩,0,Z,⟨[],[],[],[],⟨0,[],[],[],⟨0,[],0,[]⟩,[]⟩,[]⟩⟩:ba)) (ej (rP (.bool Z)) (rfl:([]:V U)=[])))) q.2
noncomputable def qwk:W:=f67.body.getD .skip
def qu8:ZF Pg [12] 67 f67 qwk:=zf call67 func67 rfl mixed
def fS(s:aa)(b:V Int)(a:K):Q (Int×Unit×V Int):=(KA b a).bind λd=>(qfF b s).bind λc=>O ((s.length:Int),(),c)
def xv{s:aa}{d:V Int}{a:K}:OG 67 [.bptr 0 0,.str s] [] [ce 0 d a] (fS s d a) (λr=>.tuple [.i6 r.1,.val .nilIface]) [] (λr=>[ce 0 r.2.2 a]):=qu8.g 1<|
 tb λh c=>tb λe b=>tc [0] (U3 c)<|ti (.z [sl (cI .u8) e]) (qet qj2 underlying9 (by kernel_rfl) (by kernel_rfl) (by kernel_rfl) b)<|ca (LF underlying9 s)<|tE
noncomputable def qpN:W:=f103.body.getD .skip
def qph:ZF Pg [] 103 f103 qpN:=zf call103 func103 rfl mixed
section
variable(c:waA)(d:Int)(a:K)(b:Int)(m:V Int)
def wG:az:=aR 18 [(0,.bptr 0 0),(6,sl cS c),(7,.i6 d),(8,.i6 b)] [ce 0 m a] []
def JU(o:V Int):az:=aR 18 [] [ce 0 o a] []
def gH:Q ((Int×V Int)⊕V Int):=if Y (b<d)then (cJ c b).bind λh=>(fS h m a).bind λe=>O (.inl (dc (b+1),e.2.2)) else O (.inr m)
def Av:Q (V Int):=loop (λ(e:Int×V Int)=>gH c d a e.1 e.2) (b,m)
def GV:OL 1 (cA qpN 15) (gH c d a b m) (λ(i:Int×V Int)=>wG c d a i.1 i.2) (λ_=>.exit 0) (JU a) (wG c d a b m):=qph.l<|tF (tb λo h=>tb λp e=>tv (cT.ia h)<|tv (cX OR (.str o) [])<|tc [0] (xv _ e)<|tE)<|tE
def Iz:=ug (s:=(b,m)) λe=>GV c d a e.1 e.2
end
def ae(a:waA)(c:V Int)(b:K):Q (V Int):=(Av a (a.length:Int) b 0 c).bind λd=>O d
def ac{a:waA}{d:V Int}{b:K}:OG 103 [.bptr 0 0,sl cS a] [] [ce 0 d b] (ae a d b) (λr=>.tuple []) [] (λr=>[ce 0 r b]):=qph.g 1<|tb λe c=>ca (cT.ln a)<|cM (Iz a (a.length:Int) b 0 d _ c)<|tE
abbrev fo:=(ah->ah->Q K)
abbrev jt(R:fo):Prop:=∀(a b:ah),OV 104 [.agg (al a),.agg (al b)] (R a b) (λr=>.bool r) []
noncomputable def qnd:W:=f139.body.getD .skip
def qpl:ZF Pg [19] 139 f139 qnd:=zf call139 func139 rfl mixed
section
variable(d:fo)(e b:waD)(c a:Int)
def gi:az:=aR 32 [(1,sl al e),(2,.func (.func 104) [] []),(15,sl al b),(16,.i6 c),(17,.i6 a)] [] []
def p9(o:Unit⊕(Unit)):Exit:=match o with|(.inl _)=>.ret|(.inr _)=>.exit 0
def jT(o:Unit⊕(Unit)):az:=match o with|(.inl o)=>aR 32 [(6,.bool Z)] [] []|(.inr o)=>aR 32 [] [] []
instance qxs:KS 0 (gi e b c a):=ks 0 rfl
instance qxr{o:Unit⊕(Unit)}:KS 0 (jT o):=match o with|(.inl o)=>ks 0 rfl|(.inr o)=>ks 0 rfl
def ef:Q (Int⊕(Unit⊕(Unit))):=if Y (a<c)then (cJ b a).bind λi=>(cJ e a).bind λm=>(d i m).bind λh=>if(!h)then O (.inr (.inl ())) else O (.inl (dc (a+1))) else O (.inr (.inr ()))
def lw:Q (Unit⊕(Unit)):=loop (λ(h:Int)=>ef d e b c h) a
def zS(h:jt d):OL 0 (cA qnd 119) (ef d e b c a) (λ(r:Int)=>gi e b c r) p9 jT (gi e b c a):=qpl.lx<|tF (tb λp m=>tb λq o=>tb λs i=>tv (iQ.ia m)<|tv (bv p)<|tx qaq<|tx (tV p)<|tv (iQ.ia o)<|tv (bv q)<|tx qaq<|tx (tV q)<|tv (fH p [])<|tv (fH q [])<|cP (h _ _ _ i)<|tF tE<|tE)<|tE
def oZ(h:jt d):OK 0 (.loop (cA qnd 119)) (lw d e b c a) p9 jT (gi e b c a):=NA λ_=>zS _ _ _ _ _ h
end
def kc(a:fo)(c d:waD):Q K:=if((c.length:Int)!=(d.length:Int))then O Z else (lw a d c (c.length:Int) 0).bind λb=>match b with|(.inl b)=>O Z|(.inr b)=>O T
def FA(a:fo)(b:jt a){c e:waD}:OV 139 [sl al c,sl al e,.func (.func 104) [] []] (kc a c e) (λr=>.bool r) []:=qpl.v<|ca (iQ.ln c)<|ca (iQ.ln e)<|tF tE<|ca (iQ.ln c)<|t2 (λh d=>cM (oZ a e c (c.length:Int) 0 b _ d)<|tE) λh d=>cM (oZ a e c (c.length:Int) 0 b _ d)<|tE
abbrev dU:=(md->md->Q K)
abbrev fM(R:dU):Prop:=∀(a b:md),OV 140 [sl aj a,sl aj b,.func (.func 141) [] []] (R a b) (λr=>.bool r) []
noncomputable def qnh:W:=f146.body.getD .skip
def qpp:ZF Pg [15] 146 f146 qnh:=zf call146 func146 rfl mixed
section
variable(c d:waA)(b a:Int)
def vH:az:=aR 26 [(0,sl cS c),(1,sl cS d),(12,.i6 b),(13,.i6 a)] [] []
def Ez(o:Unit⊕(Unit)):Exit:=match o with|(.inl _)=>.ret|(.inr _)=>.exit 0
def EA(o:Unit⊕(Unit)):az:=match o with|(.inl o)=>aR 26 [(4,.bool Z)] [] []|(.inr o)=>aR 26 [] [] []
def iL:Q (Int⊕(Unit⊕(Unit))):=if Y (a<b)then (cJ c a).bind λe=>(cJ d a).bind λh=>if(!(e==h))then O (.inr (.inl ())) else O (.inl (dc (a+1))) else O (.inr (.inr ()))
def zT:Q (Unit⊕(Unit)):=loop (λ(e:Int)=>iL c d b e) a
def M1:OL 0 (cA qnh 119) (iL c d b a) (λ(o:Int)=>vH c d b o) Ez EA (vH c d b a):=qpp.l<|tF (tb λi e=>tb λm h=>qfr [0,0,3,7,0,0,48,112,255]<|tv (cT.ia e)<|tv (cX OR (.str i) [])<|tv (cT.ia h)<|tv (cX OR (.str m) [])<|tF tE<|tE)<|tE
def CF:OK 0 (.loop (cA qnh 119)) (zT c d b a) Ez EA (vH c d b a):=NA λ_=>M1 _ _ _ _
end
def vD(b c:waA):Q K:=if((b.length:Int)!=(c.length:Int))then O Z else (zT b c (b.length:Int) 0).bind λa=>match a with|(.inl a)=>O Z|(.inr a)=>O T
def Js{a c:waA}:OV 146 [sl cS a,sl cS c] (vD a c) (λr=>.bool r) []:=qpp.v<|ca (cT.ln a)<|ca (cT.ln c)<|tF tE<|ca (cT.ln a)<|t2 (λd b=>cM (CF a c (a.length:Int) 0 _ b)<|tE) λd b=>cM (CF a c (a.length:Int) 0 _ b)<|tE
abbrev tu:=(ag->ag->Q K)
abbrev Dq(R:tu):Prop:=∀(a b:ag),OV 186 [.agg (af a),.agg (af b)] (R a b) (λr=>.bool r) []
noncomputable def qnn:W:=f231.body.getD .skip
def qpA:ZF Pg [17] 231 f231 qnn:=zf call231 func231 rfl mixed
section
variable(c:tu)(v d:m6)(b a:Int)
def zv:az:=aR 30 [(0,sl af v),(1,sl af d),(2,.func (.func 186) [] []),(14,.i6 b),(15,.i6 a)] [] []
def Jp(o:Unit⊕(Unit)):Exit:=match o with|(.inl _)=>.ret|(.inr _)=>.exit 0
def Jq(o:Unit⊕(Unit)):az:=match o with|(.inl o)=>aR 30 [(6,.bool Z)] [] []|(.inr o)=>aR 30 [] [] []
def nO:Q (Int⊕(Unit⊕(Unit))):=if Y (a<b)then (cJ v a).bind λh=>(cJ d a).bind λi=>(c h i).bind λe=>if(!e)then O (.inr (.inl ())) else O (.inl (dc (a+1))) else O (.inr (.inr ()))
def Fd:Q (Unit⊕(Unit)):=loop (λ(e:Int)=>nO c v d b e) a
def QB(e:Dq c):OL 0 (cA qnn 119) (nO c v d b a) (λ(q:Int)=>zv v d b q) Jp Jq (zv v d b a):=qpA.l<|tF (tb λo i=>tb λp m=>tb λr h=>qfr [0,0,0,6,14,0,0,96,224,511,1023]<|tv (je.ia i)<|tv (db o)<|tv (je.ia m)<|tv (db p)<|cP (e _ _ _ h)<|tF tE<|tE)<|tE
def GH(e:Dq c):OK 0 (.loop (cA qnn 119)) (Fd c v d b a) Jp Jq (zv v d b a):=NA λ_=>QB _ _ _ _ _ e
end
def Ie(b:tu)(a d:m6):Q K:=if((a.length:Int)!=(d.length:Int))then O Z else (Fd b a d (a.length:Int) 0).bind λc=>match c with|(.inl c)=>O Z|(.inr c)=>O T
def XA(b:tu)(c:Dq b){a e:m6}:OV 231 [sl af a,sl af e,.func (.func 186) [] []] (Ie b a e) (λr=>.bool r) []:=qpA.v<|ca (je.ln a)<|ca (je.ln e)<|tF tE<|ca (je.ln a)<|t2 (λh d=>cM (GH b a e (a.length:Int) 0 c _ d)<|tE) λh d=>cM (GH b a e (a.length:Int) 0 c _ d)<|tE
end Go.Proofs.YtankopenjcbeeaaGreatDoor
