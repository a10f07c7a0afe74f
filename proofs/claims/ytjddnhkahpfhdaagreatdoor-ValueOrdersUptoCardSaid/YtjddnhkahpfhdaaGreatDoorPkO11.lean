/- PROVED: a part of the proof. Conditions: none. -/
import Derived.Test.YtjddnhkahpfhdaaGreatDoorPkO10
import Derived.Test.YtjddnhkahpfhdaaGreatDoorProg
import Derived.Ground.SlgnProg
import Derived.Ground.SlsfProg
import Derived.Shelf.Lays
import Derived.Shelf.LaysM
import Derived.Shelf.SlGeneric
import Derived.Shelf.SlLaysE0
import Derived.Shelf.SlLaysF0
import Derived.Test.YtjddnhkahpfhdaaGreatDoorPkO8
import Derived.Shelf.Strconv.Itoa3
import Derived.Shelf.Strings.OnBuilder
set_option linter.unusedSimpArgs false
set_option linter.unusedVariables false
noncomputable section
namespace Go.Proofs.YtjddnhkahpfhdaaGreatDoor
open Go Go.RowKit
set_option linter.unusedVariables false
set_option linter.unusedSimpArgs false
def EA(o:Oper):List Nat:=(o.after.toList.filter λe=>Region.binds .any e).map λe=>e.on
theorem gu{o:Oper}{L:Nat->Prop}{j:Nat}(h:(EA o).contains j=true)(hL:∀e∈o.after.toList,Region.binds .any e=true->L e.on):L j:=by
 unfold EA at h
 rw[vbQ,vai]at h
 obtain⟨e,he,rfl⟩:=h
 rw[vaV]at he
 exact hL e he.1 he.2
structure Qp(T e:TypeId)(ops:Array Oper)(iA iX iS iH dL dN dB dA dX tE pH:Nat)(D:List Nat)(oA oX oS oH:Oper):Prop where
 a:ops[iA]? =some oA
 aop:oA.op=.call {callee:=.builtin .append,args:=#[.tmp dL,.tmp dB],argTypes:=#[T,T]}
 ad:oA.dst=some dA
 x:ops[iX]? =some oX
 xop:oX.op=.indexAddr T (.tmp dA) (.tmp dN)
 xd:oX.dst=some dX
 s:ops[iS]? =some oS
 sop:oS.op=.store e (.tmp dX) (.tmp tE)
 sd:oS.dst=none
 h:ops[iH]? =some oH
 hop:oH.op=.store T (.tmp pH) (.tmp dA)
 hd:oH.dst=none
 ea:(List.range ops.size).all (λj=>j==iA||j==iX||j==iS||j==iH||(EA oA).contains j)=true
 ex:(EA oX).contains iA=true
 es:((EA oS).contains iX&&(EA oS).contains iA)=true
 eh:(EA oH).contains iA=true
 dis:(dA !=dN&&dA !=tE&&dA !=pH&&dX !=dA&&dX !=dN&&dX !=tE&&dX !=pH&&D.contains dA&&D.contains dX&&iA !=iX&&iA !=iS&&iA !=iH&&iX !=iS&&iX !=iH&&iS !=iH)=true
section
variable{P:Program}{GE:List (Nat×List PVal)}{n:Nat}{ops:Array Oper}{rid:Nat}{T e:TypeId}{iA iX iS iH dL dN dB dA dX tE pH:Nat}{D:List Nat}{oA oX oS oH:Oper}{Q:Exit->Act->World->Prop}{Fc:Fence}[hF:OkF Fc]
theorem I2{a:Act}{v:Value}:a.put none v=a:=rfl
theorem M8(hm:P.follows .mixedOrders=true)(hg:ops.toList.all (λo=>o.guard.isNone)=true)
  (hord:(List.range ops.size).all (λk=>((ops[k]?).map λx=>x.after.toList.all λe=>!Region.binds .any e||decide (e.on<k)).getD true)=true)
  (hE:Rp P T e) (hinf:(P.info? T).isSome=true) (hT1:P.cellsOf T=1) (hR:Qp T e ops iA iX iS iH dL dN dB dA dX tE pH D oA oX oS oH)
  {a0:Array Value} {ds:List Deferred} {Γ0:aw} {w0:World} {cs ps:List PVal} {k kb:Nat} {v:Value} (hB:dO GE Γ0 w0) (hrow:fk P GE e Γ0 w0 cs k v) (hcs:cs.length=k * P.cellsOf e) (hh:vC w0 kb v) (ho:ni GE Γ0 w0 kb) (hne:v.ownBlock≠some kb)
  (hk:k+1<=ct) (hpl:ps.length=P.cellsOf e) (hp1:∀q∈ps,q.one=true) (IP:(Nat->Prop)->Act->aw->World->Prop)
  (hstep:∀(L:Nat->Prop) a Γ w i o,Mv GE no Γ0 w0 Γ w->IP L a Γ w->a.defers=ds->ops[i]? =some o->i≠iA->i≠iX->i≠iS->i≠iH->¬L i->(∀e∈o.after.toList,Region.binds .any e=true->L e.on)->
   o.wpIn Fc n P a w (λa' w'=>∃Γ',Mv GE no Γ w Γ' w'/\a'.defers=ds/\IP (λj=>L j\/j=i) a' Γ' w') Q)
  (hend:∀(L:Nat->Prop) a Γ w,Mv GE no Γ0 w0 Γ w->IP L a Γ w->(∀j,j<ops.size->j≠iA->j≠iX->j≠iS->j≠iH->L j)->∃zs u x,a.tmps[dL]? =some v/\a.tmps[dN]? =some (.int .i64 (k:Int))/\a.tmps[dB]? =some x/\VR Γ [] w (.slice [zs]) x/\
   zs.length=P.cellsOf e/\(∀q∈zs,q.one=true)/\a.tmps[tE]? =some u/\VR Γ [] w (.agg ps) u/\a.tmps[pH]? =some (.pointer (some ⟨kb,0,none⟩))/\a.tmps.size=a0.size/\∀t,D.contains t=false->a.tmps[t]? =a0[t]?)
  (hszA:dA<a0.size) (hszX:dX<a0.size)
  (h0:∀Γ w,Mv GE no Γ0 w0 Γ w->IP (λ_=>False) ⟨a0,ds⟩ Γ w)
  (hQ:∀a Γ w v',a.defers=ds->Mv GE (λb=>b=kb\/v.ownBlock=some b) Γ0 w0 Γ w->fk P GE e Γ w (cs++ps) (k+1) v'->vC w kb v'->ni GE Γ w kb->v'.ownBlock≠some kb->(∀b,v'.ownBlock=some b->v.ownBlock=some b\/w0.heap.size<=b)->a.tmps.size=a0.size->(∀t,D.contains t=false->a.tmps[t]? =a0[t]?)->Q .normal a w):
  (Code.region rid ops true).wpIn Fc n P Q ⟨a0,ds⟩ w0:=by
 have hdis:=hR.dis
 simp only[vae,bne_iff_ne,ne_eq]at hdis
 obtain⟨⟨⟨⟨⟨⟨⟨⟨⟨⟨⟨⟨⟨⟨d1,d2⟩,d3⟩,d4⟩,d5⟩,d6⟩,d7⟩,d8⟩,d9⟩,q1⟩,q2⟩,q3⟩,q4⟩,q5⟩,q6⟩:=hdis
 have hes:=hR.es
 simp only[vae]at hes
 obtain⟨i,z,hi,hz,hzs,hsz,hby,hco⟩:=hE.get
 refine CH hm hg hord (λL a w=>a.defers=ds/\∃Γ,(¬L iA/\¬L iX/\¬L iS/\¬L iH/\Mv GE no Γ0 w0 Γ w/\IP L a Γ w)\/
  (L iA/\(∀j,j<ops.size->j≠iA->j≠iX->j≠iS->j≠iH->L j)/\(L iS->L iX)/\∃xs g cap u hv,Mv GE (λb=>b=kb\/v.ownBlock=some b) Γ0 w0 Γ w/\fk P GE e Γ w (cs++xs) (k+1) (.slice (some ⟨g,0,none⟩) (k+1) cap)/\xs.length=P.cellsOf e/\(L iS->xs=ps)/\
   vC w kb hv/\(L iH->hv=.slice (some ⟨g,0,none⟩) (k+1) cap)/\ni GE Γ w kb/\g≠kb/\(v.ownBlock=some g\/w0.heap.size<=g)/\a.tmps[dA]? =some (.slice (some ⟨g,0,none⟩) (k+1) cap)/\a.tmps[dN]? =some (.int .i64 (k:Int))/\a.tmps[tE]? =some u/\VR Γ [] w (.agg ps) u/\
   a.tmps[pH]? =some (.pointer (some ⟨kb,0,none⟩))/\a.tmps.size=a0.size/\(L iX->a.tmps[dX]? =some (.pointer (some ⟨g,k * P.cellsOf e,none⟩)))/\∀t,D.contains t=false->a.tmps[t]? =a0[t]?)) ?_ ?_ ?_
 ·rintro L ⟨a,ds'⟩ w j o ⟨rfl,Γ,hI⟩ hj hnl hed
  by_cases hjA:j=iA
  ·have hjA':=hjA.symm
   subst hjA'
   rw[hR.a]at hj;cases hj
   rcases hI with⟨_,nX,nS,nH,hmv,hip⟩|⟨hx,_⟩
   rotate_left
   ·exact absurd hx hnl
   have hall:∀j,j<ops.size->j≠iA->j≠iX->j≠iS->j≠iH->L j:=λj hj h1 h2 h3 h4=>by
    have:=vap.1 hR.ea j (vbi.2 hj)
    simp only[vaZ,vaY]at this
    exact gu (by rcases this with(((h|h)|h)|h)|h<;>first|exact absurd h h1|exact absurd h h2|exact absurd h h3|exact absurd h h4|exact h) hed
   obtain⟨zs,u,x,e1,e2,e3,e4,e5,e6,e7,e8,e9,e11,e12⟩:=hend L _ Γ w hmv hip hall
   have hrow1:=hrow.mv hmv λb _=>id
   obtain⟨v',w',hrun,hmv',hrow',hown',g,cap,rfl⟩:=hrow1.append hE hmv.base e4 e5 e6 hk oA.type
   have hvL:(Act.mk a ds').eval (.tmp dL)=v:=aJ e1
   have hvB:(Act.mk a ds').eval (.tmp dB)=x:=aJ e3
   have hkb:¬v.ownBlock=some kb:=hne
   refine cy (by simp[co,hR.aop]) (v:=.slice (some ⟨g,0,none⟩) (k+1) cap) (w':=w') ?_ ⟨aR _ _ _,Γ,.inr ⟨.inr rfl,λj h1 h2 h3 h4 h5=>.inl (hall j h1 h2 h3 h4 h5),λhx=>(hx.elim nS λh=>absurd h.symm q2).elim,zs,g,cap,u,v,?_⟩⟩
   ·simp only[execOp,hR.aop,resolve,invoke,builtin,Sem.run_bind,Sem.run_pure,Result.andThen_ok,vcS,vaG,vb7,hvL,hvB,hrun]
   ·have hgk:g≠kb:=λh=>(hown' g rfl).elim (λh'=>hne (h▸h')) λh'=>by have:=(ho.mv hmv id).2.1;omega
    have M1:Mv GE (λb=>b=kb\/v.ownBlock=some b) Γ0 w0 Γ w':=(hmv.mono (M:=λb=>b=kb\/v.ownBlock=some b) (λb h=>h.elim)).trans hmv' λb hb=>.inl (.inr hb)
    rw[hR.ad]
    refine⟨M1,hrow',e5,λhx=>(hx.elim nS λh=>absurd h.symm q2).elim,(hh.mv hmv id).mv hmv' hkb,λhx=>(hx.elim nH λh=>absurd h.symm q3).elim,(ho.mv hmv id).mv hmv' hkb,hgk,(hown' g rfl).imp id λh=>vaw hmv.size h,?_,?_,?_,e8.mono hmv'.le (.refl _),?_,by rw[I3];exact e11,λhx=>(hx.elim nX λh=>absurd h.symm q1).elim,λt ht=>?_⟩
    ·rw[ko,vaA rfl,vaA (by rw[e11];exact hszA)]
    ·rw[ko,vaz d1];exact e2
    ·rw[ko,vaz d2];exact e7
    ·rw[ko,vaz d3];exact e9
    ·rw[ko,vaz (λh=>by rw[<-h,d8]at ht;cases ht)];exact e12 t ht
  by_cases hjX:j=iX
  ·have hjX':=hjX.symm
   subst hjX'
   rw[hR.x]at hj;cases hj
   have hLA:L iA:=gu hR.ex hed
   rcases hI with⟨hx,_⟩|⟨_,hall,hSX,xs,g,cap,u,hv,f1,f2,f3,f4,f5,f6,f7,f8,f9,f10,f11,f12,f13,f14,f15,f16,f17⟩
   ·exact absurd hLA hx
   have hvA:(Act.mk a ds').eval (.tmp dA)=.slice (some ⟨g,0,none⟩) (k+1) cap:=aJ f10
   have hvN:(Act.mk a ds').eval (.tmp dN)=.int .i64 (k:Int):=aJ f11
   refine cy (by simp[co,hR.xop]) (v:=.pointer (some ⟨g,k * P.cellsOf e,none⟩)) (w':=w) ?_ ⟨aR _ _ _,Γ,.inr ⟨.inl hLA,λj h1 h2 h3 h4 h5=>.inl (hall j h1 h2 h3 h4 h5),λhx=>.inr rfl,xs,g,cap,u,hv,f1,f2,f3,λhx=>f4 (hx.elim id λh=>absurd h.symm q4),f5,λhx=>f6 (hx.elim id λh=>absurd h.symm q5),f7,f8,f9,?_,?_,?_,f13,?_,?_,λ_=>?_,λt ht=>?_⟩⟩
   ·simp only[execOp,hR.xop,Sem.run_bind,hvA,hvN]
    have hlt:(k:Int)<((k+1:Nat):Int):=by omega
    simp[Instr.indexAt,run_underlying hE.u,asIntOf,run_sizeOf w hi,hlt,Addr.add_lit,hco]
   all_goals rw[hR.xd]
   ·rw[ko,vaz d4];exact f10
   ·rw[ko,vaz d5];exact f11
   ·rw[ko,vaz d6];exact f12
   ·rw[ko,vaz d7];exact f14
   ·rw[I3];exact f15
   ·rw[ko,vaA rfl,vaA (by rw[f15];exact hszX)]
   ·rw[ko,vaz (λh=>by rw[<-h,d9]at ht;cases ht)];exact f17 t ht
  by_cases hjS:j=iS
  ·have hjS':=hjS.symm
   subst hjS'
   rw[hR.s]at hj;cases hj
   have hLA:L iA:=gu hes.2 hed
   have hLX:L iX:=gu hes.1 hed
   rcases hI with⟨hx,_⟩|⟨_,hall,hSX,xs,g,cap,u,hv,f1,f2,f3,f4,f5,f6,f7,f8,f9,f10,f11,f12,f13,f14,f15,f16,f17⟩
   ·exact absurd hLA hx
   have hvX:(Act.mk a ds').eval (.tmp dX)=.pointer (some ⟨g,k * P.cellsOf e,none⟩):=aJ (f16 hLX)
   have hvE:(Act.mk a ds').eval (.tmp tE)=u:=aJ f12
   obtain⟨w',hrun,hmv',hrow'⟩:=f2.store hE f1.base hcs f3 f13 hpl hp1
   have hkg:¬kb=g:=λh=>f8 h.symm
   refine jS (by simp[co,hR.sop]) (w':=w') ?_ ⟨aR _ _ _,Γ,.inr ⟨.inl hLA,λj h1 h2 h3 h4 h5=>.inl (hall j h1 h2 h3 h4 h5),λ_=>.inl hLX,ps,g,cap,u,hv,?_⟩⟩
   ·simp[execOp,hR.sop,hvX,hvE,hrun]
   ·have M1:Mv GE (λb=>b=kb\/v.ownBlock=some b) Γ0 w0 Γ w':=f1.trans hmv' λb hb=>by
     have hb:b=g:=hb
     subst hb
     exact f9.imp .inr id
    rw[hR.sd,I2]
    exact⟨M1,hrow',hpl,λ_=>rfl,f5.mv hmv' hkg,λhx=>f6 (hx.elim id λh=>absurd h.symm q6),f7.mv hmv' hkg,f8,f9,f10,f11,f12,f13.mono hmv'.le (.refl _),f14,f15,λhx=>f16 hLX,f17⟩
  by_cases hjH:j=iH
  ·have hjH':=hjH.symm
   subst hjH'
   rw[hR.h]at hj;cases hj
   have hLA:L iA:=gu hR.eh hed
   rcases hI with⟨hx,_⟩|⟨_,hall,hSX,xs,g,cap,u,hv,f1,f2,f3,f4,f5,f6,f7,f8,f9,f10,f11,f12,f13,f14,f15,f16,f17⟩
   ·exact absurd hLA hx
   have hvP:(Act.mk a ds').eval (.tmp pH)=.pointer (some ⟨kb,0,none⟩):=aJ f14
   have hvA:(Act.mk a ds').eval (.tmp dA)=.slice (some ⟨g,0,none⟩) (k+1) cap:=aJ f10
   obtain⟨w',hrun,hmv',hh'⟩:=f5.store (T:=T) (u:=.slice (some ⟨g,0,none⟩) (k+1) cap) f1.base hinf hT1 rfl f7
   refine jS (by simp[co,hR.hop]) (w':=w') ?_ ⟨aR _ _ _,Γ,.inr ⟨.inl hLA,λj h1 h2 h3 h4 h5=>.inl (hall j h1 h2 h3 h4 h5),λhx=>.inl (hSX (hx.elim id λh=>absurd h q6)),xs,g,cap,u,.slice (some ⟨g,0,none⟩) (k+1) cap,?_⟩⟩
   ·simp[execOp,hR.hop,hvP,hvA,hrun]
   ·have M1:Mv GE (λb=>b=kb\/v.ownBlock=some b) Γ0 w0 Γ w':=f1.trans hmv' λb hb=>.inl (.inl hb)
    have hoff:ni GE Γ w' kb:=⟨f7.1,vaE f7.2.1 hmv'.size,f7.2.2⟩
    rw[hR.hd,I2]
    exact⟨M1,f2.mv hmv' λb hb=>by
     simp[Value.ownBlock]at hb;subst hb
     exact f8,f3,λhx=>f4 (hx.elim id λh=>absurd h q6),hh',λ_=>rfl,hoff,f8,f9,f10,f11,f12,f13.mono hmv'.le (.refl _),f14,f15,λhx=>f16 (hx.elim id λh=>absurd h q5),f17⟩
  ·rcases hI with⟨nA,nX,nS,nH,hmv,hip⟩|⟨_,hall,_⟩
   ·refine Oper.wpIn_mono (λa' w' hx=>?_) (hstep L _ Γ w j o hmv hip rfl hj hjA hjX hjS hjH hnl hed)
    obtain⟨Γ',hmv',hd',hip'⟩:=hx
    exact⟨hd',Γ',.inl ⟨λh=>h.elim nA λh=>hjA h.symm,λh=>h.elim nX λh=>hjX h.symm,λh=>h.elim nS λh=>hjS h.symm,λh=>h.elim nH λh=>hjH h.symm,hmv.trans hmv' (λb h=>.inl h),hip'⟩⟩
   ·exact absurd (hall j (vaf.1 hj).1 hjA hjX hjS hjH) hnl
 ·rintro L a w ⟨hd,Γ,hI⟩ hall
  have lt:∀{j:Nat} {o:Oper},ops[j]? =some o->j<ops.size:=λh=>(vaf.1 h).1
  rcases hI with⟨nA,_⟩|⟨_,_,hSX,xs,g,cap,u,hv,f1,f2,f3,f4,f5,f6,f7,f8,f9,f10,f11,f12,f13,f14,f15,f16,f17⟩
  ·exact absurd (hall _ (lt hR.a)) nA
  ·obtain rfl:=f4 (hall _ (lt hR.s))
   obtain rfl:=f6 (hall _ (lt hR.h))
   refine hQ a Γ w _ hd f1 f2 f5 f7 (λh=>?_) (λb hb=>?_) f15 f17
   ·simp[Value.ownBlock]at h;exact f8 h
   ·simp[Value.ownBlock]at hb;subst hb;exact f9
 ·have hmv:Mv GE no Γ0 w0 Γ0 {w0 with drawn:=w0.drawn+1}:=Mv.drawn hB 1
  exact⟨rfl,Γ0,.inl ⟨id,id,id,id,hmv,h0 _ _ hmv⟩⟩
end
end Go.Proofs.YtjddnhkahpfhdaaGreatDoor
namespace Go.Proofs
open Go.Shelf
noncomputable def Tryz.laysM171_ren : Go.Shelf.Ren := ⟨fun | 171 => 83 | 243 => 103 | 246 => 128 | 283 => 158 | 284 => 159 | 285 => 160 | 286 => 161 | 129 => 157 | 317 => 180 | 318 => 181 | 319 => 182 | 320 => 183 | 337 => 195 | 338 => 196 | n => n, fun | 3 => 3 | 9 => 9 | 2 => 2 | 4 => 4 | 171 => 218 | 0 => 0 | 53 => 217 | 37 => 150 | 5 => 5 | 173 => 220 | 212 => 238 | 51 => 215 | 20 => 20 | 213 => 239 | 46 => 192 | 232 => 252 | 233 => 253 | n => n, fun | 17 => 1 | 18 => 2 | 19 => 3 | n => n⟩
theorem Tryz.laysM171 : Go.Proofs.LaysM.n171 Tryz.prog Tryz.laysM171_ren := {
 mixed := by kernel_rfl
 f129 := Tryz.func157.trans (congrArg some (by kernel_rfl))
 f171 := Tryz.func83.trans (congrArg some (by kernel_rfl))
 f243 := Tryz.func103.trans (congrArg some (by kernel_rfl))
 f246 := Tryz.func128.trans (congrArg some (by kernel_rfl))
 f283 := Tryz.func158.trans (congrArg some (by kernel_rfl))
 f284 := Tryz.func159.trans (congrArg some (by kernel_rfl))
 f285 := Tryz.func160.trans (congrArg some (by kernel_rfl))
 f286 := Tryz.func161.trans (congrArg some (by kernel_rfl))
 f317 := Tryz.func180.trans (congrArg some (by kernel_rfl))
 f318 := Tryz.func181.trans (congrArg some (by kernel_rfl))
 f319 := Tryz.func182.trans (congrArg some (by kernel_rfl))
 f320 := Tryz.func183.trans (congrArg some (by kernel_rfl))
 f337 := Tryz.func195.trans (congrArg some (by kernel_rfl))
 f338 := Tryz.func196.trans (congrArg some (by kernel_rfl))
 t0 := Tryz.underlying0
 a0 := Tryz.isAgg0
 z0 := Tryz.sizeOf0
 v0 := Tryz.zeroValue0
 t2 := Tryz.underlying2
 a2 := Tryz.isAgg2
 z2 := Tryz.sizeOf2
 v2 := Tryz.zeroValue2
 t3 := Tryz.underlying3
 a3 := Tryz.isAgg3
 z3 := Tryz.sizeOf3
 v3 := Tryz.zeroValue3
 t4 := Tryz.underlying4
 a4 := Tryz.isAgg4
 z4 := Tryz.sizeOf4
 v4 := Tryz.zeroValue4
 t5 := Tryz.underlying5
 a5 := Tryz.isAgg5
 z5 := Tryz.sizeOf5
 v5 := Tryz.zeroValue5
 t9 := Tryz.underlying9
 a9 := Tryz.isAgg9
 z9 := Tryz.sizeOf9
 v9 := Tryz.zeroValue9
 t20 := Tryz.underlying20
 a20 := Tryz.isAgg20
 z20 := Tryz.sizeOf20
 v20 := Tryz.zeroValue20
 t37 := Tryz.underlying150
 a37 := Tryz.isAgg150
 z37 := Tryz.sizeOf150
 v37 := Tryz.zeroValue150
 t46 := Tryz.underlying192
 a46 := Tryz.isAgg192
 z46 := Tryz.sizeOf192
 v46 := Tryz.zeroValue192
 t51 := Tryz.underlying215
 a51 := Tryz.isAgg215
 z51 := Tryz.sizeOf215
 v51 := Tryz.zeroValue215
 t53 := Tryz.underlying217
 a53 := Tryz.isAgg217
 z53 := Tryz.sizeOf217
 v53 := Tryz.zeroValue217
 t171 := Tryz.underlying218
 a171 := Tryz.isAgg218
 z171 := Tryz.sizeOf218
 v171 := Tryz.zeroValue218
 t173 := Tryz.underlying220
 a173 := Tryz.isAgg220
 z173 := Tryz.sizeOf220
 v173 := Tryz.zeroValue220
 t212 := Tryz.underlying238
 a212 := Tryz.isAgg238
 z212 := Tryz.sizeOf238
 v212 := Tryz.zeroValue238
 t213 := Tryz.underlying239
 a213 := Tryz.isAgg239
 z213 := Tryz.sizeOf239
 t232 := Tryz.underlying252
 a232 := Tryz.isAgg252
 z232 := Tryz.sizeOf252
 v232 := Tryz.zeroValue252
 t233 := Tryz.underlying253
 a233 := Tryz.isAgg253
 z233 := Tryz.sizeOf253
 v233 := Tryz.zeroValue253
 g17 := by kernel_rfl
 g18 := by kernel_rfl
 g19 := by kernel_rfl
 i0 := by kernel_rfl
 i2 := by kernel_rfl
 i3 := by kernel_rfl
 i4 := by kernel_rfl
 i5 := by kernel_rfl
 i9 := by kernel_rfl
 i20 := by kernel_rfl
 i37 := by kernel_rfl
 i46 := by kernel_rfl
 i51 := by kernel_rfl
 i53 := by kernel_rfl
 i171 := by kernel_rfl
 i173 := by kernel_rfl
 i212 := by kernel_rfl
 i232 := by kernel_rfl
 i233 := by kernel_rfl
 m17 := by kernel_rfl
 m18 := by kernel_rfl
 m19 := by kernel_rfl }
noncomputable def Tryz.lays156_ren : Go.Shelf.Ren := ⟨fun | 156 => 63 | 165 => 84 | 166 => 85 | 169 => 86 | 240 => 104 | 241 => 105 | 276 => 129 | 277 => 130 | n => n, fun | 31 => 32 | 9 => 9 | 3 => 3 | 4 => 4 | 0 => 0 | 20 => 20 | 72 => 152 | 76 => 156 | 70 => 149 | 37 => 150 | 75 => 155 | 127 => 170 | 164 => 194 | 5 => 5 | 80 => 158 | n => n, fun | n => n⟩
theorem Tryz.lays156 : Go.Proofs.Lays.n156 Tryz.prog Tryz.lays156_ren := {
 mixed := by kernel_rfl
 f156 := Tryz.func63.trans (congrArg some (by kernel_rfl))
 f165 := Tryz.func84.trans (congrArg some (by kernel_rfl))
 f166 := Tryz.func85.trans (congrArg some (by kernel_rfl))
 f169 := Tryz.func86.trans (congrArg some (by kernel_rfl))
 f240 := Tryz.func104.trans (congrArg some (by kernel_rfl))
 f241 := Tryz.func105.trans (congrArg some (by kernel_rfl))
 f276 := Tryz.func129.trans (congrArg some (by kernel_rfl))
 f277 := Tryz.func130.trans (congrArg some (by kernel_rfl))
 t0 := Tryz.underlying0
 a0 := Tryz.isAgg0
 z0 := Tryz.sizeOf0
 v0 := Tryz.zeroValue0
 t3 := Tryz.underlying3
 a3 := Tryz.isAgg3
 z3 := Tryz.sizeOf3
 v3 := Tryz.zeroValue3
 t4 := Tryz.underlying4
 a4 := Tryz.isAgg4
 z4 := Tryz.sizeOf4
 v4 := Tryz.zeroValue4
 t9 := Tryz.underlying9
 a9 := Tryz.isAgg9
 z9 := Tryz.sizeOf9
 v9 := Tryz.zeroValue9
 t20 := Tryz.underlying20
 a20 := Tryz.isAgg20
 z20 := Tryz.sizeOf20
 v20 := Tryz.zeroValue20
 t31 := Tryz.underlying32
 a31 := Tryz.isAgg32
 z31 := Tryz.sizeOf32
 v31 := Tryz.zeroValue32
 t37 := Tryz.underlying150
 a37 := Tryz.isAgg150
 z37 := Tryz.sizeOf150
 v37 := Tryz.zeroValue150
 t70 := Tryz.underlying149
 a70 := Tryz.isAgg149
 z70 := Tryz.sizeOf149
 v70 := Tryz.zeroValue149
 t72 := Tryz.underlying152
 a72 := Tryz.isAgg152
 z72 := Tryz.sizeOf152
 v72 := Tryz.zeroValue152
 t75 := Tryz.underlying155
 a75 := Tryz.isAgg155
 z75 := Tryz.sizeOf155
 v75 := Tryz.zeroValue155
 t76 := Tryz.underlying156
 a76 := Tryz.isAgg156
 z76 := Tryz.sizeOf156
 v76 := Tryz.zeroValue156
 t127 := Tryz.underlying170
 a127 := Tryz.isAgg170
 z127 := Tryz.sizeOf170
 v127 := Tryz.zeroValue170
 t164 := Tryz.underlying194
 a164 := Tryz.isAgg194
 z164 := Tryz.sizeOf194
 v164 := Tryz.zeroValue194 }
noncomputable def Tryz.lc124_ren : Go.Shelf.Ren := ⟨fun | 41 => 124 | n => n, fun | 22 => 31 | 23 => 36 | 4 => 4 | n => n, fun | n => n⟩
theorem Tryz.lc124 : Go.Proofs.SlLaysE0.n41 Tryz.prog Tryz.lc124_ren := {
 mixed := by kernel_rfl
 f41 := ⟨Tryz.f124.name, by decide, Tryz.func124.trans (congrArg some (by kernel_rfl))⟩
 t4 := Tryz.underlying4
 a4 := Tryz.isAgg4
 z4 := Tryz.sizeOf4
 v4 := Tryz.zeroValue4
 t22 := Tryz.underlying31
 a22 := Tryz.isAgg31
 z22 := Tryz.sizeOf31
 v22 := Tryz.zeroValue31 }
noncomputable def Tryz.sf99_ren : Go.Shelf.Ren := ⟨fun | 6 => 99 | 15 => 126 | 14 => 125 | 28 => 156 | 29 => 157 | 20 => 148 | 21 => 149 | 22 => 150 | 23 => 151 | 24 => 152 | 25 => 153 | 26 => 154 | 27 => 155 | 46 => 175 | 47 => 176 | 48 => 177 | 49 => 178 | 50 => 179 | 57 => 194 | n => n, fun | 22 => 31 | 24 => 36 | 25 => 61 | 3 => 3 | 39 => 192 | 0 => 0 | 53 => 215 | 55 => 217 | 4 => 4 | 46 => 209 | 45 => 208 | 50 => 182 | 5 => 5 | 9 => 9 | 66 => 231 | 70 => 235 | 76 => 248 | 77 => 249 | n => n, fun | n => n⟩
theorem Tryz.sf99 : Go.Proofs.SlLaysF0.n6 Tryz.prog Tryz.sf99_ren := {
 mixed := by kernel_rfl
 f6 := ⟨Tryz.f99.name, by decide, Tryz.func99.trans (congrArg some (by kernel_rfl))⟩
 f14 := ⟨Tryz.f125.name, by decide, Tryz.func125.trans (congrArg some (by kernel_rfl))⟩
 f15 := Tryz.func126.trans (congrArg some (by kernel_rfl))
 f20 := ⟨Tryz.f148.name, by decide, Tryz.func148.trans (congrArg some (by kernel_rfl))⟩
 f21 := ⟨Tryz.f149.name, by decide, Tryz.func149.trans (congrArg some (by kernel_rfl))⟩
 f22 := ⟨Tryz.f150.name, by decide, Tryz.func150.trans (congrArg some (by kernel_rfl))⟩
 f23 := ⟨Tryz.f151.name, by decide, Tryz.func151.trans (congrArg some (by kernel_rfl))⟩
 f24 := ⟨Tryz.f152.name, by decide, Tryz.func152.trans (congrArg some (by kernel_rfl))⟩
 f25 := ⟨Tryz.f153.name, by decide, Tryz.func153.trans (congrArg some (by kernel_rfl))⟩
 f26 := ⟨Tryz.f154.name, by decide, Tryz.func154.trans (congrArg some (by kernel_rfl))⟩
 f27 := ⟨Tryz.f155.name, by decide, Tryz.func155.trans (congrArg some (by kernel_rfl))⟩
 f28 := Tryz.func156.trans (congrArg some (by kernel_rfl))
 f29 := Tryz.func157.trans (congrArg some (by kernel_rfl))
 f46 := ⟨Tryz.f175.name, by decide, Tryz.func175.trans (congrArg some (by kernel_rfl))⟩
 f47 := Tryz.func176.trans (congrArg some (by kernel_rfl))
 f48 := Tryz.func177.trans (congrArg some (by kernel_rfl))
 f49 := ⟨Tryz.f178.name, by decide, Tryz.func178.trans (congrArg some (by kernel_rfl))⟩
 f50 := ⟨Tryz.f179.name, by decide, Tryz.func179.trans (congrArg some (by kernel_rfl))⟩
 f57 := ⟨Tryz.f194.name, by decide, Tryz.func194.trans (congrArg some (by kernel_rfl))⟩
 t0 := Tryz.underlying0
 a0 := Tryz.isAgg0
 z0 := Tryz.sizeOf0
 v0 := Tryz.zeroValue0
 t3 := Tryz.underlying3
 a3 := Tryz.isAgg3
 z3 := Tryz.sizeOf3
 v3 := Tryz.zeroValue3
 t4 := Tryz.underlying4
 a4 := Tryz.isAgg4
 z4 := Tryz.sizeOf4
 v4 := Tryz.zeroValue4
 t5 := Tryz.underlying5
 a5 := Tryz.isAgg5
 z5 := Tryz.sizeOf5
 v5 := Tryz.zeroValue5
 t9 := Tryz.underlying9
 a9 := Tryz.isAgg9
 z9 := Tryz.sizeOf9
 v9 := Tryz.zeroValue9
 t22 := Tryz.underlying31
 a22 := Tryz.isAgg31
 z22 := Tryz.sizeOf31
 v22 := Tryz.zeroValue31
 t25 := Tryz.underlying61
 a25 := Tryz.isAgg61
 z25 := Tryz.sizeOf61
 v25 := Tryz.zeroValue61
 t39 := Tryz.underlying192
 a39 := Tryz.isAgg192
 z39 := Tryz.sizeOf192
 v39 := Tryz.zeroValue192
 t45 := Tryz.underlying208
 a45 := Tryz.isAgg208
 z45 := Tryz.sizeOf208
 v45 := Tryz.zeroValue208
 t46 := Tryz.underlying209
 a46 := Tryz.isAgg209
 z46 := Tryz.sizeOf209
 v46 := Tryz.zeroValue209
 t50 := Tryz.underlying182
 a50 := Tryz.isAgg182
 z50 := Tryz.sizeOf182
 v50 := Tryz.zeroValue182
 t53 := Tryz.underlying215
 a53 := Tryz.isAgg215
 z53 := Tryz.sizeOf215
 v53 := Tryz.zeroValue215
 t55 := Tryz.underlying217
 a55 := Tryz.isAgg217
 z55 := Tryz.sizeOf217
 v55 := Tryz.zeroValue217
 t66 := Tryz.underlying231
 a66 := Tryz.isAgg231
 z66 := Tryz.sizeOf231
 v66 := Tryz.zeroValue231
 t70 := Tryz.underlying235
 a70 := Tryz.isAgg235
 z70 := Tryz.sizeOf235
 v70 := Tryz.zeroValue235
 t76 := Tryz.underlying248
 a76 := Tryz.isAgg248
 z76 := Tryz.sizeOf248
 v76 := Tryz.zeroValue248
 t77 := Tryz.underlying249
 a77 := Tryz.isAgg249
 z77 := Tryz.sizeOf249
 v77 := Tryz.zeroValue249 }
end Go.Proofs
namespace Go.Proofs.YtjddnhkahpfhdaaGreatDoor
open Go Go.Proofs.Tryz
set_option linter.unusedVariables false
set_option linter.defProp false
set_option maxRecDepth 100000
theorem JJ:qN Pg 124 36:=LS Tryz.lc124 rfl rfl (by kernel_rfl) call124
def K2(n:Int):Option ai:=if(decide (-9223372036854775808<=n)&&decide (n<=9223372036854775807))=true then some (Lib.itoa n)else none
theorem Og:gG=Lib.pow10Tab:=by kernel_rfl
theorem PC{n:Int}{r:ai}(h:K2 n=some r):CC Pg GE 83 [.int .i64 n] (.str r) []:=by
 rcases Nu h with⟨b,h⟩|⟨b,h⟩
 ·obtain rfl:=lf h
  simp only[vae,vam]at b
  refine CC.grownIS call83 λE Γ bs ow w a st hE hS=>?_
  have htab:Lib.TabIs Pg w "internal/strconv.uint64pow10" .u64 Lib.pow10Tab:=Rl hS (g:=1) (by rw[hE,←Og];simp[GE]) (by kernel_rfl)
  refine(Any.strconv_Itoa Tryz.laysM171 n b.1 b.2 w htab).mono λe w' he=>?_
  obtain⟨rfl,k,os,rfl⟩:=he
  exact⟨rfl,.of_grow _ _ _⟩
 ·cases h
open Go Go.Shelf Go.RowKit Go.Proofs.Tryz
def K3(l:List ai)(s:ai):Option ai:=if l.length<=1073741824/\(Lib.join l s).length<=1073741824 then some (Lib.join l s)else none
theorem G1:Builder.Extra Pg Tryz.lays156_ren:={sizeBuilder:=by kernel_rfl,liesBuilder:=by kernel_rfl,t5:=by kernel_rfl,a5:=λw=>by kernel_rfl,z5:=λw=>by kernel_rfl,v5:=λw=>by kernel_rfl,infoByte:=by kernel_rfl,cellsByte:=by kernel_rfl,sizeByte:=by kernel_rfl,neB5:=by decide}
theorem LH.of_below{w w':World}(h:Below w.heap.size w w'):LH GE w w':=⟨h.os,h.tape,h.output,h.size,by unfold dr;rw[show Tf GE=false by kernel_rfl];exact vak _,λb hb=>h.block b hb⟩
theorem NC{l:List ai}{s r:ai}(h:K3 l s=some r):CC Pg GE 63 [sl cS l,.str s] (.str r) []:=by
 unfold K3 at h
 split at h
 case isFalse=>cases h
 rename_i hl
 cases h
 refine⟨aI (bq JH l)<|aI vzz vzz,call63,λΓ bs ow w vs hS=>?_⟩
 have hsz:vs.size=2:=hS.sz
 have h0:=hS.tm 0 _ vs[0] rfl (by simp[hsz])
 have h1:=hS.tm 1 _ vs[1] rfl (by simp[hsz])
 generalize hu:vs[0]=u at h0
 generalize hu1:vs[1]=u1 at h1
 have hvs:vs=#[u,u1]:=by
  refine Array.ext (by simp[hsz]) λi hi hi2=>?_
  have:i=0\/i=1:=by simp at hi2;omega
  rcases this with rfl|rfl
  ·simpa using hu
  ·simpa using hu1
 subst hvs
 cases h1
 have hJ:Calls Pg 63 #[u,.string ⟨s.toArray⟩] w λe w'=>e=.returned (.string ⟨(Lib.join l s).toArray⟩)/\LH GE w w':=by
  unfold sl at h0
  generalize hes:l.map cS=es at h0
  cases h0 with
  |sliceNil=>
   have:l=[]:=by simpa using hes
   subst this
   exact(Any.strings_Join_none Tryz.lays156 G1 none 0 _ w).mono λe w' he=>⟨he.1,he.2▸.of_below (Below.refl _ _)⟩
  |sliceE a cap=>
   have:l=[]:=by simpa using hes
   subst this
   exact(Any.strings_Join_none Tryz.lays156 G1 (some a) cap _ w).mono λe w' he=>⟨he.1,he.2▸.of_below (Below.refl _ _)⟩
  | slice _ b off cap n sz vals q0 q1 q2 q3 q4 q5 q6 =>
   have hm:(l.map λs:ai=>(⟨s.toArray⟩:ByteArray)).map (·.data.toList)=l:=by rw[List.map_map];simp[Function.comp_def]
   have hlen:es.length=(l.map λs:ai=>(⟨s.toArray⟩:ByteArray)).length:=by rw[<-hes];simp
   have hbk:l≠[]->b<w.heap.size:=λ_=>by
    obtain⟨c,t,fr,k1,_⟩:=hS.wi b n q2
    exact(vaf.1 k1).1
   by_cases hl0:l=[]
   ·subst hl0
    simp at hes
    subst hes
    exact(Any.strings_Join_none Tryz.lays156 G1 _ cap _ w).mono λe w' he=>⟨he.1,he.2▸.of_below (Below.refl _ _)⟩
   have hJ:=Any.strings_Join Tryz.lays156 G1 b off cap (l.map λs:ai=>(⟨s.toArray⟩:ByteArray)) ⟨s.toArray⟩ w (λj x hx=>?_) (hbk hl0) (by simp;omega) (by rw[<-hlen];exact q1) (by rw[hm];simp only[];omega)
   ·rw[hm]at hJ
    rw[hlen]
    exact hJ.mono λe w' he=>⟨he.1,.of_below he.2⟩
   ·rw[vay]at hx
    obtain⟨y,hy,rfl⟩:=vaL.1 hx
    have he:es[j]? =some [.str y]:=by rw[<-hes,vay,hy];rfl
    have hz:sz=1:=(q4 j _ he).symm
    subst hz
    have k1:=q5 j _ 0 _ he rfl
    have k2:=q6 j _ 0 _ he rfl
    rw[show off+j * 1+0=off+j by omega]at k1
    rw[k1]
    generalize vals j 0=z at k2
    cases k2
    rfl
 refine hJ.mono λe w' he=>?_
 obtain⟨rfl,hg⟩:=he
 have hbl:bs.length=0:=hS.bl
 obtain rfl:bs=[]:=vaj hbl
 have hW:=hS.world (Γ':=Γ) (w':=w') (λ_=>False) (λb m hb _=>⟨m,hb,vak _,λo _=>bH (hg.keep b (hS.lt_of_ghost hb)) o⟩)
  (λb m hb=>by
   obtain⟨c,t,fr,h1,h2⟩:=hS.wi b m hb
   exact⟨c,t,fr,(hg.keep b (hS.lt_of_ghost hb)).trans h1,h2⟩) hg.os hg.tape hg.output hg.size (λb hb _=>⟨hg.keep b hb,rfl⟩) (λ_ hx=>hx.elim) (λ_ _ _ hx=>hx) (λ_ _ _ hx=>hx) hg.drawn
 refine⟨_,Γ,ow,rfl,{hW with
  sz:=rfl
  tm:=λt p v hp hv=>by
   cases t with
   |zero=>simp at hp hv;subst hp;subst hv;exact .str _
   |succ t=>simp at hp
  ot:=λt k e he=>by simp at he}⟩
abbrev nI:=(aa->Int->Option Int)
abbrev nq(R:nI):Prop:=∀(v:aa) (most:Int),OV 32 [.agg (ac v),.int .i64 most] (R v most) (λr=>.int .i64 r) []
abbrev nG:=(aj->Int->Option Int)
abbrev np(R:nG):Prop:=∀(e:aj) (most:Int),OV 9 [.agg (ak e),.int .i64 most] (R e most) (λr=>.int .i64 r) []
abbrev o0:=(waC->Int->Option Int)
abbrev sS(R:o0):Prop:=∀(a:waC) (most:Int),OV 33 [sl af a,.int .i64 most] (R a most) (λr=>.int .i64 r) []
abbrev oZ:=(waG->Int->Option Int)
abbrev sR(R:oZ):Prop:=∀(a:waG) (most:Int),OV 71 [sl am a,.int .i64 most] (R a most) (λr=>.int .i64 r) []
noncomputable def TW:Code:=f71.body.getD .skip
theorem TF:ZF Pg [39] 71 f71 TW:=zf call71 func71 rfl mixed
section
variable(v:waG)(most:Int)(n:Int)(i:Int)
def mN:Option Bool:=
 if decide (i<(v.length:Int))=true then
  some (decide (n<=most))
 else
  some false
theorem Bi:OU 0 (cA TW 476) (mN v most n i) .normal (λo=>[(15,.bool o)]) (bT 40 [(0,sl am v),(1,.int .i64 most),(5,.int .i64 n),(6,.int .i64 i)] [] []):=TF.j<|
 tf (λc1=>cO (lV.ln v)<|tg 5 c1<|tE) λc1=>cO (lV.ln v)<|tg 5 c1<|tE
end
section
variable(R11:oZ)(v:waG)(most:Int)(n:Int)(i:Int)
def tA:ax:=bT 40 [(0,sl am v),(1,.int .i64 most),(5,.int .i64 n),(6,.int .i64 i)] [] []
def Cg(o:Int):ax:=bT 40 [(5,.int .i64 o)] [] []
def fM:Option ((Int×Int)⊕(Int)):=
 (mN v most n i).bind λo2=>
 if o2=true then
  (ed v i).bind λx4=>
  (qu .i64 (x4.Name.length:Int) 50).bind λq5=>
  (ed v i).bind λx6=>
  (R11 x6.Kids (cc (most - (cc ((cc (n+1))+q5))))).bind λr7=>
  some (.inl (cc ((cc ((cc (n+1))+q5))+r7),cc (i+1)))
 else
  some (.inr n)
def xU:Option Int:=loop (λ(zz:Int×Int)=>fM R11 v most zz.1 zz.2) (n,i)
theorem zr(hR11:sR R11):OL 0 (cA TW 119) (fM R11 v most n i) (λ(zz:Int×Int)=>tA v most zz.1 zz.2) (λ_=>.exit 0) Cg (tA v most n i):=TF.l<|
 tb λo2 bo2=>xO 1<|dZ (Bi v most n i _ bo2)<|tF (tb λx4 bx4=>tb λq5 bq5=>tb λx6 bx6=>tb λr7 br7=>tv (lV.ia (k:=.i64) bx4)<|tw (fx x4)<|cO (A2 underlying9 x4.Name)<|tv (yf (P:=Pg) (t:=3) bq5)<|tv (lV.ia (k:=.i64) bx6)<|tw (cD x6)<|bz (hR11 _ _ _ br7)<|tE)<|tE
def Bj(hR11:sR R11):=Dd (s:=(n,i)) λzz=>zr R11 v most zz.1 zz.2 hR11
end
def oR(R11:oZ)(a:waG)(most:Int):Option Int:=
 (xU R11 a most 0 0).bind λo8=>
 some o8
theorem Ej(R11:oZ)(hR11:sR R11){a:waG}{most:Int}:OV 71 [sl am a,.int .i64 most] (oR R11 a most) (λr=>.int .i64 r) []:=TF.v<|
 tb λo8 bo8=>dZ (Bj R11 a most 0 0 hR11 _ bo8)<|tE
def tu:((waG×Int)->Option Int)->(waG×Int)->Option Int:=λ(rec:(waG×Int)->Option Int) (x:waG×Int)=>oR (λa most=>rec (a,most)) x.1 x.2
def zq(a:waG)(most:Int):Option Int:=kM tu (a,most)
theorem Gx{a:waG}{most:Int}:OV 71 [sl am a,.int .i64 most] (zq a most) (λr=>.int .i64 r) []:=lY λ_ h=>
 cd (F:=tu) (M:=λ(x:waG×Int) (r:Int)=>CC Pg GE 71 [sl am x.1,.int .i64 x.2] (.int .i64 r) []) (λrec hrec x r h=>Ej _ (λa most=>lY λr h=>hrec (a,most) r h) _ h) h
noncomputable def TL:Code:=f33.body.getD .skip
theorem Tz:ZF Pg [61] 33 f33 TL:=zf call33 func33 rfl mixed
section
variable(v:waC)(most:Int)(n:Int)(i:Int)
def mO:Option Bool:=
 if decide (i<(v.length:Int))=true then
  some (decide (n<=most))
 else
  some false
theorem Bk:OU 0 (cA TL 476) (mO v most n i) .normal (λo=>[(15,.bool o)]) (bT 62 [(0,sl af v),(1,.int .i64 most),(5,.int .i64 n),(6,.int .i64 i)] [] []):=Tz.j<|
 tf (λc1=>cO (fK.ln v)<|tg 5 c1<|tE) λc1=>cO (fK.ln v)<|tg 5 c1<|tE
end
section
variable(R10:o0)(v:waC)(most:Int)(n:Int)(i:Int)
def tD:ax:=bT 62 [(0,sl af v),(1,.int .i64 most),(5,.int .i64 n),(6,.int .i64 i)] [] []
def Ch(o:Int):ax:=bT 62 [(5,.int .i64 o)] [] []
def fN:Option ((Int×Int)⊕(Int)):=
 (mO v most n i).bind λo2=>
 if o2=true then
  (ed v i).bind λx4=>
  (qu .i64 (x4.Name.length:Int) 50).bind λq5=>
  (ed v i).bind λx6=>
  (ed v i).bind λx7=>
  (ed v i).bind λx8=>
  (app ([x7.Pred]:List ah) x8.Preds).bind λl9=>
  (zq l9 most).bind λr10=>
  (ed v i).bind λx11=>
  (R10 x11.Args (cc (most - (cc ((cc ((cc ((cc (n+1))+q5))+(x6.Names.length:Int)))+r10))))).bind λr12=>
  some (.inl (cc ((cc ((cc ((cc ((cc (n+1))+q5))+(x6.Names.length:Int)))+r10))+r12),cc (i+1)))
 else
  some (.inr n)
def xX:Option Int:=loop (λ(zz:Int×Int)=>fN R10 v most zz.1 zz.2) (n,i)
theorem zt(hR10:sS R10):OL 0 (cA TL 119) (fN R10 v most n i) (λ(zz:Int×Int)=>tD v most zz.1 zz.2) (λ_=>.exit 0) Ch (tD v most n i):=Tz.l<|
 tb λo2 bo2=>xO 1<|dZ (Bk v most n i _ bo2)<|tF (tb λx4 bx4=>tb λq5 bq5=>tb λx6 bx6=>tb λx7 bx7=>tb λx8 bx8=>tb λl9 bl9=>tb λr10 br10=>tb λx11 bx11=>tb λr12 br12=>pG [0,1,0,0,12,28,60,124,252,511,0,0,3072,7168,15360,31744,65535,0,0,393216,917504,1966080,4063232,0,0,25165824,58720256,125829120,268304384,0,1073610752,2147483647,4294967295]<|tv (fK.ia (k:=.i64) bx4)<|tw (cb x4)<|cO (A2 underlying9 x4.Name)<|tv (yf (P:=Pg) (t:=3) bq5)<|tv (fK.ia (k:=.i64) bx6)<|tw (eU x6)<|cO (sJ.ln x6.Names)<|tv (fK.ia (k:=.i64) bx7)<|tw (eW x7)<|tv (lV.mk' (v:=LC) Mm ([x7.Pred]:List ah) 1 (by kernel_rfl))<|tv (fK.ia (k:=.i64) bx8)<|tw (cE x8)<|tv (lV.ap bl9)<|bz (Gx _ br10)<|tv (fK.ia (k:=.i64) bx11)<|tw (aY x11)<|bz (hR10 _ _ _ br12)<|tE)<|tE
def Bl(hR10:sS R10):=Dd (s:=(n,i)) λzz=>zt R10 v most zz.1 zz.2 hR10
end
def oT(R10:o0)(a:waC)(most:Int):Option Int:=
 (xX R10 a most 0 0).bind λo13=>
 some o13
theorem Ek(R10:o0)(hR10:sS R10){a:waC}{most:Int}:OV 33 [sl af a,.int .i64 most] (oT R10 a most) (λr=>.int .i64 r) []:=Tz.v<|
 tb λo13 bo13=>dZ (Bl R10 a most 0 0 hR10 _ bo13)<|tE
def tC:((waC×Int)->Option Int)->(waC×Int)->Option Int:=λ(rec:(waC×Int)->Option Int) (x:waC×Int)=>oT (λa most=>rec (a,most)) x.1 x.2
def uM(a:waC)(most:Int):Option Int:=kM tC (a,most)
theorem xY{a:waC}{most:Int}:OV 33 [sl af a,.int .i64 most] (uM a most) (λr=>.int .i64 r) []:=lY λ_ h=>
 cd (F:=tC) (M:=λ(x:waC×Int) (r:Int)=>CC Pg GE 33 [sl af x.1,.int .i64 x.2] (.int .i64 r) []) (λrec hrec x r h=>Ek _ (λa most=>lY λr h=>hrec (a,most) r h) _ h) h
noncomputable def TM:Code:=f34.body.getD .skip
theorem TA:ZF Pg [27] 34 f34 TM:=zf call34 func34 rfl mixed
section
variable(v:waB)(most:Int)(n:Int)(i:Int)
def mM:Option Bool:=
 if decide (i<(v.length:Int))=true then
  some (decide (n<=most))
 else
  some false
theorem Bg:OU 0 (cA TM 476) (mM v most n i) .normal (λo=>[(15,.bool o)]) (bT 28 [(0,sl cS v),(1,.int .i64 most),(5,.int .i64 n),(6,.int .i64 i)] [] []):=TA.j<|
 tf (λc1=>cO (sJ.ln v)<|tg 5 c1<|tE) λc1=>cO (sJ.ln v)<|tg 5 c1<|tE
end
section
variable(v:waB)(most:Int)(n:Int)(i:Int)
def tt:ax:=bT 28 [(0,sl cS v),(1,.int .i64 most),(5,.int .i64 n),(6,.int .i64 i)] [] []
def Cf(o:Int):ax:=bT 28 [(5,.int .i64 o)] [] []
def fL:Option ((Int×Int)⊕(Int)):=
 (mM v most n i).bind λo2=>
 if o2=true then
  (ed v i).bind λx4=>
  (qu .i64 (x4.length:Int) 50).bind λq5=>
  some (.inl (cc ((cc (n+1))+q5),cc (i+1)))
 else
  some (.inr n)
def xT:Option Int:=loop (λ(zz:Int×Int)=>fL v most zz.1 zz.2) (n,i)
theorem zp:OL 0 (cA TM 119) (fL v most n i) (λ(zz:Int×Int)=>tt v most zz.1 zz.2) (λ_=>.exit 0) Cf (tt v most n i):=TA.l<|
 tb λo2 bo2=>xO 1<|dZ (Bg v most n i _ bo2)<|tF (tb λx4 bx4=>tb λq5 bq5=>tv (sJ.ia (k:=.i64) bx4)<|tv (uf SU (.str x4) [])<|cO (A2 underlying9 x4)<|tv (yf (P:=Pg) (t:=3) bq5)<|tE)<|tE
def Bh:=Dd (s:=(n,i)) λzz=>zp v most zz.1 zz.2
end
def uL(a:waB)(most:Int):Option Int:=
 (xT a most 0 0).bind λo6=>
 some o6
theorem Gw{a:waB}{most:Int}:OV 34 [sl cS a,.int .i64 most] (uL a most) (λr=>.int .i64 r) []:=TA.v<|
 tb λo6 bo6=>dZ (Bh a most 0 0 _ bo6)<|tE
noncomputable def b9:Code:=Tryz.f9.body.getD .skip
theorem Z9:ZF Pg [119] 9 Tryz.f9 b9:=zf call9 func9 rfl mixed
section
variable(most:Int)(e:aj)(n:Int)(i:Int)
def oM:Option Bool:=
 if decide (i<(e.Params.length:Int))=true then
  some (decide (n<=most))
 else
  some false
theorem B5:OU 0 (cA b9 476) (oM most e n i) .normal (λo=>[(28,.bool o)]) (bT 120 [(1,.int .i64 most),(2,.eptr (ak e)),(5,.int .i64 n),(6,.int .i64 i)] [.dead] []):=Z9.j<|
 have pp4:=λ{X Y Z} (r:PV _ X Y Z)=>tw (de e)<|cO (uq.ln e.Params)<|r;tf (λc3=>pp4<|tg 6 c3<|tE) λc3=>pp4<|tg 6 c3<|tE
end
section
variable(most:Int)(e:aj)(n:Int)(i:Int)
def vO:ax:=bT 120 [(1,.int .i64 most),(2,.eptr (ak e)),(5,.int .i64 n),(6,.int .i64 i)] [.dead] []
def Eg(o:Int):ax:=bT 120 [(1,.int .i64 most),(2,.eptr (ak e)),(5,.int .i64 o)] [.dead] []
def gO:Option ((Int×Int)⊕(Int)):=
 (oM most e n i).bind λo5=>
 if o5=true then
  (ed e.Params i).bind λx7=>
  (qu .i64 (x7.Name.length:Int) 50).bind λq8=>
  (ed e.Params i).bind λx9=>
  (uM ([x9.Type_]:List ae) most).bind λr10=>
  some (.inl (cc ((cc ((cc (n+1))+q8))+r10),cc (i+1)))
 else
  some (.inr n)
def Aw:Option Int:=loop (λ(zz:Int×Int)=>gO most e zz.1 zz.2) (n,i)
theorem Ba:OL 0 (cA b9 119) (gO most e n i) (λ(zz:Int×Int)=>vO most e zz.1 zz.2) (λ_=>.exit 0) (Eg most e) (vO most e n i):=Z9.l<|
 tb λo5 bo5=>xO 1<|dZ (B5 most e n i _ bo5)<|tF (tb λx7 bx7=>tb λq8 bq8=>tb λx9 bx9=>tb λr10 br10=>pG [0,1,0,4,0,28,60,124,252,508,1023,0,2048,0,14336,30720,63488,129024,0,522240,1048575,2097151]<|tw (de e)<|tv (uq.ia (k:=.i64) bx7)<|tw (df x7)<|cO (A2 underlying9 x7.Name)<|tv (yf (P:=Pg) (t:=3) bq8)<|tw (de e)<|tv (uq.ia (k:=.i64) bx9)<|tw (eH x9)<|tv (fK.mk' (v:=BV) zZ ([x9.Type_]:List ae) 1 (by kernel_rfl))<|bz (xY _ br10)<|tE)<|tE
def B8:=Dd (s:=(n,i)) λzz=>Ba most e zz.1 zz.2
end
section
variable(most:Int)(e:aj)(n:Int)(i:Int)
def oN:Option Bool:=
 if decide (i<(e.Kids.length:Int))=true then
  some (decide (n<=most))
 else
  some false
theorem B6:OU 0 (cA b9 988) (oN most e n i) .normal (λo=>[(61,.bool o)]) (bT 120 [(1,.int .i64 most),(2,.eptr (ak e)),(5,.int .i64 n),(7,.int .i64 i)] [.dead] []):=Z9.j<|
 have pp13:=λ{X Y Z} (r:PV _ X Y Z)=>tw (ck e)<|cO (oC.ln e.Kids)<|r;tf (λc12=>pp13<|tg 6 c12<|tE) λc12=>pp13<|tg 6 c12<|tE
end
section
variable(R9:nG)(most:Int)(e:aj)(n:Int)(i:Int)
def vP:ax:=bT 120 [(1,.int .i64 most),(2,.eptr (ak e)),(5,.int .i64 n),(7,.int .i64 i)] [.dead] []
def Eh(o:Int):ax:=bT 120 [(1,.int .i64 most),(2,.eptr (ak e)),(5,.int .i64 o)] [.dead] []
def gP:Option ((Int×Int)⊕(Int)):=
 (oN most e n i).bind λo14=>
 if o14=true then
  (ed e.Kids i).bind λx16=>
  (R9 x16 (cc (most - n))).bind λr17=>
  some (.inl (cc (n+r17),cc (i+1)))
 else
  some (.inr n)
def Ax:Option Int:=loop (λ(zz:Int×Int)=>gP R9 most e zz.1 zz.2) (n,i)
theorem Bb(hR9:np R9):OL 0 (cA b9 247) (gP R9 most e n i) (λ(zz:Int×Int)=>vP most e zz.1 zz.2) (λ_=>.exit 2) (Eh most e) (vP most e n i):=Z9.l<|
 tb λo14 bo14=>xO 1<|dZ (B6 most e n i _ bo14)<|tF (tb λx16 bx16=>tb λr17 br17=>tw (ck e)<|tv (oC.ia (k:=.i64) bx16)<|tv (lR x16)<|bz (hR9 _ _ _ br17)<|tE)<|tE
def B9(hR9:np R9):=Dd (s:=(n,i)) λzz=>Bb R9 most e zz.1 zz.2 hR9
end
section
variable(most:Int)(e:aj)(n:Int)(i:Int)
def oO:Option Bool:=
 if decide (i<(e.Alts.length:Int))=true then
  some (decide (n<=most))
 else
  some false
theorem B7:OU 0 (cA b9 2012) (oO most e n i) .normal (λo=>[(84,.bool o)]) (bT 120 [(1,.int .i64 most),(2,.eptr (ak e)),(5,.int .i64 n),(8,.int .i64 i)] [.dead] []):=Z9.j<|
 have pp20:=λ{X Y Z} (r:PV _ X Y Z)=>tw (bL e)<|cO (yO.ln e.Alts)<|r;tf (λc19=>pp20<|tg 6 c19<|tE) λc19=>pp20<|tg 6 c19<|tE
end
section
variable(R9:nG)(most:Int)(e:aj)(n:Int)(i:Int)
def vQ:ax:=bT 120 [(1,.int .i64 most),(2,.eptr (ak e)),(5,.int .i64 n),(8,.int .i64 i)] [.dead] []
def Ei(o:Int):ax:=bT 120 [(5,.int .i64 o)] [.dead] []
def gQ:Option ((Int×Int)⊕(Int)):=
 (oO most e n i).bind λo21=>
 if o21=true then
  (ed e.Alts i).bind λx23=>
  (qu .i64 (x23.Con.length:Int) 50).bind λq24=>
  (ed e.Alts i).bind λx25=>
  (uL x25.Names most).bind λr26=>
  (ed e.Alts i).bind λx27=>
  (R9 x27.Body (cc (most - (cc ((cc ((cc (n+1))+q24))+r26))))).bind λr28=>
  some (.inl (cc ((cc ((cc ((cc (n+1))+q24))+r26))+r28),cc (i+1)))
 else
  some (.inr n)
def Ay:Option Int:=loop (λ(zz:Int×Int)=>gQ R9 most e zz.1 zz.2) (n,i)
theorem Bd(hR9:np R9):OL 0 (cA b9 503) (gQ R9 most e n i) (λ(zz:Int×Int)=>vQ most e zz.1 zz.2) (λ_=>.exit 4) Ei (vQ most e n i):=Z9.l<|
 tb λo21 bo21=>xO 1<|dZ (B7 most e n i _ bo21)<|tF (tb λx23 bx23=>tb λq24 bq24=>tb λx25 bx25=>tb λr26 br26=>tb λx27 bx27=>tb λr28 br28=>pG [0,1,0,4,0,28,60,124,252,508,1023,0,2048,0,14336,30720,63488,0,260096,524287,1048575]<|tw (bL e)<|tv (yO.ia (k:=.i64) bx23)<|tw (kN x23)<|cO (A2 underlying9 x23.Con)<|tv (yf (P:=Pg) (t:=3) bq24)<|tw (bL e)<|tv (yO.ia (k:=.i64) bx25)<|tw (kh x25)<|bz (Gw _ br26)<|tw (bL e)<|tv (yO.ia (k:=.i64) bx27)<|tw (ki x27)<|bz (hR9 _ _ _ br28)<|tE)<|tE
def Ca(hR9:np R9):=Dd (s:=(n,i)) λzz=>Bd R9 most e zz.1 zz.2 hR9
end
def qS(R9:nG)(e:aj)(most:Int):Option Int:=
 (qu .i64 (e.Name.length:Int) 50).bind λq1=>
 (uM e.Types most).bind λr2=>
 (Aw most e (cc ((cc (1+q1))+r2)) 0).bind λo11=>
 (Ax R9 most e o11 0).bind λo18=>
 (Ay R9 most e o18 0).bind λo29=>
 some o29
theorem Gu(R9:nG)(hR9:np R9){e:aj}{most:Int}:OV 9 [.agg (ak e),.int .i64 most] (qS R9 e most) (λr=>.int .i64 r) []:=Z9.v<|
 tb λq1 bq1=>tb λr2 br2=>tb λo11 bo11=>tb λo18 bo18=>tb λo29 bo29=>te (ub e)<|pG [0,1,3,7,15,0,32,0,224,511,1023]<|tw (fw e)<|cO (A2 underlying9 e.Name)<|tv (yf (P:=Pg) (t:=3) bq1)<|tw (eT e)<|bz (xY _ br2)<|dZ (B8 most e (cc ((cc (1+q1))+r2)) 0 _ bo11)<|dZ (B9 R9 most e o11 0 hR9 _ bo18)<|dZ (Ca R9 most e o18 0 hR9 _ bo29)<|tE
def wM:((aj×Int)->Option Int)->(aj×Int)->Option Int:=λ(rec:(aj×Int)->Option Int) (x:aj×Int)=>qS (λe most=>rec (e,most)) x.1 x.2
def B4(e:aj)(most:Int):Option Int:=kM wM (e,most)
theorem HY{e:aj}{most:Int}:OV 9 [.agg (ak e),.int .i64 most] (B4 e most) (λr=>.int .i64 r) []:=lY λ_ h=>
 cd (F:=wM) (M:=λ(x:aj×Int) (r:Int)=>CC Pg GE 9 [.agg (ak x.1),.int .i64 x.2] (.int .i64 r) []) (λrec hrec x r h=>Gu _ (λe most=>lY λr h=>hrec (e,most) r h) _ h) h
noncomputable def Ry:Code:=f32.body.getD .skip
theorem Rv:ZF Pg [92] 32 f32 Ry:=zf call32 func32 rfl mixed
section
variable(most:Int)(v:aa)(n:Int)(i:Int)
def vU:ax:=bT 93 [(1,.int .i64 most),(2,.eptr (ac v)),(5,.int .i64 n),(6,.int .i64 i)] [.dead] []
def El(o:Int):ax:=bT 93 [(1,.int .i64 most),(2,.eptr (ac v)),(5,.int .i64 o)] [.dead] []
def gS:Option ((Int×Int)⊕(Int)):=
 if decide (i<(v.Body.length:Int))=true then
  (ed v.Body i).bind λx3=>
  (B4 x3 most).bind λr4=>
  some (.inl (cc (n+r4),cc (i+1)))
 else
  some (.inr n)
def Az:Option Int:=loop (λ(zz:Int×Int)=>gS most v zz.1 zz.2) (n,i)
theorem Bm:OL 0 (cA Ry 119) (gS most v n i) (λ(zz:Int×Int)=>vU most v zz.1 zz.2) (λ_=>.exit 0) (El most v) (vU most v n i):=Rv.l<|
 tw (bW v)<|cO (oC.ln v.Body)<|tF (tb λx3 bx3=>tb λr4 br4=>tw (bW v)<|tv (oC.ia (k:=.i64) bx3)<|tv (lR x3)<|bz (HY _ br4)<|tE)<|tE
def Cl:=Dd (s:=(n,i)) λzz=>Bm most v zz.1 zz.2
end
section
variable(most:Int)(v:aa)(n:Int)(i:Int)
def oU:Option Bool:=
 if decide (i<(v.Kids.length:Int))=true then
  some (decide (n<=most))
 else
  some false
theorem Cj:OU 0 (cA Ry 988) (oU most v n i) .normal (λo=>[(43,.bool o)]) (bT 93 [(1,.int .i64 most),(2,.eptr (ac v)),(5,.int .i64 n),(7,.int .i64 i)] [.dead] []):=Rv.j<|
 have pp7:=λ{X Y Z} (r:PV _ X Y Z)=>tw (av v)<|cO (aZ.ln v.Kids)<|r;tf (λc6=>pp7<|tg 6 c6<|tE) λc6=>pp7<|tg 6 c6<|tE
end
section
variable(R8:nI)(most:Int)(v:aa)(n:Int)(i:Int)
def vV:ax:=bT 93 [(1,.int .i64 most),(2,.eptr (ac v)),(5,.int .i64 n),(7,.int .i64 i)] [.dead] []
def Em(o:Int):ax:=bT 93 [(1,.int .i64 most),(2,.eptr (ac v)),(5,.int .i64 o)] [.dead] []
def gT:Option ((Int×Int)⊕(Int)):=
 (oU most v n i).bind λo8=>
 if o8=true then
  (ed v.Kids i).bind λx10=>
  (R8 x10 (cc (most - n))).bind λr11=>
  some (.inl (cc (n+r11),cc (i+1)))
 else
  some (.inr n)
def AA:Option Int:=loop (λ(zz:Int×Int)=>gT R8 most v zz.1 zz.2) (n,i)
theorem Bn(hR8:nq R8):OL 0 (cA Ry 247) (gT R8 most v n i) (λ(zz:Int×Int)=>vV most v zz.1 zz.2) (λ_=>.exit 2) (Em most v) (vV most v n i):=Rv.l<|
 tb λo8 bo8=>xO 1<|dZ (Cj most v n i _ bo8)<|tF (tb λx10 bx10=>tb λr11 br11=>tw (av v)<|tv (aZ.ia (k:=.i64) bx10)<|tv (al x10)<|bz (hR8 _ _ _ br11)<|tE)<|tE
def Cm(hR8:nq R8):=Dd (s:=(n,i)) λzz=>Bn R8 most v zz.1 zz.2 hR8
end
section
variable(most:Int)(v:aa)(n:Int)(i:Int)
def oV:Option Bool:=
 if decide (i<(v.Binds.length:Int))=true then
  some (decide (n<=most))
 else
  some false
theorem Ck:OU 0 (cA Ry 2012) (oV most v n i) .normal (λo=>[(66,.bool o)]) (bT 93 [(1,.int .i64 most),(2,.eptr (ac v)),(5,.int .i64 n),(8,.int .i64 i)] [.dead] []):=Rv.j<|
 have pp14:=λ{X Y Z} (r:PV _ X Y Z)=>tw (cr v)<|cO (sL.ln v.Binds)<|r;tf (λc13=>pp14<|tg 6 c13<|tE) λc13=>pp14<|tg 6 c13<|tE
end
section
variable(R8:nI)(most:Int)(v:aa)(n:Int)(i:Int)
def vW:ax:=bT 93 [(1,.int .i64 most),(2,.eptr (ac v)),(5,.int .i64 n),(8,.int .i64 i)] [.dead] []
def En(o:Int):ax:=bT 93 [(5,.int .i64 o)] [.dead] []
def gU:Option ((Int×Int)⊕(Int)):=
 (oV most v n i).bind λo15=>
 if o15=true then
  (ed v.Binds i).bind λx17=>
  (qu .i64 (x17.Name.length:Int) 50).bind λq18=>
  (ed v.Binds i).bind λx19=>
  (R8 x19.Value (cc (most - (cc ((cc (n+1))+q18))))).bind λr20=>
  some (.inl (cc ((cc ((cc (n+1))+q18))+r20),cc (i+1)))
 else
  some (.inr n)
def AB:Option Int:=loop (λ(zz:Int×Int)=>gU R8 most v zz.1 zz.2) (n,i)
theorem Bo(hR8:nq R8):OL 0 (cA Ry 503) (gU R8 most v n i) (λ(zz:Int×Int)=>vW most v zz.1 zz.2) (λ_=>.exit 4) En (vW most v n i):=Rv.l<|
 tb λo15 bo15=>xO 1<|dZ (Ck most v n i _ bo15)<|tF (tb λx17 bx17=>tb λq18 bq18=>tb λx19 bx19=>tb λr20 br20=>tw (cr v)<|tv (sL.ia (k:=.i64) bx17)<|tw (dc x17)<|cO (A2 underlying9 x17.Name)<|tv (yf (P:=Pg) (t:=3) bq18)<|tw (cr v)<|tv (sL.ia (k:=.i64) bx19)<|tw (eG x19)<|bz (hR8 _ _ _ br20)<|tE)<|tE
def Cn(hR8:nq R8):=Dd (s:=(n,i)) λzz=>Bo R8 most v zz.1 zz.2 hR8
end
def qU(R8:nI)(v:aa)(most:Int):Option Int:=
 (qu .i64 (v.Name.length:Int) 50).bind λq1=>
 (Az most v (cc ((cc (1+q1))+(v.Params.length:Int))) 0).bind λo5=>
 (AA R8 most v o5 0).bind λo12=>
 (AB R8 most v o12 0).bind λo21=>
 some o21
theorem Gy(R8:nI)(hR8:nq R8){v:aa}{most:Int}:OV 32 [.agg (ac v),.int .i64 most] (qU R8 v most) (λr=>.int .i64 r) []:=Rv.v<|
 tb λq1 bq1=>tb λo5 bo5=>tb λo12 bo12=>tb λo21 bo21=>te (bV v)<|tw (aM v)<|cO (A2 underlying9 v.Name)<|tv (yf (P:=Pg) (t:=3) bq1)<|tw (dK v)<|cO (sJ.ln v.Params)<|dZ (Cl most v (cc ((cc (1+q1))+(v.Params.length:Int))) 0 _ bo5)<|dZ (Cm R8 most v o5 0 hR8 _ bo12)<|dZ (Cn R8 most v o12 0 hR8 _ bo21)<|tE
def wP:((aa×Int)->Option Int)->(aa×Int)->Option Int:=λ(rec:(aa×Int)->Option Int) (x:aa×Int)=>qU (λv most=>rec (v,most)) x.1 x.2
def Ci(v:aa)(most:Int):Option Int:=kM wP (v,most)
theorem H1{v:aa}{most:Int}:OV 32 [.agg (ac v),.int .i64 most] (Ci v most) (λr=>.int .i64 r) []:=lY λ_ h=>
 cd (F:=wP) (M:=λ(x:aa×Int) (r:Int)=>CC Pg GE 32 [.agg (ac x.1),.int .i64 x.2] (.int .i64 r) []) (λrec hrec x r h=>Gy _ (λv most=>lY λr h=>hrec (v,most) r h) _ h) h
noncomputable def b8:Code:=Tryz.f8.body.getD .skip
theorem Z8:ZF Pg [] 8 Tryz.f8 b8:=zf call8 func8 rfl mixed
def qd(v:aa):Option Bool:=
 (Ci v 300).bind λr1=>
 some (decide (r1<=300))
theorem yc{v:aa}:OV 8 [.agg (ac v)] (qd v) (λr=>.bool r) []:=Z8.v<|
 tb λr1 br1=>te (bV v)<|tv (al v)<|bz (H1 _ br1)<|tE
noncomputable def V1:Code:=f35.body.getD .skip
theorem VM:ZF Pg [] 35 f35 V1:=zf call35 func35 rfl mixed
def wW(n:Int):Option aa:=
 some (⟨1,n,([]:ai),([]:List aa),([]:List ai),([]:List aj),([]:List aA)⟩:aa)
theorem jl{n:Int}:OV 35 [.int .i64 n] (wW n) (λr=>.agg (ac r)) [(3,36),(4,9),(5,52),(6,113)]:=VM.va<|
 tx vI<|E5 (ls 1 n) (lq 1 n)<|ty (bm (⟨1,n,([]:ai),([]:List aa),([]:List ai),([]:List aj),([]:List aA)⟩:aa))<|MI λq=>aI (DF (⟨1,n,([]:ai),([]:List aa),([]:List ai),([]:List aj),([]:List aA)⟩:aa)) q.2
abbrev lm:=(ae->Option ae)
abbrev pM(R:lm):Prop:=∀(t:ae),OV 68 [.agg (af t)] (R t) (λr=>.agg (af r)) [(2,44),(3,9),(7,42),(8,42)]
noncomputable def Vi:Code:=f68.body.getD .skip
theorem U6:ZF Pg [19] 68 f68 Vi:=zf call68 func68 rfl mixed
section
variable(R16:lm)(t12:waC)(t13:Int)(m:waC)(m2:waG)(m3:Int)(m4:ai)(t14:Int)(m5:waC)
def kY:ax:=bT 27 [(2,.bptr 1 0),(3,.bptr 2 0),(12,sl af t12),(13,.int .i64 t13),(14,.int .i64 t14)] [.dead,.cells [.int .i64 0,.str ([]:ai),sl af m,sl cS ([]:List ai),.int .i64 0,.str ([]:ai),.int .i64 0,sl am m2,sl am m2] [(2,44),(3,9),(7,42),(8,42)],.cells [.int .i64 m3,.str m4,sl af m5,sl cS ([]:List ai),.int .i64 0,.str ([]:ai),.int .i64 0,sl am m2,sl am m2] [(2,44),(3,9),(7,42),(8,42)]] []
def qC(o:waC):ax:=bT 27 [(2,.bptr 1 0),(3,.bptr 2 0)] [.dead,.cells [.int .i64 0,.str ([]:ai),sl af m,sl cS ([]:List ai),.int .i64 0,.str ([]:ai),.int .i64 0,sl am m2,sl am m2] [(2,44),(3,9),(7,42),(8,42)],.cells [.int .i64 m3,.str m4,sl af o,sl cS ([]:List ai),.int .i64 0,.str ([]:ai),.int .i64 0,sl am m2,sl am m2] [(2,44),(3,9),(7,42),(8,42)]] []
instance iS_types_Plain_L1:KS 0 (kY t12 t13 m m2 m3 m4 t14 m5):=ks 3 rfl
instance iO_types_Plain_L1{o:waC}:KS 0 (qC m m2 m3 m4 o):=ks 3 rfl
def qB:Option ((Int×waC)⊕(waC)):=
 if decide (t14<t13)=true then
  (ed t12 t14).bind λx2=>
  (R16 x2).bind λr3=>
  (app m5 ([r3]:List ae)).bind λl4=>
  some (.inl (cc (t14+1),l4))
 else
  some (.inr m5)
def DT:Option waC:=loop (λ(zz:Int×waC)=>qB R16 t12 t13 zz.1 zz.2) (t14,m5)
theorem xy(hR16:pM R16):OL 0 (cA Vi 119) (qB R16 t12 t13 t14 m5) (λ(zz:Int×waC)=>kY t12 t13 m m2 m3 m4 zz.1 zz.2) (λ_=>.exit 0) (qC m m2 m3 m4) (kY t12 t13 m m2 m3 m4 t14 m5):=U6.lx<|
 tF (tb λx2 bx2=>tb λr3 br3=>tb λl4 bl4=>tv (fK.ia (k:=.i64) bx2)<|tv (eI x2)<|tx Aa<|tx (iO x2)<|pG [0,1,0,4,12,31,63,127]<|tv (fR x2 [])<|bz (hR16 _ _ br3)<|tv (fK.mk' (v:=BV) zZ ([r3]:List ae) 1 (by kernel_rfl))<|tv (fK.ap bl4)<|WP (rfl:bu (sl af l4)=some [sl af l4])<|tE)<|tE
def yW(hR16:pM R16):=Dd (s:=(t14,m5)) λzz=>xy R16 t12 t13 m m2 m3 m4 zz.1 zz.2 hR16
end
def wr(R16:lm)(t:ae):Option ae:=
 (DT R16 t.Args (t.Args.length:Int) 0 ([]:List ae)).bind λo5=>
 some (⟨t.Op,t.Name,o5,([]:List ai),(⟨0,([]:ai),0,([]:List ah)⟩:ah),([]:List ah)⟩:ae)
theorem By(R16:lm)(hR16:pM R16){t:ae}:OV 68 [.agg (af t)] (wr R16 t) (λr=>.agg (af r)) [(2,44),(3,9),(7,42),(8,42)]:=U6.va<|
 tb λo5 bo5=>te (iy t)<|tx Aa<|tw (cm t)<|tw (cb t)<|E5 (rj t.Op t.Name) (ri t.Op t.Name)<|tx Aa<|ty (bg (⟨t.Op,t.Name,([]:List ae),([]:List ai),(⟨0,([]:ai),0,([]:List ah)⟩:ah),([]:List ah)⟩:ae))<|tw (aY t)<|cO (fK.ln t.Args)<|dZ (yW R16 t.Args (t.Args.length:Int) ([]:List ae) ([]:List ah) t.Op t.Name 0 ([]:List ae) hR16 _ bo5)<|tz (fR (⟨t.Op,t.Name,o5,([]:List ai),(⟨0,([]:ai),0,([]:List ah)⟩:ah),([]:List ah)⟩:ae) [])<|ty (bg (⟨t.Op,t.Name,o5,([]:List ai),(⟨0,([]:ai),0,([]:List ah)⟩:ah),([]:List ah)⟩:ae))<|MI λq=>aI (kS (⟨t.Op,t.Name,o5,([]:List ai),(⟨0,([]:ai),0,([]:List ah)⟩:ah),([]:List ah)⟩:ae)) q.2
def ws:(ae->Option ae)->(ae)->Option ae:=λ(rec:ae->Option ae) (x:ae)=>wr (λt=>rec t) x
def A4(t:ae):Option ae:=kM ws t
theorem DU{t:ae}:OV 68 [.agg (af t)] (A4 t) (λr=>.agg (af r)) [(2,44),(3,9),(7,42),(8,42)]:=lY λ_ h=>
 cd (F:=ws) (M:=λ(x:ae) (r:ae)=>CC Pg GE 68 [.agg (af x)] (.agg (af r)) [(2,44),(3,9),(7,42),(8,42)]) (λrec hrec x r h=>By _ (λt=>lY λr h=>hrec t r h) _ h) h
abbrev gn:=(ae->Option ai)
abbrev iF(R:gn):Prop:=∀(t:ae),OV 95 [.agg (af t)] (R t) (λr=>.str r) []
noncomputable def RS:Code:=f122.body.getD .skip
theorem RO:ZF Pg [] 122 f122 RS:=zf call122 func122 rfl mixed
section
variable(t:ae)
def pJ:Option Bool:=
 if(t.Op==6)=true then
  some true
 else
  some (decide ((t.Args.length:Int)>0))
theorem uB:OU 0 (cA RS 12) (pJ t) .normal (λo=>[(11,.bool o)]) (bT 18 [(1,.eptr (af t))] [.dead] []):=RO.j<|
 have pp2:=λ{X Y Z} (r:PV _ X Y Z)=>tw (cm t)<|r;tf (λc1=>pp2<|tg 4 c1<|tE) λc1=>pp2<|tg 4 c1<|tw (aY t)<|cO (fK.ln t.Args)<|tE
end
def uA(R17:gn)(t:ae):Option ai:=
 (pJ t).bind λo3=>
 if o3=true then
  (R17 t).bind λr5=>
  (zC ([40]:ai) r5).bind λs6=>
  (zC s6 ([41]:ai)).bind λs7=>
  some s7
 else
  (R17 t).bind λr8=>
  some r8
theorem y4(R17:gn)(hR17:iF R17){t:ae}:OV 122 [.agg (af t)] (uA R17 t) (λr=>.str r) []:=RO.v<|
 tb λo3 bo3=>te (iy t)<|xO 1<|dZ (uB t _ bo3)<|tF (tb λr5 br5=>tb λs6 bs6=>tb λs7 bs7=>tv (eI t)<|bz (hR17 _ _ br5)<|tv (fm (P:=Pg) (t:=9) bs6)<|tv (fm (P:=Pg) (t:=9) bs7)<|tE)<|tb λr8 br8=>tv (eI t)<|bz (hR17 _ _ br8)<|tE
noncomputable def Td:Code:=f95.body.getD .skip
theorem S5:ZF Pg [38,50,72] 95 f95 Td:=zf call95 func95 rfl mixed
section
variable(R17:gn)(t26:waC)(t27:Int)(s:ai)(t28:Int)
def ms:ax:=bT 73 [(3,.str s),(26,sl af t26),(27,.int .i64 t27),(28,.int .i64 t28)] [.dead] []
def sn(o:ai):ax:=bT 73 [(3,.str o)] [.dead] []
instance iS_types_Text_L1:KS 0 (ms t26 t27 s t28):=ks 1 rfl
instance iO_types_Text_L1{o:ai}:KS 0 (sn o):=ks 1 rfl
def sj:Option ((ai×Int)⊕(ai)):=
 if decide (t28<t27)=true then
  (ed t26 t28).bind λx7=>
  (uA R17 x7).bind λr8=>
  (zC ([32]:ai) r8).bind λs9=>
  (zC s s9).bind λs10=>
  some (.inl (s10,cc (t28+1)))
 else
  some (.inr s)
def E6:Option ai:=loop (λ(zz:ai×Int)=>sj R17 t26 t27 zz.1 zz.2) (s,t28)
theorem y2(hR17:iF R17):OL 0 (cA Td 917463) (sj R17 t26 t27 s t28) (λ(zz:ai×Int)=>ms t26 t27 zz.1 zz.2) (λ_=>.exit 1) sn (ms t26 t27 s t28):=S5.lx<|
 tF (tb λx7 bx7=>tb λr8 br8=>tb λs9 bs9=>tb λs10 bs10=>tv (fK.ia (k:=.i64) bx7)<|tv (eI x7)<|tx Aa<|tx (iO x7)<|tv (fR x7 [])<|bz (y4 R17 hR17 _ br8)<|tv (fm (P:=Pg) (t:=9) bs9)<|tv (fm (P:=Pg) (t:=9) bs10)<|tE)<|tE
def Aj(hR17:iF R17):=Dd (s:=(s,t28)) λzz=>y2 R17 t26 t27 zz.1 zz.2 hR17
end
section
variable(t:ae)(s:ai)(i:Int)(t46:waC)(t47:Int)(m:Int)(m2:ai)(m3:waC)(m4:waB)(m5:Int)(m6:ai)(m7:Int)(m8:waG)(m9:waG)
def ww:Option ai:=
 if(i==(cc ((t.Args.length:Int) - 1)))=true then
  (zC s ([41,32,45,62,32]:ai)).bind λs17=>
  some s17
 else if decide (i>0)=true then
  (zC s ([44,32]:ai)).bind λs19=>
  some s19
 else
  some s
theorem Ai:OU 0 (cA Td 469757430) (ww t s i) .normal (λo=>[(6,.str o),(7,.undef)]) (bT 73 [(1,.eptr (af t)),(6,.str s),(7,.int .i64 i),(8,.bptr 1 0),(46,sl af t46),(47,.int .i64 t47),(48,.int .i64 i)] [.dead,.cells [.int .i64 m,.str m2,sl af m3,sl cS m4,.int .i64 m5,.str m6,.int .i64 m7,sl am m8,sl am m9] []] []):=S5.j<|
 tw (aY t)<|cO (fK.ln t.Args)<|tF (tb λs17 bs17=>tv (fm (P:=Pg) (t:=9) bs17)<|tE)<|tF (tb λs19 bs19=>tv (fm (P:=Pg) (t:=9) bs19)<|tE)<|tE
end
section
variable(R17:gn)(t:ae)(t46:waC)(t47:Int)(s:ai)(t48:Int)
def mt:ax:=bT 73 [(1,.eptr (af t)),(6,.str s),(46,sl af t46),(47,.int .i64 t47),(48,.int .i64 t48)] [.dead] []
def su(o:ai):ax:=bT 73 [(6,.str o)] [.dead] []
instance iS_types_Text_L2:KS 0 (mt t t46 t47 s t48):=ks 1 rfl
instance iO_types_Text_L2{o:ai}:KS 0 (su o):=ks 1 rfl
def sq:Option ((ai×Int)⊕(ai)):=
 if decide (t48<t47)=true then
  (ed t46 t48).bind λx15=>
  (ww t s t48).bind λo20=>
  (R17 x15).bind λr21=>
  (zC o20 r21).bind λs22=>
  some (.inl (s22,cc (t48+1)))
 else
  some (.inr s)
def E7:Option ai:=loop (λ(zz:ai×Int)=>sq R17 t t46 t47 zz.1 zz.2) (s,t48)
theorem y3(hR17:iF R17):OL 0 (cA Td 7339959) (sq R17 t t46 t47 s t48) (λ(zz:ai×Int)=>mt t t46 t47 zz.1 zz.2) (λ_=>.exit 3) su (mt t t46 t47 s t48):=S5.lx<|
 tF (tb λx15 bx15=>tb λo20 bo20=>tb λr21 br21=>tb λs22 bs22=>tv (fK.ia (k:=.i64) bx15)<|tv (eI x15)<|tx Aa<|tx (iO x15)<|xO 0<|dZ (Ai t s t48 t46 t47 x15.Op x15.Name x15.Args x15.Names x15.Pred.Op x15.Pred.Name x15.Pred.N x15.Pred.Kids x15.Preds _ bo20)<|tv (fR x15 [])<|bz (hR17 _ _ br21)<|tv (fm (P:=Pg) (t:=9) bs22)<|tE)<|tE
def Ak(hR17:iF R17):=Dd (s:=(s,t48)) λzz=>y3 R17 t t46 t47 zz.1 zz.2 hR17
end
def y0(R17:gn)(t:ae):Option ai:=
 if(t.Op==1)=true then
  some ([73,110,116]:ai)
 else if(t.Op==2)=true then
  some ([66,111,111,108]:ai)
 else if(t.Op==3)=true then
  some ([67,101,108,108]:ai)
 else if(t.Op==5)=true then
  some t.Name
 else if(t.Op==4)=true then
  (E6 R17 t.Args (t.Args.length:Int) t.Name 0).bind λo11=>
  some o11
 else if(t.Op==6)=true then
  if((t.Args.length:Int)==0)=true then
   some ([63]:ai)
  else
   (E7 R17 t t.Args (t.Args.length:Int) ([40]:ai) 0).bind λo23=>
   some o23
 else
  some ([63]:ai)
theorem DW(R17:gn)(hR17:iF R17){t:ae}:OV 95 [.agg (af t)] (y0 R17 t) (λr=>.str r) []:=S5.v<|
 te (iy t)<|tw (cm t)<|tF tE<|tF tE<|tF tE<|tF (tw (cb t)<|tE)<|tF (tb λo11 bo11=>tw (cb t)<|tw (aY t)<|cO (fK.ln t.Args)<|dZ (Aj R17 t.Args (t.Args.length:Int) t.Name 0 hR17 _ bo11)<|tE)<|tF (tw (aY t)<|cO (fK.ln t.Args)<|tF tE<|tb λo23 bo23=>tw (aY t)<|cO (fK.ln t.Args)<|dZ (Ak R17 t t.Args (t.Args.length:Int) ([40]:ai) 0 hR17 _ bo23)<|tE)<|tE
def y1:(ae->Option ai)->(ae)->Option ai:=λ(rec:ae->Option ai) (x:ae)=>y0 (λt=>rec t) x
def xB(t:ae):Option ai:=kM y1 t
theorem E8{t:ae}:OV 95 [.agg (af t)] (xB t) (λr=>.str r) []:=lY λ_ h=>
 cd (F:=y1) (M:=λ(x:ae) (r:ai)=>CC Pg GE 95 [.agg (af x)] (.str r) []) (λrec hrec x r h=>DW _ (λt=>lY λr h=>hrec t r h) _ h) h
noncomputable def Wa:Code:=f62.body.getD .skip
theorem VT:ZF Pg [] 62 f62 Wa:=zf call62 func62 rfl mixed
def qm(n:Int):Option ai:=
 (K2 n).bind λr1=>
 some r1
theorem tZ{n:Int}:OV 62 [.int .i64 n] (qm n) (λr=>.str r) []:=VT.v<|
 tb λr1 br1=>bz (PC br1)<|tE
noncomputable def T1:Code:=f97.body.getD .skip
theorem Ve:ZF Pg [] 97 f97 T1:=zf call97 func97 rfl mixed
section
variable(name:ai)(t9:(List aS))(t10:Int)(t11:Int)(m:ai)(m2:waB)(m3:waD)(m4:waE)
def iV:ax:=bT 22 [(1,.str name),(4,.bptr 1 0),(9,sl aC t9),(10,.int .i64 t10),(11,.int .i64 t11)] [.dead,.cells [.str m,sl cS m2,sl cw m3,sl aT m4] [(1,9),(2,223),(3,76)]] []
def qx(o:(ai×waB×waD×waE)⊕(ai×waB×waD×waE)):Exit:=match o with
 |(.inl _)=>.ret
 |(.inr _)=>.exit 0
def kV(o:(ai×waB×waD×waE)⊕(ai×waB×waD×waE)):ax:=match o with
 |(.inl o)=>bT 22 [(4,.bptr 1 0),(5,.bool true)] [.dead,.cells [.str o.1,sl cS o.2.1,sl cw o.2.2.1,sl aT o.2.2.2] []] []
 |(.inr o)=>bT 22 [(4,.bptr 1 0)] [.dead,.cells [.str o.1,sl cS o.2.1,sl cw o.2.2.1,sl aT o.2.2.2] [(1,9),(2,223),(3,76)]] []
instance iS_syntax_Data_L1:KS 0 (iV name t9 t10 t11 m m2 m3 m4):=ks 2 rfl
instance iO_syntax_Data_L1{o:(ai×waB×waD×waE)⊕(ai×waB×waD×waE)}:KS 0 (kV o):=match o with
 |(.inl o)=>ks 2 rfl
 |(.inr o)=>ks 2 rfl
def qw:Option ((Int×ai×waB×waD×waE)⊕((ai×waB×waD×waE)⊕(ai×waB×waD×waE))):=
 if decide (t11<t10)=true then
  (ed t9 t11).bind λx2=>
  if(x2.Name==name)=true then
   some (.inr (.inl (x2.Name,x2.Vars,x2.Preds,x2.Cons)))
  else
   some (.inl (cc (t11+1),m,m2,m3,m4))
 else
  some (.inr (.inr (m,m2,m3,m4)))
def uw:Option ((ai×waB×waD×waE)⊕(ai×waB×waD×waE)):=loop (λ(zz:Int×ai×waB×waD×waE)=>qw name t9 t10 zz.1 zz.2.1 zz.2.2.1 zz.2.2.2.1 zz.2.2.2.2) (t11,m,m2,m3,m4)
theorem xw:OL 0 (cA T1 55) (qw name t9 t10 t11 m m2 m3 m4) (λ(zz:Int×ai×waB×waD×waE)=>iV name t9 t10 zz.1 zz.2.1 zz.2.2.1 zz.2.2.2.1 zz.2.2.2.2) qx kV (iV name t9 t10 t11 m m2 m3 m4):=Ve.lx<|
 tF (tb λx2 bx2=>tv (Ot.ia (k:=.i64) bx2)<|tv (C6 x2)<|tx E2<|tx (gY x2)<|ts<|tF (tv (FM x2 [])<|tx (gY x2)<|tE)<|tE)<|tE
theorem pF:OK 0 (.loop (cA T1 55)) (uw name t9 t10 t11 m m2 m3 m4) qx kV (iV name t9 t10 t11 m m2 m3 m4):=yA λ_=>xw _ _ _ _ _ _ _ _
end
def uv(m:aB)(name:ai):Option (aS×Bool):=
 (uw name m.Datas (m.Datas.length:Int) 0 ([]:ai) ([]:List ai) ([]:List cq) ([]:List aP)).bind λo4=>match o4 with
 |(.inl o4)=>
  some ((⟨o4.1,o4.2.1,o4.2.2.1,o4.2.2.2⟩:aS),true)
 |(.inr o4)=>
  some ((⟨([]:ai),([]:List ai),([]:List cq),([]:List aP)⟩:aS),false)
theorem DO{m:aB}{name:ai}:OV 97 [.agg (aX m),.str name] (uv m name) (λr=>.tuple [.agg (aC r.1),.bool r.2]) []:=Ve.v<|
 te (iw m)<|tx E2<|tw (lO m)<|cO (Ot.ln m.Datas)<|t2 (λo4 bo4=>dZ (pF name m.Datas (m.Datas.length:Int) 0 ([]:ai) ([]:List ai) ([]:List cq) ([]:List aP) _ bo4)<|MI λq=>aI (vbo PVal.tuple (i7 (vp (⟨o4.1,o4.2.1,o4.2.2.1,o4.2.2.2⟩:aS)) (i7 (rP (.bool true)) (rfl:([]:List PVal)=[])))) q.2) λo4 bo4=>dZ (pF name m.Datas (m.Datas.length:Int) 0 ([]:ai) ([]:List ai) ([]:List cq) ([]:List aP) _ bo4)<|E5 (Cz) (Cy)<|ty (lN (⟨([]:ai),([]:List ai),([]:List cq),([]:List aP)⟩:aS))<|MI λq=>aI (vbo PVal.tuple (i7 (vp (⟨([]:ai),([]:List ai),([]:List cq),([]:List aP)⟩:aS)) (i7 (rP (.bool false)) (rfl:([]:List PVal)=[])))) q.2
noncomputable def RV:Code:=f72.body.getD .skip
theorem TG:ZF Pg [23,31] 72 f72 RV:=zf call72 func72 rfl mixed
section
variable(name:ai)(t12:(List aS))(t13:Int)(t14:Int)(t19:waE)(t20:Int)(m5:ai)(m6:waB)(m7:waD)(t21:Int)(m:ai)(m2:waB)(m3:waD)(m4:waE)
def jB:ax:=bT 35 [(1,.str name),(4,.bptr 1 0),(8,.bptr 2 0),(12,sl aC t12),(13,.int .i64 t13),(14,.int .i64 t14),(19,sl aT t19),(20,.int .i64 t20),(21,.int .i64 t21)] [.dead,.cells [.str m,sl cS m2,sl cw m3,sl aT m4] [(1,9),(2,223),(3,76)],.cells [.str m5,sl cS m6,sl cw m7,sl aT t19] []] []
def rZ(o:Int⊕(ai×waB×waD×waE)):Exit:=match o with
 |(.inl _)=>.ret
 |(.inr _)=>.exit 2
def mq(o:Int⊕(ai×waB×waD×waE)):ax:=match o with
 |(.inl o)=>bT 35 [(4,.bptr 1 0),(5,.int .i64 o),(6,.bool true)] [.dead,.cells [.str m5,sl cS m6,sl cw m7,sl aT t19] [],.cells [.str m5,sl cS m6,sl cw m7,sl aT t19] []] []
 |(.inr o)=>bT 35 [(1,.str name),(4,.bptr 1 0),(12,sl aC t12),(13,.int .i64 t13),(14,.int .i64 t14)] [.dead,.cells [.str o.1,sl cS o.2.1,sl cw o.2.2.1,sl aT o.2.2.2] [(1,9),(2,223),(3,76)],.cells [.str m5,sl cS m6,sl cw m7,sl aT t19] []] []
instance iS_syntax_Con_L2:KS 0 (jB name t12 t13 t14 t19 t20 m5 m6 m7 t21 m m2 m3 m4):=ks 3 rfl
instance iO_syntax_Con_L2{o:Int⊕(ai×waB×waD×waE)}:KS 0 (mq name t12 t13 t14 t19 m5 m6 m7 o):=match o with
 |(.inl o)=>ks 3 rfl
 |(.inr o)=>ks 3 rfl
def rY:Option ((Int×ai×waB×waD×waE)⊕(Int⊕(ai×waB×waD×waE))):=
 if decide (t21<t20)=true then
  (ed t19 t21).bind λx4=>
  if(x4.Name==name)=true then
   some (.inr (.inl t21))
  else
   some (.inl (cc (t21+1),m,m2,m3,m4))
 else
  some (.inr (.inr (m,m2,m3,m4)))
def wq:Option (Int⊕(ai×waB×waD×waE)):=loop (λ(zz:Int×ai×waB×waD×waE)=>rY name t19 t20 zz.1 zz.2.1 zz.2.2.1 zz.2.2.2.1 zz.2.2.2.2) (t21,m,m2,m3,m4)
theorem yS:OL 0 (cA RV 14303) (rY name t19 t20 t21 m m2 m3 m4) (λ(zz:Int×ai×waB×waD×waE)=>jB name t12 t13 t14 t19 t20 m5 m6 m7 zz.1 zz.2.1 zz.2.2.1 zz.2.2.2.1 zz.2.2.2.2) rZ (mq name t12 t13 t14 t19 m5 m6 m7) (jB name t12 t13 t14 t19 t20 m5 m6 m7 t21 m m2 m3 m4):=TG.lx<|
 tF (tb λx4 bx4=>tv (MD.ia (k:=.i64) bx4)<|tv (K9 x4)<|tx SE<|tx (IS x4)<|ts<|tF (tv (FM (⟨m5,m6,m7,t19⟩:aS) [])<|tx (gY (⟨m5,m6,m7,t19⟩:aS))<|tE)<|tE)<|tE
theorem qv:OK 0 (.loop (cA RV 14303)) (wq name t19 t20 t21 m m2 m3 m4) rZ (mq name t12 t13 t14 t19 m5 m6 m7) (jB name t12 t13 t14 t19 t20 m5 m6 m7 t21 m m2 m3 m4):=yA λ_=>yS _ _ _ _ _ _ _ _ _ _ _ _ _ _
end
section
variable(name:ai)(t12:(List aS))(t13:Int)(t14:Int)(m:ai)(m2:waB)(m3:waD)(m4:waE)
def jA:ax:=bT 35 [(1,.str name),(4,.bptr 1 0),(12,sl aC t12),(13,.int .i64 t13),(14,.int .i64 t14)] [.dead,.cells [.str m,sl cS m2,sl cw m3,sl aT m4] [(1,9),(2,223),(3,76)]] []
def rX(o:(Int×ai×waB×waD×waE)⊕(ai×waB×waD×waE)):Exit:=match o with
 |(.inl _)=>.ret
 |(.inr _)=>.exit 0
def mo(o:(Int×ai×waB×waD×waE)⊕(ai×waB×waD×waE)):ax:=match o with
 |(.inl o)=>bT 35 [(4,.bptr 1 0),(5,.int .i64 o.1),(6,.bool true)] [.dead,.cells [.str o.2.1,sl cS o.2.2.1,sl cw o.2.2.2.1,sl aT o.2.2.2.2] []] []
 |(.inr o)=>bT 35 [(4,.bptr 1 0)] [.dead,.cells [.str o.1,sl cS o.2.1,sl cw o.2.2.1,sl aT o.2.2.2] [(1,9),(2,223),(3,76)]] []
instance iS_syntax_Con_L1:KS 0 (jA name t12 t13 t14 m m2 m3 m4):=ks 2 rfl
instance iO_syntax_Con_L1{o:(Int×ai×waB×waD×waE)⊕(ai×waB×waD×waE)}:KS 0 (mo o):=match o with
 |(.inl o)=>ks 2 rfl
 |(.inr o)=>ks 2 rfl
def rW:Option ((Int×ai×waB×waD×waE)⊕((Int×ai×waB×waD×waE)⊕(ai×waB×waD×waE))):=
 if decide (t14<t13)=true then
  (ed t12 t14).bind λx2=>
  (wq name x2.Cons (x2.Cons.length:Int) 0 m m2 m3 m4).bind λo6=>match o6 with
  |(.inl o6)=>
   some (.inr (.inl (o6,x2.Name,x2.Vars,x2.Preds,x2.Cons)))
  |(.inr o6)=>
   some (.inl (cc (t14+1),o6.1,o6.2.1,o6.2.2.1,o6.2.2.2))
 else
  some (.inr (.inr (m,m2,m3,m4)))
def wo:Option ((Int×ai×waB×waD×waE)⊕(ai×waB×waD×waE)):=loop (λ(zz:Int×ai×waB×waD×waE)=>rW name t12 t13 zz.1 zz.2.1 zz.2.2.1 zz.2.2.2.1 zz.2.2.2.2) (t14,m,m2,m3,m4)
theorem yR:OL 0 (cA RV 55) (rW name t12 t13 t14 m m2 m3 m4) (λ(zz:Int×ai×waB×waD×waE)=>jA name t12 t13 zz.1 zz.2.1 zz.2.2.1 zz.2.2.2.1 zz.2.2.2.2) rX mo (jA name t12 t13 t14 m m2 m3 m4):=TG.lx<|
 tF (tb λx2 bx2=>tv (Ot.ia (k:=.i64) bx2)<|tv (C6 x2)<|tx E2<|tx (gY x2)<|ts<|cO (MD.ln x2.Cons)<|t2 (λo6 bo6=>dZ (qv name t12 t13 t14 x2.Cons (x2.Cons.length:Int) x2.Name x2.Vars x2.Preds 0 m m2 m3 m4 _ bo6)<|tE) λo6 bo6=>dZ (qv name t12 t13 t14 x2.Cons (x2.Cons.length:Int) x2.Name x2.Vars x2.Preds 0 m m2 m3 m4 _ bo6)<|tE)<|tE
theorem qt:OK 0 (.loop (cA RV 55)) (wo name t12 t13 t14 m m2 m3 m4) rX mo (jA name t12 t13 t14 m m2 m3 m4):=yA λ_=>yR _ _ _ _ _ _ _ _
end
def jJ(m:aB)(name:ai):Option (aS×Int×Bool):=
 (wo name m.Datas (m.Datas.length:Int) 0 ([]:ai) ([]:List ai) ([]:List cq) ([]:List aP)).bind λo7=>match o7 with
 |(.inl o7)=>
  some ((⟨o7.2.1,o7.2.2.1,o7.2.2.2.1,o7.2.2.2.2⟩:aS),o7.1,true)
 |(.inr o7)=>
  some ((⟨([]:ai),([]:List ai),([]:List cq),([]:List aP)⟩:aS),0,false)
theorem jw{m:aB}{name:ai}:OV 72 [.agg (aX m),.str name] (jJ m name) (λr=>.tuple [.agg (aC r.1),.int .i64 r.2.1,.bool r.2.2]) []:=TG.v<|
 te (iw m)<|tx E2<|tw (lO m)<|cO (Ot.ln m.Datas)<|t2 (λo7 bo7=>dZ (qt name m.Datas (m.Datas.length:Int) 0 ([]:ai) ([]:List ai) ([]:List cq) ([]:List aP) _ bo7)<|MI λq=>aI (vbo PVal.tuple (i7 (vp (⟨o7.2.1,o7.2.2.1,o7.2.2.2.1,o7.2.2.2.2⟩:aS)) (i7 (rP (.int .i64 o7.1)) (i7 (rP (.bool true)) (rfl:([]:List PVal)=[]))))) q.2) λo7 bo7=>dZ (qt name m.Datas (m.Datas.length:Int) 0 ([]:ai) ([]:List ai) ([]:List cq) ([]:List aP) _ bo7)<|E5 (Cz) (Cy)<|ty (lN (⟨([]:ai),([]:List ai),([]:List cq),([]:List aP)⟩:aS))<|MI λq=>aI (vbo PVal.tuple (i7 (vp (⟨([]:ai),([]:List ai),([]:List cq),([]:List aP)⟩:aS)) (i7 (rP (.int .i64 0)) (i7 (rP (.bool false)) (rfl:([]:List PVal)=[]))))) q.2
abbrev cK:=(aa->aa->Option Int)
abbrev jx(R:cK):Prop:=∀(a:aa) (a2:aa),OV 20 [.agg (ac a),.agg (ac a2)] (R a a2) (λr=>.int .i64 r) []
abbrev gp:=(aa->Option Int)
abbrev qP(R:gp):Prop:=∀(v:aa),OV 22 [.agg (ac v)] (R v) (λr=>.int .i64 r) []
noncomputable def TJ:Code:=f22.body.getD .skip
theorem S1:ZF Pg [18] 22 f22 TJ:=zf call22 func22 rfl mixed
section
variable(R23:gp)(t7:waA)(t8:Int)(n:Int)(t9:Int)
def gN:ax:=bT 19 [(3,.int .i64 n),(7,sl ac t7),(8,.int .i64 t8),(9,.int .i64 t9)] [.dead] []
def my(o:Int):ax:=bT 19 [(3,.int .i64 o)] [.dead] []
instance iS_value_Size_L1:KS 0 (gN t7 t8 n t9):=ks 1 rfl
instance iO_value_Size_L1{o:Int}:KS 0 (my o):=ks 1 rfl
def dQ:Option ((Int×Int)⊕(Int)):=
 if decide (t9<t8)=true then
  (ed t7 t9).bind λx2=>
  (R23 x2).bind λr3=>
  some (.inl (cc (n+r3),cc (t9+1)))
 else
  some (.inr n)
def wC:Option Int:=loop (λ(zz:Int×Int)=>dQ R23 t7 t8 zz.1 zz.2) (n,t9)
theorem ze(hR23:qP R23):OL 0 (cA TJ 119) (dQ R23 t7 t8 n t9) (λ(zz:Int×Int)=>gN t7 t8 zz.1 zz.2) (λ_=>.exit 0) my (gN t7 t8 n t9):=S1.lx<|
 tF (tb λx2 bx2=>tb λr3 br3=>tv (aZ.ia (k:=.i64) bx2)<|tv (al x2)<|tx vI<|tx (dz x2)<|tv (aF x2 [])<|bz (hR23 _ _ br3)<|tE)<|tE
def Ap(hR23:qP R23):=Dd (s:=(n,t9)) λzz=>ze R23 t7 t8 zz.1 zz.2 hR23
end
def kB(R23:gp)(v:aa):Option Int:=
 (wC R23 v.Kids (v.Kids.length:Int) 1 0).bind λo4=>
 some o4
theorem D0(R23:gp)(hR23:qP R23){v:aa}:OV 22 [.agg (ac v)] (kB R23 v) (λr=>.int .i64 r) []:=S1.v<|
 tb λo4 bo4=>te (bV v)<|tw (av v)<|cO (aZ.ln v.Kids)<|dZ (Ap R23 v.Kids (v.Kids.length:Int) 1 0 hR23 _ bo4)<|tE
def ng:(aa->Option Int)->(aa)->Option Int:=λ(rec:aa->Option Int) (x:aa)=>kB (λv=>rec v) x
def jK(v:aa):Option Int:=kM ng v
theorem bI{v:aa}:OV 22 [.agg (ac v)] (jK v) (λr=>.int .i64 r) []:=lY λ_ h=>
 cd (F:=ng) (M:=λ(x:aa) (r:Int)=>CC Pg GE 22 [.agg (ac x)] (.int .i64 r) []) (λrec hrec x r h=>D0 _ (λv=>lY λr h=>hrec v r h) _ h) h
noncomputable def We:Code:=f80.body.getD .skip
theorem Vb:ZF Pg [] 80 f80 We:=zf call80 func80 rfl mixed
def qi(a:Int):Option Bool:=
 some (a !=a)
theorem yo{a:Int}:OV 80 [.int .i64 a] (qi a) (λr=>.bool r) []:=Vb.v<|
 tE
noncomputable def V6:Code:=f57.body.getD .skip
theorem U3:ZF Pg [] 57 f57 V6:=zf call57 func57 rfl mixed
def jN(a:Int)(a2:Int):Option Int:=
 (qi a).bind λr1=>
 (qi a2).bind λr2=>
 if r1=true then
  if r2=true then
   some 0
  else
   some (-1)
 else if r2=true then
  some 1
 else if decide (a<a2)=true then
  some (-1)
 else if decide (a>a2)=true then
  some 1
 else
  some 0
theorem tP{a:Int}{a2:Int}:OV 57 [.int .i64 a,.int .i64 a2] (jN a a2) (λr=>.int .i64 r) []:=U3.v<|
 tb λr1 br1=>tb λr2 br2=>bz (yo _ br1)<|bz (yo _ br2)<|tF (tF tE<|tE)<|tF tE<|tF tE<|tF tE<|tE
noncomputable def Wf:Code:=f81.body.getD .skip
theorem Vc:ZF Pg [] 81 f81 Wf:=zf call81 func81 rfl mixed
def lJ(a:Int):Option Bool:=
 some (a !=a)
theorem tQ{a:Int}:OV 81 [.int .i64 a] (lJ a) (λr=>.bool r) []:=Vc.v<|
 tE
noncomputable def V7:Code:=f58.body.getD .skip
theorem U4:ZF Pg [] 58 f58 V7:=zf call58 func58 rfl mixed
def jn(a:Int)(a2:Int):Option Int:=
 (lJ a).bind λr1=>
 (lJ a2).bind λr2=>
 if r1=true then
  if r2=true then
   some 0
  else
   some (-1)
 else if r2=true then
  some 1
 else if decide (a<a2)=true then
  some (-1)
 else if decide (a>a2)=true then
  some 1
 else
  some 0
theorem zE{a:Int}{a2:Int}:OV 58 [.int .i64 a,.int .i64 a2] (jn a a2) (λr=>.int .i64 r) []:=U4.v<|
 tb λr1 br1=>tb λr2 br2=>bz (tQ _ br1)<|bz (tQ _ br2)<|tF (tF tE<|tE)<|tF tE<|tF tE<|tF tE<|tE
noncomputable def Wg:Code:=f82.body.getD .skip
theorem Vd:ZF Pg [] 82 f82 Wg:=zf call82 func82 rfl mixed
def lK(a:ai):Option Bool:=
 some (!(a==a))
theorem tR{a:ai}:OV 82 [.str a] (lK a) (λr=>.bool r) []:=Vd.v<|
 tE
noncomputable def V8:Code:=f59.body.getD .skip
theorem U5:ZF Pg [] 59 f59 V8:=zf call59 func59 rfl mixed
def jo(a:ai)(a2:ai):Option Int:=
 (lK a).bind λr1=>
 (lK a2).bind λr2=>
 if r1=true then
  if r2=true then
   some 0
  else
   some (-1)
 else if r2=true then
  some 1
 else if(Op.bytesLess a a2)=true then
  some (-1)
 else if(!(Op.bytesLess a a2||a==a2))=true then
  some 1
 else
  some 0
theorem zF{a:ai}{a2:ai}:OV 59 [.str a,.str a2] (jo a a2) (λr=>.int .i64 r) []:=U5.v<|
 tb λr1 br1=>tb λr2 br2=>bz (tR _ br1)<|bz (tR _ br2)<|tF (tF tE<|tE)<|tF tE<|tF tE<|tF tE<|tE
noncomputable def RT:Code:=f56.body.getD .skip
theorem S3:ZF Pg [15,17] 56 f56 RT:=zf call56 func56 rfl mixed
section
variable(t6:(List Int))(t7:Int)(t8:Int)
def jO:ax:=bT 18 [(3,.int .i64 0),(6,sl (cI .i64) t6),(7,.int .i64 t7),(8,.int .i64 t8)] [] []
def pd(o:Int⊕(Unit)):Exit:=match o with
 |(.inl _)=>.ret
 |(.inr _)=>.exit 0
def pe(o:Int⊕(Unit)):ax:=match o with
 |(.inl o)=>bT 18 [(2,.int .i64 o)] [] []
 |(.inr o)=>bT 18 [(3,.int .i64 0)] [] []
def eN:Option (Int⊕(Int⊕(Unit))):=
 if decide (t8<t7)=true then
  (ed t6 t8).bind λx2=>
  if(x2 !=0)=true then
   some (.inr (.inl x2))
  else
   some (.inl (cc (t8+1)))
 else
  some (.inr (.inr ()))
def uR:Option (Int⊕(Unit)):=loop (λ(zz:Int)=>eN t6 t7 zz) t8
theorem Ey:OL 0 (cA RT 119) (eN t6 t7 t8) (λ(zz:Int)=>jO t6 t7 zz) pd pe (jO t6 t7 t8):=S3.l<|
 tF (tb λx2 bx2=>tv (Gk.ia (k:=.i64) bx2)<|tv (uf VE (.int .i64 x2) [])<|tF tE<|tE)<|tE
theorem yn:OK 0 (.loop (cA RT 119)) (uR t6 t7 t8) pd pe (jO t6 t7 t8):=yA λ_=>Ey _ _ _
end
def CD(vals:(List Int)):Option Int:=
 (uR vals (vals.length:Int) 0).bind λo4=>match o4 with
 |(.inl o4)=>
  some o4
 |(.inr o4)=>
  some 0
theorem LU{vals:(List Int)}:OV 56 [sl (cI .i64) vals] (CD vals) (λr=>.int .i64 r) []:=S3.v<|
 cO (Gk.ln vals)<|t2 (λo4 bo4=>dZ (yn vals (vals.length:Int) 0 _ bo4)<|tE) λo4 bo4=>dZ (yn vals (vals.length:Int) 0 _ bo4)<|tE
noncomputable def RU:Code:=f60.body.getD .skip
theorem S4:ZF Pg [15,32] 60 f60 RU:=zf call60 func60 rfl mixed
section
variable(R22:cK)(s1:waA)(s2:waA)(t12:Int)(t13:Int)
def bZ:ax:=bT 39 [(0,sl ac s1),(1,sl ac s2),(2,.func (.func 20) [] []),(11,sl ac s1),(12,.int .i64 t12),(13,.int .i64 t13)] [] []
def ej(o:Int⊕(Unit)):Exit:=match o with
 |(.inl _)=>.ret
 |(.inr _)=>.exit 0
def dl(o:Int⊕(Unit)):ax:=match o with
 |(.inl o)=>bT 39 [(6,.int .i64 o)] [] []
 |(.inr o)=>bT 39 [(0,sl ac s1),(1,sl ac s2)] [] []
instance iS_slices_CompareFunc_L1:KS 0 (bZ s1 s2 t12 t13):=ks 0 rfl
instance iO_slices_CompareFunc_L1{o:Int⊕(Unit)}:KS 0 (dl s1 s2 o):=match o with
 |(.inl o)=>ks 0 rfl
 |(.inr o)=>ks 0 rfl
def bv:Option (Int⊕(Int⊕(Unit))):=
 if decide (t13<t12)=true then
  (ed s1 t13).bind λx2=>
  if decide (t13>=(s2.length:Int))=true then
   some (.inr (.inl 1))
  else
   (ed s2 t13).bind λx4=>
   (R22 x2 x4).bind λr5=>
   if(r5 !=0)=true then
    some (.inr (.inl r5))
   else
    some (.inl (cc (t13+1)))
 else
  some (.inr (.inr ()))
def fh:Option (Int⊕(Unit)):=loop (λ(zz:Int)=>bv R22 s1 s2 t12 zz) t13
theorem oE(hR22:jx R22):OL 0 (cA RU 55) (bv R22 s1 s2 t12 t13) (λ(zz:Int)=>bZ s1 s2 t12 zz) ej (dl s1 s2) (bZ s1 s2 t12 t13):=S4.lx<|
 tF (tb λx2 bx2=>tv (aZ.ia (k:=.i64) bx2)<|tv (al x2)<|tx vI<|tx (dz x2)<|cO (aZ.ln s2)<|tF tE<|tb λx4 bx4=>tb λr5 br5=>tv (aZ.ia (k:=.i64) bx4)<|tv (al x4)<|tx vI<|tx (dz x4)<|tv (aF x2 [])<|tv (aF x4 [])<|bz (hR22 _ _ _ br5)<|tF tE<|tE)<|tE
theorem jr(hR22:jx R22):OK 0 (.loop (cA RU 55)) (fh R22 s1 s2 t12 t13) ej (dl s1 s2) (bZ s1 s2 t12 t13):=yA λ_=>oE _ _ _ _ _ hR22
end
def eZ(R22:cK)(s1:waA)(s2:waA):Option Int:=
 (fh R22 s1 s2 (s1.length:Int) 0).bind λo7=>match o7 with
 |(.inl o7)=>
  some o7
 | (.inr o7) =>
  if decide ((s1.length:Int)<(s2.length:Int))=true then
   some (-1)
  else
   some 0
theorem sM(R22:cK)(hR22:jx R22){s1:waA}{s2:waA}:OV 60 [sl ac s1,sl ac s2,.func (.func 20) [] []] (eZ R22 s1 s2) (λr=>.int .i64 r) []:=S4.v<|
 cO (aZ.ln s1)<|t2 (λo7 bo7=>dZ (jr R22 s1 s2 (s1.length:Int) 0 hR22 _ bo7)<|tE) λo7 bo7=>dZ (jr R22 s1 s2 (s1.length:Int) 0 hR22 _ bo7)<|cO (aZ.ln s1)<|cO (aZ.ln s2)<|tF tE<|tE
noncomputable def V0:Code:=f20.body.getD .skip
theorem US:ZF Pg [30] 20 f20 V0:=zf call20 func20 rfl mixed
def gM(R22:cK)(a:aa)(a2:aa):Option Int:=
 (jK a).bind λr1=>
 (jK a2).bind λr2=>
 (jN r1 r2).bind λr3=>
 (jn a.Op a2.Op).bind λr4=>
 (jN a.N a2.N).bind λr5=>
 (jo a.Name a2.Name).bind λr6=>
 (CD ([r3,r4,r5,r6]:List Int)).bind λr7=>
 if(r7 !=0)=true then
  some r7
 else
  (eZ R22 a.Kids a2.Kids).bind λr9=>
  some r9
theorem za(R22:cK)(hR22:jx R22){a:aa}{a2:aa}:OV 20 [.agg (ac a),.agg (ac a2)] (gM R22 a a2) (λr=>.int .i64 r) []:=US.v<|
 tb λr1 br1=>tb λr2 br2=>tb λr3 br3=>tb λr4 br4=>tb λr5 br5=>tb λr6 br6=>tb λr7 br7=>te (bV a)<|te (bV a2)<|pG [0,1,0,7,15,0,32,0,128,511,0,1024,0,4096,16383,0,32768,0,131072,524287,1048575,2097151,4194303]<|tv (al a)<|bz (bI _ br1)<|tv (al a2)<|bz (bI _ br2)<|bz (tP _ br3)<|tw (aH a)<|tw (aH a2)<|bz (zE _ br4)<|tw (az a)<|tw (az a2)<|bz (tP _ br5)<|tw (aM a)<|tw (aM a2)<|bz (zF _ br6)<|tv (Gk.mk' (v:=(PVal.int .i64)) (Uw .i64) ([r3,r4,r5,r6]:List Int) 4 (by kernel_rfl))<|bz (LU _ br7)<|tF tE<|tb λr9 br9=>tw (av a)<|tw (av a2)<|bz (sM R22 hR22 _ br9)<|tE
def jC:((aa×aa)->Option Int)->(aa×aa)->Option Int:=λ(rec:(aa×aa)->Option Int) (x:aa×aa)=>gM (λa a2=>rec (a,a2)) x.1 x.2
def gZ(a:aa)(a2:aa):Option Int:=kM jC (a,a2)
theorem iY{a:aa}{a2:aa}:OV 20 [.agg (ac a),.agg (ac a2)] (gZ a a2) (λr=>.int .i64 r) []:=lY λ_ h=>
 cd (F:=jC) (M:=λ(x:aa×aa) (r:Int)=>CC Pg GE 20 [.agg (ac x.1),.agg (ac x.2)] (.int .i64 r) []) (λrec hrec x r h=>za _ (λa a2=>lY λr h=>hrec (a,a2) r h) _ h) h
noncomputable def T0:Code:=f96.body.getD .skip
theorem TH:ZF Pg [11,27,32] 96 f96 T0:=zf call96 func96 rfl mixed
section
variable(out:waA)(n:Int)
def qE:ax:=bT 33 [(3,sl ac out),(4,.int .i64 n)] [] [((3,0),36)]
def Ar(o:waA):ax:=bT 33 [(3,sl ac o)] [] [((3,0),36)]
def qF:Option ((waA×Int)⊕(waA)):=
 if decide (n<=2)=true then
  (app out ([(⟨4,n,([]:ai),([]:List aa),([]:List ai),([]:List aj),([]:List aA)⟩:aa)]:List aa)).bind λl4=>
  some (.inl (l4,cc (n+1)))
 else
  some (.inr out)
def D2:Option waA:=loop (λ(zz:waA×Int)=>qF zz.1 zz.2) (out,n)
theorem xH:OL 0 (cA T0 7671) (qF out n) (λ(zz:waA×Int)=>qE zz.1 zz.2) (λ_=>.exit 3) Ar (qE out n):=TH.l<|
 tF (tb λl4 bl4=>E5 (ls 4 n) (lq 4 n)<|tv (aZ.mk' (v:=oh) kR ([(⟨4,n,([]:ai),([]:List aa),([]:List ai),([]:List aj),([]:List aA)⟩:aa)]:List aa) 1 (by kernel_rfl))<|tv (aZ.ap bl4)<|tE)<|tE
def zj:=Dd (s:=(out,n)) λzz=>xH zz.1 zz.2
end
section
variable(out:waA)(n:Int)
def qG:ax:=bT 33 [(3,sl ac out),(5,.int .i64 n)] [] [((3,0),36)]
def As(o:waA):ax:=bT 33 [(3,sl ac o)] [] [((3,0),36)]
def qH:Option ((waA×Int)⊕(waA)):=
 if decide (n<=2)=true then
  (app out ([(⟨1,n,([]:ai),([]:List aa),([]:List ai),([]:List aj),([]:List aA)⟩:aa)]:List aa)).bind λl7=>
  some (.inl (l7,cc (n+1)))
 else
  some (.inr out)
def D3:Option waA:=loop (λ(zz:waA×Int)=>qH zz.1 zz.2) (out,n)
theorem xI:OL 0 (cA T0 7679) (qH out n) (λ(zz:waA×Int)=>qG zz.1 zz.2) (λ_=>.exit 1) As (qG out n):=TH.l<|
 tF (tb λl7 bl7=>E5 (ls 1 n) (lq 1 n)<|tv (aZ.mk' (v:=oh) kR ([(⟨1,n,([]:ai),([]:List aa),([]:List ai),([]:List aj),([]:List aA)⟩:aa)]:List aa) 1 (by kernel_rfl))<|tv (aZ.ap bl7)<|tE)<|tE
def zk:=Dd (s:=(out,n)) λzz=>xI zz.1 zz.2
end
def pK(op:Int):Option waA:=
 if(op==2)=true then
  some ([(⟨2,0,([]:ai),([]:List aa),([]:List ai),([]:List aj),([]:List aA)⟩:aa),(⟨2,1,([]:ai),([]:List aa),([]:List ai),([]:List aj),([]:List aA)⟩:aa)]:List aa)
 else if(op==3)=true then
  (D2 ([]:List aa) (-2)).bind λo5=>
  some o5
 else
  (D3 ([]:List aa) (-2)).bind λo8=>
  some o8
theorem D4{op:Int}:OV 96 [.int .i64 op] (pK op) (λr=>sl ac r) [(0,36)]:=TH.v<|
 tF (E5 (Ia 2) (H8 2)<|E5 (ls 2 1) (lq 2 1)<|tv (aZ.mk' (v:=oh) kR ([(⟨2,0,([]:ai),([]:List aa),([]:List ai),([]:List aj),([]:List aA)⟩:aa),(⟨2,1,([]:ai),([]:List aa),([]:List ai),([]:List aj),([]:List aA)⟩:aa)]:List aa) 2 (by kernel_rfl))<|tE)<|tF (tb λo5 bo5=>dZ (zj ([]:List aa) (-2) _ bo5)<|tE)<|tb λo8 bo8=>dZ (zk ([]:List aa) (-2) _ bo8)<|tE
open Go
theorem bE{n:Int}(h1: -9223372036854775808<=n)(h2:n<9223372036854775808):cc n=n:=Kx h1 h2
theorem aQ{α:Type}(l:List α)(i:Nat)(h:i<l.length):ed l (i:Int)=some l[i]:=by
 unfold ed
 rw[vaA (by omega)]
 simp[h]
theorem M9{α:Type}{l r:List α}(h:l.length+r.length<=1073741824):app l r=some (l++r):=vaA h
theorem ka{l r:ai}(h:l.length+r.length<=4611686018427387904):zC l r=some (l++r):=vaA h
theorem qj{σ X:Type}{body:σ->Option (σ⊕X)}{s s':σ}(h:body s=some (.inl s')):loop body s=loop body s':=by rw[mW,h]
theorem fS{σ X:Type}{body:σ->Option (σ⊕X)}{s:σ}{x:X}(h:body s=some (.inr x)):loop body s=some x:=by rw[mW,h]
def MC{α σ X:Type}(f:Nat->α->σ->σ⊕X)(e:σ->X):List α->Nat->σ->X
 |[],_,s=>e s
 |x::r,i,s=>match f i x s with
  |.inl s'=>MC f e r (i+1) s'
  |.inr y=>y
theorem NK{α σ τ X:Type}(l:List α)(hl:l.length<9223372036854775808)(mk:Int->σ->τ)(body:τ->Option (τ⊕X))(I:Nat->σ->Prop)(f:Nat->α->σ->σ⊕X)(e:σ->X)
  (hin:∀(i:Nat) (h:i<l.length) s,I i s->body (mk i s)=some (match f i l[i] s with|.inl s'=>.inl (mk (cc ((i:Int)+1)) s')|.inr y=>.inr y)/\∀s',f i l[i] s=.inl s'->I (i+1) s')
  (hend:∀s,I l.length s->body (mk l.length s)=some (.inr (e s))):∀(i:Nat) (s:σ),i<=l.length->I i s->loop body (mk i s)=some (MC f e (l.drop i) i s):=by
 intro i s hi hI
 obtain⟨k,hk⟩:∃k,k+i=l.length:=⟨l.length - i,by omega⟩
 induction k generalizing i s with
 |zero=>
  have:i=l.length:=by omega
  subst this
  rw[mW,hend s hI,vct]
  rfl
 | succ k ih =>
  have hlt:i<l.length:=by omega
  obtain⟨h1,h2⟩:=hin i hlt s hI
  rw[mW,h1,vaU hlt]
  unfold MC
  cases hf:f i l[i] s with
  |inl s'=>
   simp only
   rw[bE (by omega) (by omega)]
   have:=ih (i+1) s' (by omega) (h2 s' hf) (by omega)
   rw[show((i:Int)+1)=((i+1:Nat):Int) by omega]
   exact this
  |inr y=>rfl
theorem Jb{α X:Type}(p:α->Bool)(y e:X):∀(l:List α) (i:Nat),MC (λ_ x (_:Unit)=>if p x=true then Sum.inr y else .inl ()) (λ_=>e) l i ()=if l.any p=true then y else e
 |[],i=>by simp[MC]
 | x :: l,i => by
  have ih:=Jb p y e l (i+1)
  unfold MC
  by_cases h:p x=true
  ·simp[h]
  ·simp only[h,if_false,ih,List.any_cons,Bool.false_or,vbc]
theorem NJ{α X:Type}(l:List α)(hl:l.length<9223372036854775808)(body:Int->Option (Int⊕X))(p:α->Bool)(y e:X)
  (hin:∀(i:Nat) (h:i<l.length),body i=some (if p l[i]=true then .inr y else .inl (cc ((i:Int)+1)))) (hend:body l.length=some (.inr e)) (i:Nat) (hi:i<=l.length):
  loop body (i:Int)=some (if(l.drop i).any p=true then y else e):=by
 have:=NK l hl (λi (_:Unit)=>i) body (λ_ _=>True) (λ_ x _=>if p x=true then Sum.inr y else .inl ()) (λ_=>e) (λi h s _=>⟨?_,λ_ _=>trivial⟩) (λs _=>hend) i () hi vzz
 ·rw[this,Jb]
 ·rw[hin i h]
  by_cases hp:p l[i]=true<;>simp[hp]
end Go.Proofs.YtjddnhkahpfhdaaGreatDoor
