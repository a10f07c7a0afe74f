/- PROVED: a part of the proof. Conditions: none. -/
import Derived.Test.YtankopenjcbeeaaGreatDoorPkO3
import Derived.ArgAppend
import Derived.WalkKit
import Derived.RangeFuncNested
import Derived.RangeFuncCalls
import Derived.Sort.LoopGhostIn
import Derived.OrdersIn
set_option linter.unusedSimpArgs false set_option linter.defProp false
set_option linter.unusedVariables false
noncomputable section
namespace Go.Proofs.YtankopenjcbeeaaGreatDoor
open Go
open Option renaming some→O,none→N
open Go renaming TypeId→G,Value→D,Program→I,Oper→M,World→J,Code→W
open Bool renaming true→T,false→Z
open Decidable renaming decide→Y
open YtankopenjcbeeaaGreatDoor renaming PVal→U
def CN(P:I)(GE:V (Nat×V U))(f:FuncId)(a:V U)(r:U)(m:V (Nat×G))(i:V ay):Prop:=(∀b w,(callFunc f b).run P w=.ok (.enter f b) w)/\ ∀(Γ:aS)(w:J)(b:Array D),SR P ⟨GE,Γ,w,aV [] λ_=>N⟩ Γ [] (λ_=>N) w b ⟨a,[],[]⟩-> Calls P f b w λe o=>∃v h c d,e=.returned v/\SR P ⟨GE,Γ,w,aV [] λ_=>N⟩ h c d o #[v] ⟨[r],i,m.map λx=>((0,x.1),x.2)⟩
def Sd(d n:Nat)(a c:Nat->Q kg):Nat->Q kg:=λb=>match a b with|some (.tmp _ k)=>O (.tmp d k)|some (.box i k)=>O (.box (n+i) k)|none=>c b
section
variable{P:I}{E:qy}{Γ:aS}{bs:bC}{c:Nat->Q kg}{w:J}{a:Array D}{st:az}
def qhL(bs X:bC):bs.Sub (bs++X):=λi b d=>by rw[B2 (aq d)];exact d
def qhe{s n i j:Nat}(h:(List.range' s n)[i]? =O j):j=s+i/\i<n:=by have b:=aq h;rw[List.length_range']at b;rw[List.getElem?_range' b]at h;simp at h;exact⟨h.symm,b⟩
def qh2(h:SR P E Γ bs c w a st){g:FuncId}{H:V U}{r rc:U}{ro:V (Nat×G)}{a9 Hc':V ay}{vs:Array D}{d:Nat}(hd:d<a.size)(hC:CN P E.GE g H rc ro Hc')
  (hl:vs.size=H.length) (hv:∀(i:Nat) p v,H[i]? =O p->vs[i]? =O v->VR Γ bs w p v) (b2:ie 0 H) (hN:a9.length=Hc'.length)
  (hB:∀(i:Nat) B Bc,a9[i]? =O B->Hc'[i]? =O Bc->kh (List.range' st.boxes.length Hc'.length) B Bc) (hr:DG (List.range' st.boxes.length Hc'.length) r rc):
  Calls P g vs w λe w'=>∃v a0 bc X,e=.returned v/\SR P E a0 (bs++X) bc w' (a.setIfInBounds d v) ⟨st.tmps.set d r,st.boxes++a9,(ro.map λx=>((d,x.1),x.2))++bI d st.own⟩/\Γ.Le w a0 w':=by
 have b1:SR P ⟨E.GE,Γ,w,aV [] λ_=>N⟩ Γ [] (λ_=>N) w vs ⟨H,[],[]⟩:={
  wi:=h.wi
  sz:=hl
  tm:=λt p v hp bb=>(hv t p v hp bb).restrict (n:=0) (qj b2 hp) (λi b R _=>absurd R (w0 _))
  bl:=rfl
  bx:=λi b B m=>by simp at m
  inj:=λi j b m=>by simp at m
  bn:=λi b m=>by simp at m
  on:=λb L hL=>by cases hL
  ot:=λt k e he=>by simp at he
  ob:=λi j e cs own b hB=>by simp at hB
  gl:=λg cs hg=>(h.gl g cs hg).restrict (n:=0) (by simp only[PVal.cl];exact h.gc g cs hg) (λi b R _=>absurd R (w0 _))
  gc:=h.gc
  gx:=λg cs hg=>by let⟨k1,_,_,k4⟩:=h.gnow hg;exact⟨k1,λhT=>hT.elim (λy=>by let⟨i,R⟩:=y;simp at R) (λy=>y rfl),k4⟩
  step:=.refl _ _ _ _}
 refine(hC.2 Γ w vs b1).mono λe w' he=>?_
 obtain⟨v,a0,z,a7,rfl,F⟩:=he
 have hT:∀b,¬aV [] (λ_=>N) b:=λb m=>by
  rcases m with⟨i,R⟩|m;.simp at R
  .exact m rfl
 have ar:Γ.Le w a0 w':=F.step.le
 have hw:=h.world (λ_=>False) ar F.wi F.step.os F.step.tape F.step.output F.step.size (λb m _=>F.step.keep b m (hT b)) (λ_ y=>y.elim) (λ_ _ _ y=>y) (λ_ _ _ y=>y) F.step.drawn
 have ab:z.length=Hc'.length:=F.bl
 have a5:=qhL bs z
 have an:∀(i j:Nat),(List.range' st.boxes.length Hc'.length)[i]? =O j->z[i]? =(bs++z)[j]?:=λi j b3=>by obtain⟨rfl,R⟩:=qhe b3;rw[<-h.bl,Lf (vbq _ _),vbs]
 have a4:∀{i b:Nat},z[i]? =O (O b)->w.heap.size<=b:=λm=>(F.bn _ _ m).resolve_left (hT _)
 have a8:∀{i b:Nat},bs[i]? =O (O b)->b<w.heap.size:=λ{i b} m=>by
  have R:i<st.boxes.length:=by rw[<-h.bl];exact aq m
  exact(h.bx i b _ m (m3 R)).2.1
 have s:∀{i:Nat}{x:Q Nat},(bs++z)[i]? =O x->(i<bs.length/\bs[i]? =O x)\/(∃k,i=bs.length+k/\z[k]? =O x):=λ{i x} R=>by
  by_cases a6:i<bs.length;.rw[B2 a6]at R;exact .inl ⟨a6,R⟩
  .rw[Lf (by omega)]at R;exact .inr ⟨i - bs.length,by omega,R⟩
 have b0:∀{b L},c b=O L->Sd d st.boxes.length a7 c b=O L:=λ{b L} hL=>by
  have m:=(h.on b L hL).1;unfold Sd;cases hc:a7 b with
  |none=>exact hL
  |some L'=>
   have:=((F.on b L' hc).2.resolve_left (hT b))
   exact absurd m (vc5.2 this)
 have b5:VR a0 (bs++z) w' r v:=hr.from an (F.tm 0 rc v rfl rfl)
 refine⟨v,a0,Sd d st.boxes.length a7 c,z,rfl,?_,ar⟩
 have a3:st.boxes.length=bs.length:=h.bl.symm
 exact{
  wi:=F.wi
  sz:=by simp[h.sz]
  tm:=λt q u hq hu=>by
   simp only[vbP]at hq;rw[vba]at hu;by_cases ao:d=t
   .subst ao;simp only[if_true]at hq hu;split at hu
    .split at hq;.cases hu;cases hq;exact b5
     .cases hq
    .rename_i b4;exact absurd hd b4
   .simp only[ao,if_false]at hq hu;exact(hw.tm t q u hq hu).mono (.refl _ _) a5
  bl:=by simp[h.bl,hN,ab]
  bx:=λi b B m A=>by
   rcases s m with⟨a6,o⟩|⟨k,rfl,o⟩;.rw[B2 (by omega)]at A;let⟨h1,h2,h3⟩:=hw.bx i b B o A;exact⟨h1,h2,h3.mono (.refl _ _) a5 rfl⟩
   .rw[Lf (by omega),a3,vbs]at A;have hk:k<Hc'.length:=by rw[<-ab];exact aq o
    have S:Hc'[k]? =O Hc'[k]:=m3 hk;let⟨h1,h2,h3⟩:=F.bx k b _ o S;exact⟨h1,h2,(hB k B _ A S).from an h3⟩
  inj:=λi j b R hj=>by
   rcases s R with⟨_,a1⟩|⟨k,rfl,a1⟩<;>rcases s hj with⟨_,a2⟩|⟨k',rfl,a2⟩;.exact h.inj i j b a1 a2
   .exact absurd (a8 a1) (vc5.2 (a4 a2))
   .exact absurd (a8 a2) (vc5.2 (a4 a1))
   .rw[F.inj k k' b a1 a2]
  bn:=λi b m=>by
   rcases s m with⟨_,o⟩|⟨k,rfl,o⟩;.exact h.bn i b o
   .exact .inr (m0 h.step.size (a4 o))
  on:=λb L hL=>by unfold Sd at hL;cases hc:a7 b with|none=>rw[hc]at hL;exact hw.on b L hL|some L'=>let⟨k1,k2⟩:=F.on b L' hc;exact⟨k1,.inr (m0 h.step.size (k2.resolve_left (hT b)))⟩
  ot:=λt k e he=>by
   rcases vz.1 he with he|he;.simp only[l9,Prod.mk.injEq]at he;obtain⟨⟨k',e'⟩,hm,⟨rfl,rfl⟩,rfl⟩:=he;let⟨u,v',h1,h2,h3,h4⟩:=F.ot 0 k' e' (l9.2 ⟨(k',e'),hm,rfl⟩);simp at h1;subst h1;refine⟨v,v',by simp[hd],h2,h3,λb m=>?_⟩;simp only[Sd,h4 b m]
   .let⟨he,b7⟩:=ed he;let⟨u,v',h1,h2,h3,h4⟩:=hw.ot t k e he;exact⟨u,v',by rw[vaI (λe=>b7 e.symm)];exact h1,h2,h3,λb m=>b0 (h4 b m)⟩
  ob:=λi j e cs own b A hj m=>by
   rcases s m with⟨a6,o⟩|⟨k,rfl,o⟩;.rw[B2 (by omega)]at A;let⟨v',k1,k2,k3⟩:=hw.ob i j e cs own b A hj o;exact⟨v',k1,k2,λb' y=>b0 (k3 b' y)⟩
   .rw[Lf (by omega),a3,vbs]at A;have hk:k<Hc'.length:=by rw[<-ab];exact aq o
    have S:Hc'[k]? =O Hc'[k]:=m3 hk;have y:=hB k _ _ A S;cases ad:Hc'[k]with
    |cells cs' own'=>rw[ad]at y S;obtain⟨rfl,_,_⟩:=y;let⟨v',k1,k2,k3⟩:=F.ob k j e cs' own b S hj o;refine⟨v',k1,k2,λb' y=>?_⟩;simp only[Sd,k3 b' y,a3]
    |map es=>rw[ad]at y;simp[kh]at y
    |dead=>rw[ad]at y;simp[kh]at y
  gl:=λg cs hg=>(hw.gl g cs hg).mono (.refl _ _) a5
  gc:=h.gc
  gx:=h.gx
  step:=hw.step}
end
def qcf(P:I)(GE:V (Nat×V U))(o:M)(m:az->Prop)(b:az):Prop:=match o.op,o.dst with| .call { callee := .value f,args,.. },O d => ∃ (g:FuncId) (e:U) (h:V (Nat×G)) (c a:V ay) (r:U),opv GE b.tmps f = .func (.func g) [] []∧CN P GE g (args.toList.map (opv GE b.tmps)) e h a∧ie 0 (args.toList.map (opv GE b.tmps))∧c.length = a.length ∧ (∀(i:Nat) B Bc,c[i]? =O B->a[i]? =O Bc->kh (List.range' b.boxes.length a.length) B Bc)/\DG (List.range' b.boxes.length a.length) r e/\d<b.tmps.length/\ m ⟨b.tmps.set d r,b.boxes++c,(h.map λx=>((d,x.1),x.2))++bI d b.own⟩|_,_=>False
def qg5{P:I}{GE:V (Nat×V U)}{o:M}{z c:az->Prop}{st:az}(w:∀st,z st->c st)(h:qcf P GE o z st):qcf P GE o c st:=by
 unfold qcf at *;split at h;.let⟨g,x,y,b,a,r,d,e,i,m,p,q,s,t⟩:=h;exact⟨g,x,y,b,a,r,d,e,i,m,p,q,s,w _ t⟩
 .exact h
section
variable{P:I}{E:qy}{Γ:aS}{bs:bC}{b:Nat->Q kg}{w:J}{a:Act}{st:az}
theorem qd2(h:SR P E Γ bs b w a.tmps st){o:M}{id:Nat}{a4:az->Prop}(q:qcf P E.GE o a4 st)(Q:Exit->Act->J->Prop):o.wp P a w (J5 P E bs id (aD o.op) a.defers a4) Q:=by
 unfold qcf at q;split at q
 .rename_i f c a3 d ho s;let⟨g,rc,ro,a1,a0,r,hf,S,z,hN,hB,hr,hd,hK⟩:=q;have m:VR Γ bs w (opv E.GE st.tmps f) (a.eval f):=h.opv a.defers f;rw[hf]at m;generalize F:a.eval f=vf at m;cases m with|func _ _ _ fs cs hl hl' k1 k2=>
  have H:fs=#[]:=vbd (by simpa using hl);have A:cs=#[]:=vbd (by simpa using hl');subst H;subst A;have y:(execOp a.eval o).run P w=.ok (.enter g (c.map a.eval)) w:=by simp[execOp,ho,resolve,F,Deferred.ofValue,invoke,S.1]
  have L:∀(i:Nat) p v,(c.toList.map (opv E.GE st.tmps))[i]? =O p->(c.map a.eval)[i]? =O v->VR Γ bs w p v:=
   λi p v q hv=>Me (λx=>h.opv a.defers x) c.toList i p v q (by simpa using hv)
  have B:d<a.tmps.size:=by rw[h.sz];exact hd
  unfold Oper.wp;rw[y,Oper.upon_enter];refine(qh2 h B S (by simp) L z hN hB hr).mono λe w' he=>?_;obtain⟨v,R,a2,X,rfl,hS,_⟩:=he;have t:(a.put o.dst v).tmps=a.tmps.setIfInBounds d v:=by rw[s];rfl
  rw[<-t]at hS;show J5 P E bs id (aD o.op) a.defers a4 (a.put o.dst v) w';exact⟨aW _ _ _,R,_,_,_,hS,hK,.inr (.inr ⟨X,rfl⟩)⟩
 .exact q.elim
end
def nilTo(i:Nat)(a:G):U->U|.val (.pointer N)=>.nptr i a|p=>p
def qlO(P:I)(GE:V (Nat×V U))(o:M)(id:Nat)(h:az->Prop)(a:az):Prop:=match o.op,o.dst with| .box i (.tmp t),O d => ∃ (l:V U) (L:V (Nat×G)),a.tmps.getD t .undef = .agg l∧Ot l = T∧(∀ y ∈ L,((t,y.1),y.2) ∈ a.own)∧(L.map (·.1)).Nodup∧d < a.tmps.length ∧ h ⟨a.tmps.set d (.bptr id 0),a.boxes.set id (.cells (l.map (nilTo id i)) ((L.map λy=>(0+y.1,y.2)).reverse++[])),bI d (a.own.filter λx=>!L.any λy=>x.1==(t,y.1))⟩|.alloc i,O d=>∃c:V U,eR P i=O c/\d<a.tmps.length/\h ⟨a.tmps.set d (.bptr id 0),a.boxes.set id (.cells (c.map (nilTo id i)) (Tj P i)),bI d a.own⟩| .call { callee := .builtin .append,args:=⟨[.tmp t,y]⟩,argTypes:=⟨[i,T']⟩ },O d => ∃ (b:V (V U)) (s:V UInt8) (e:G) (p:U),a.tmps.getD t .undef = .slice b∧opv GE a.tmps y = .str s∧P.underlying i = O (.slice e)∧((t,0),e) ∈ a.own∧Gz P i T' b s = O p∧d < a.tmps.length ∧ h ⟨a.tmps.set d p,a.boxes,((d,0),e)::bI d (a.own.filter λx=>x.1 !=(t,0))⟩|_,_=>False
def qjx{P:I}{GE:V (Nat×V U)}{o:M}{id:Nat}{z q:az->Prop}{st:az}(m:∀st,z st->q st)(h:qlO P GE o id z st):qlO P GE o id q st:=by
 unfold qlO at *;split at h;.let⟨l,L,a,t,b,c,d,i⟩:=h;exact⟨l,L,a,t,b,c,d,m _ i⟩
 .let⟨y,a,b,c⟩:=h;exact⟨y,a,b,m _ c⟩
 .let⟨r,s,e,p,a,b,c,d,i,w,x⟩:=h;exact⟨r,s,e,p,a,b,c,d,i,w,m _ x⟩
 .exact h
section
variable{P:I}{E:qy}{Γ:aS}{bs:bC}{m:Nat->Q kg}{w:J}
def VR.nilTo{p:U}{v:D}(h:VR Γ bs w p v)(i:Nat)(a:G):VR Γ bs w (nilTo i a p) v:=by
 unfold Go.Proofs.YtankopenjcbeeaaGreatDoor.nilTo;split;.cases h;exact .nptrN i a
 .exact h
section
variable{a:Array D}{st:az}
def SR.weakBox(h:SR P E Γ bs m w a st){i:Nat}{cs:V U}{own:V (Nat×G)}(A:st.boxes[i]? =O (.cells cs own)){T:G}(hT:∀(b:Nat) c t,bs[i]? =O (O b)->w.heap[b]? =O (.cells c t (0,0))->t=T/\c.size=cs.length):SR P E Γ bs m w a {st with boxes:=st.boxes.set i (.cells (cs.map (nilTo i T)) own)}:=
 { h with
  bl:=by simp[h.bl]
  bx:=λj b B s d=>by
   by_cases x:i=j
   .subst x;rw[pi (aq A)]at d;cases d;let⟨k1,k2,c,t,R,k4,k5,k6⟩:=h.bx i b _ s A;refine⟨k1,k2,c,t,R,by simpa using k4,λq p v H hv=>?_,λq i2 X L=>?_⟩;rotate_left
    .rw[o8]at L;let⟨S,r,o⟩:=vaH.1 L;rw[va0];unfold Go.Proofs.YtankopenjcbeeaaGreatDoor.nilTo at o;split at o;.cases o;exact hT b c t s R
     .subst o;exact k6 q i2 X r
    rw[o8]at H;obtain⟨S,r,rfl⟩:=vaH.1 H;exact(k5 q S v r hv).nilTo i T
   .rw[Pi x]at d;exact h.bx j b B s d
  ob:=λj q e F z b d x s=>by
   by_cases y:i=j;.subst y;rw[pi (aq A)]at d;cases d;exact h.ob i q e cs own b A x s
   .rw[Pi y]at d;exact h.ob j q e F z b d x s}
end
variable{a:Act}{st:az}
theorem qgR(h:SR P E Γ bs m w a.tmps st){o:M}{id:Nat}(a3:aD o.op=true->bs[id]? =O N){b0:az->Prop}(hp:qlO P E.GE o id b0 st)(Q:Exit->Act->J->Prop):o.wp P a w (J5 P E bs id (aD o.op) a.defers b0) Q:=by
 unfold qlO at hp;split at hp
 .rename_i T t d F hd;let⟨l,L,ht,a7,hm,hn,a0,hK⟩:=hp;have q:=a3 (by simp[F,aD]);have ab:t<st.tmps.length:=by
   by_cases a4:t<st.tmps.length;.exact a4
   .rw[vav,vaU (vb2 a4)]at ht;cases ht
  have a9:t<a.tmps.size:=by rw[h.sz];exact ab
  have hu:a.tmps[t]? =O a.tmps[t]:=by simp[a9]
  generalize a.tmps[t]=u at hu;have A:=Bv h hu;rw[ht]at A;let⟨v,w',H,r2,r3,r4,r5⟩:=qb4 (t:=T) h q A (cs:=l) (Wc rfl a7);cases A with|agg _ vs hl hvv=>
  have x:(execOp a.eval o).run P w=.ok (.value v) w':=by simp[execOp,F,bu hu,H]
  have a1:w'=w.alloc (.cells (Value.agg vs).cells T)/\v=.pointer (O ⟨w.heap.size,0,N⟩):=by
   have:(Instr.box T (.agg vs)).run P w=.ok (.pointer (O ⟨w.heap.size,0,N⟩)) (w.alloc (.cells (Value.agg vs).cells T)):=by simp[Instr.box,newVar,newRow]
   rw[this]at H;cases H;exact⟨rfl,rfl⟩
  obtain⟨rfl,rfl⟩:=a1;unfold Oper.wp;rw[x,Oper.upon_value];have a2:(bs.set id (O w.heap.size))[id]? =O (O w.heap.size):=pi (aq q);have B:id<st.boxes.length:=by rw[<-h.bl];exact aq q
  let⟨ar,g1⟩:=SR.moveOwns (off:=0) a2 hu L r2 (pi B) hm hn λy hy=>by let⟨u',v',X,e2,_,_⟩:=h.ot t y.1 y.2 (hm y hy);rw[hu]at X;cases X;refine⟨v',e2,?_⟩;rw[s7,cell_of_row _ _ _ _ T _ (gI w _)];exact e2
  have R:=g1.weakBox (i:=id) (cs:=l) (own:=(L.map λy=>(0+y.1,y.2)).reverse++[]) (by rw[vbX];exact pi B) (T:=T) (λb c t S hc=>by
   rw[a2]at S;cases S;rw[gI]at hc;cases hc;exact⟨rfl,hl⟩)
  simp only[vbX]at R;have g3:=R.set (d:=d) r3;have r:∀v,(a.put o.dst v).tmps=a.tmps.setIfInBounds d v:=λv=>by rw[hd];rfl
  rw[<-r]at g3;exact⟨aW _ _ _,Γ,_,_,_,g3,hK,.inr (.inl ⟨by simp[F,aD],_,rfl⟩)⟩
 .rename_i T d F hd;let⟨zs,hz,a0,hK⟩:=hp;have q:=a3 (by simp[F,aD]);let⟨v,w',H,r2,r3,r4,r5⟩:=V9 (t:=T) h q hz;have x:(execOp a.eval o).run P w=.ok (.value v) w':=by simp[execOp,F,H]
  unfold Oper.wp;rw[x,Oper.upon_value];have B:id<st.boxes.length:=by rw[<-h.bl];exact aq q
  have R:=r2.weakBox (i:=id) (cs:=zs) (own:=Tj P T) (pi B) (T:=T) (λb c t S hc=>by
   let⟨z,hr,X,i,hi,ao⟩:=mR (w:=w) hz;have a1:w'=w.alloc (.cells z.cells T)/\v=.pointer (O ⟨w.heap.size,0,N⟩):=by
    have:(Instr.alloc T true (.tuple #[])).run P w=.ok (.pointer (O ⟨w.heap.size,0,N⟩)) (w.alloc (.cells z.cells T)):=by simp[Instr.alloc,hr,newVar,newRow]
    rw[this]at H;cases H;exact⟨rfl,rfl⟩
   obtain⟨rfl,rfl⟩:=a1;rw[pi (aq q)]at S;cases S;rw[gI]at hc;cases hc;exact⟨rfl,by rw[X];simp⟩)
  simp only[vbX]at R;have g3:=R.set (d:=d) r3;have r:∀v,(a.put o.dst v).tmps=a.tmps.setIfInBounds d v:=λv=>by rw[hd];rfl
  rw[<-r]at g3;exact⟨aW _ _ _,Γ,_,_,_,g3,hK,.inr (.inl ⟨by simp[F,aD],_,rfl⟩)⟩
 .rename_i t y T T' d F hd;let⟨es,s,e,p,ht,hy,hT,hm,a8,a0,hK⟩:=hp;let⟨u,v,X,e2,h3,h4⟩:=h.ot t 0 e hm;have A:=Bv h X;rw[ht]at A;have ad:v=u:=by exact(Uv e2 (λvs hx=>by subst hx;cases A) (λvs hx=>by subst hx;cases A)).symm
  subst ad;have a5:VR Γ bs w (opv E.GE st.tmps y) (a.eval y):=h.opv a.defers y;rw[hy]at a5;have hf:=h.freeT t 0;let⟨v',w',an,H,r2,r3,r4,r5,r6⟩:=qab (ty:=o.type) hf hT A a5 h3 (λb S=>⟨by simp[h4 b S],(h.on b _ (h4 b S)).2⟩) a8;have x:(execOp a.eval o).run P w=.ok (.value v') w':=by simp[execOp,F,resolve,invoke,builtin,bu X,H]
  unfold Oper.wp;rw[x,Oper.upon_value];have a6:d<a.tmps.size:=by rw[h.sz];exact a0
  have g1:=r2.set (d:=d) r4;have R:=g1.addOwn (d:=d) (k:=0) (e:=e) (u:=v') (v:=v') (by simp[a6]) r5.part r5 r6;have r:∀v,(a.put o.dst v).tmps=a.tmps.setIfInBounds d v:=λv=>by rw[hd];rfl
  rw[<-r]at R;exact⟨aW _ _ _,an,bs,_,_,R,hK,.inl rfl⟩
 .exact hp.elim
end
def qmK(P:I)(GE:V (Nat×V U))(o:M)(h:az->Prop)(a:az):Prop:=match o.op,o.dst with| .slice i (.tmp t) (O lo) N N,O d => ∃ (b:V (V U)) (e:G) (p:U),a.tmps.getD t .undef = .slice b∧P.underlying i = O (.slice e)∧xo P i (.slice b) (O (opv GE a.tmps lo)) N N = O p∧0 < P.cellsOf e ∧ (((t,0),e)∈a.own\/((t,P.cellsOf e),e)∈a.own)/\d<a.tmps.length/\h ⟨a.tmps.set d p,a.boxes,((d,P.cellsOf e),e)::bI d (a.own.filter λx=>x.1.1 !=t)⟩| .call { callee := .builtin .append,args:=⟨[.tmp t,y]⟩,argTypes:=⟨[i,T']⟩ },O d => ∃ (b c:V (V U)) (e:G) (p:U),a.tmps.getD t .undef = .slice b∧opv GE a.tmps y = .slice c∧T' = i∧P.underlying i = O (.slice e) ∧ ((t,P.cellsOf e),e)∈a.own/\ji P i b c=O p/\d<a.tmps.length/\h ⟨a.tmps.set d p,a.boxes,((d,P.cellsOf e),e)::bI d (a.own.filter λx=>x.1.1 !=t)⟩|_,_=>False
def qjR{P:I}{GE:V (Nat×V U)}{o:M}{y s:az->Prop}{st:az}(t:∀st,y st->s st)(h:qmK P GE o y st):qmK P GE o s st:=by
 unfold qmK at *;split at h;.let⟨a,e,p,b,c,d,i,m,q,r⟩:=h;exact⟨a,e,p,b,c,d,i,m,q,t _ r⟩
 .let⟨a,x,e,p,b,c,d,i,m,q,r,w⟩:=h;exact⟨a,x,e,p,b,c,d,i,m,q,r,t _ w⟩
 .exact h
section
variable{P:I}{E:qy}{Γ:aS}{bs:bC}{A:Nat->Q kg}{w:J}
def Pc{u v:D}{m:V (V U)}{k:Nat}{e:G}(z:0<k)(x:VR Γ bs w (.slice m) u)(t:eI P Γ w v e)(h:J2 u k=O v):(v=.slice N 0 0/\m=[]/\∃a,u=.slice a 0 0)\/∃b s d,0<d/\m.length<=d/\u=.slice (O ⟨b,s * k,N⟩) m.length d/\v=.slice (O ⟨b,0,N⟩) (m.length+s) (d+s):=by
 have r:∀{a:Addr}{n c:Nat},v=.slice (O a) n c->a.spot=N:=λ{a n c} hv=>by
  let⟨B,F,⟨_,i⟩,_⟩:=t;rcases i with⟨i,_⟩|⟨g,c',cur,i,_⟩;.rw[hv]at i;cases i
  .rw[hv]at i;cases i;rfl
 unfold J2 at h;cases x with
 |sliceNil=>cases h;exact .inl ⟨rfl,rfl,_,rfl⟩
 | sliceE a d =>
  let⟨b,o,y⟩:=a;simp only at h;split at h;.rename_i q;cases h;subst q;exact .inl ⟨rfl,rfl,_,rfl⟩
  .split at h;.rename_i q i;cases h;have:y=N:=r rfl;subst this;refine .inr ⟨b,o / k,d,by omega,s5 _,?_,rfl⟩;rw[vc2 (vcI i)];rfl
   .cases h
 | slice m b o d n sz vals q hcap hg hn hsz hc hv =>
  simp only at h;split at h;.rename_i p;cases h;have:m=[]:=IO (by omega);subst this;subst p;exact .inl ⟨rfl,rfl,_,rfl⟩
  .split at h;.rename_i p i;cases h;refine .inr ⟨b,o / k,d,by omega,hcap,?_,rfl⟩;rw[vc2 (vcI i)]
   .cases h
def qaD{b s n cap k:Nat}(a:0<k)(c:0<cap):J2 (.slice (O ⟨b,s * k,N⟩) n cap) k=O (.slice (O ⟨b,0,N⟩) (n+s) (cap+s)):=by unfold J2;simp only;rw[hG (by omega),l7 (Nat.mul_mod_left s k),Nat.mul_div_cancel _ a]
def eI.sh{v:D}{e:G}{k:Nat}(p:0<k)(q:eI P Γ w v e):∃v0,J2 v k=O v0/\eI P Γ w v0 e/\(v0=v\/v0=.slice N 0 0):=by
 have a:eI P Γ w (.slice N 0 0) e:=⟨0,[],⟨by simp,.inl ⟨rfl,rfl⟩⟩,λb m=>by cases m⟩
 let⟨c,r,⟨d,h⟩,i⟩:=q;rcases h with⟨rfl,rfl⟩|⟨g,c',cur,rfl,h3⟩;.exact⟨_,rfl,a,.inr rfl⟩
 .by_cases o:c'=0;.subst o;exact⟨_,rfl,a,.inr rfl⟩
  .refine⟨.slice (O ⟨g,0,N⟩) c c',?_,⟨c,r,⟨d,.inr ⟨g,c',cur,rfl,h3⟩⟩,i⟩,.inl rfl⟩;have:=qaD (b:=g) (s:=0) (n:=c) (cap:=c') p (by omega);simpa using this
def qkb{a1 e:G}{es:V (V U)}{lo p:U}{vlo u v:D}(z:P.underlying a1=O (.slice e))(hk:0<P.cellsOf e)(hu:VR Γ bs w (.slice es) u)(R:VR Γ bs w lo vlo)(h:xo P a1 (.slice es) (O lo) N N=O p)
  (hv:J2 u (P.cellsOf e)=O v) (ho:eI P Γ w v e):∃y v',(Instr.sliceAt a1 u (O vlo) N N).run P w=.ok y w/\VR Γ bs w p y/\J2 y (P.cellsOf e)=O v'/\eI P Γ w v' e/\∀b,v'.ownBlock=O b->v.ownBlock=O b:=by
 have r:∀q,O lo=O q->∃v,O vlo=O v/\VR Γ bs w q v:=λq S=>by cases S;exact⟨vlo,rfl,R⟩
 have o:∀q,(N:Q U)=O q->∃v,(N:Q D)=O v/\VR Γ bs w q v:=λq S=>by cases S
 let⟨y,x,r2⟩:=Ws (vlo:=O vlo) (vhi:=N) hu r (λh=>by cases h) o (λ_=>rfl) h
 have m:eI P Γ w (.slice N 0 0) e:=⟨0,[],⟨by simp,.inl ⟨rfl,rfl⟩⟩,λb d=>by cases d⟩
 unfold xo at h
 rw[z]at h
 simp only at h
 split at h
 rotate_left
 .cases h
 rename_i l hh hl i
 have H:hh=es.length:=by simp only[Sq]at i;cases i;rfl
 subst H
 split at h
 rotate_left
 .cases h
 rename_i hc
 let⟨t,_,c,_⟩:=hc
 let⟨a0,c⟩:=vaS.1 c
 rcases Pc hk hu ho hv with⟨rfl,rfl,a,rfl⟩|⟨b,s,cap,hcap,hec,rfl,rfl⟩
 .have L:l=0:=by simpa using t
  subst L
  have d:=iR (P:=P) (w:=w) (isSlice:=T) (cap:=0) hl i r (λh=>by cases h) o (λ_=>rfl) (l8 _) (l8 _) (l8 _)
  have B:(Instr.sliceBounds T 0 0 (O vlo) N N).run P w=.ok (0,0,0) w:=d
  have:(Instr.sliceAt a1 (.slice a 0 0) (O vlo) N N).run P w=.ok (.slice a 0 0) w:=by cases a<;>simp[Instr.sliceAt,Instr.slice,run_underlying z,B,run_sizeOf w c]
  rw[this]at x;cases x
  exact⟨_,.slice N 0 0,this,r2,by cases a<;>rfl,m,λb d=>by cases d⟩
 .have d:=iR (P:=P) (w:=w) (isSlice:=T) (cap:=cap) hl i r (λh=>by cases h) o (λ_=>rfl) t (l8 _) hec
  have X:(Instr.sliceAt a1 (.slice (O ⟨b,s * P.cellsOf e,N⟩) es.length cap) (O vlo) N N).run P w=.ok (.slice (O ⟨b,if cap=l then s * P.cellsOf e else s * P.cellsOf e+l * P.cellsOf e,N⟩) (es.length - l) (cap - l)) w:=by simp[Instr.sliceAt,Instr.slice,run_underlying z,d,run_sizeOf w c,Addr.add_lit];split<;>simp
  rw[X]at x;cases x
  by_cases F:cap=l
  .refine⟨_,.slice N 0 0,X,r2,?_,m,λb d=>by cases d⟩
   unfold J2
   simp only
   rw[l7 (by omega)]
  .refine⟨_,.slice (O ⟨b,0,N⟩) (es.length+s) (cap+s),X,r2,?_,ho,λb d=>d⟩
   rw[hG F,<-vbg,qaD hk (by omega)]
   congr 2<;>omega
def OQ(w:J){t ty e:G}{i:TypeInfo}(L:P.underlying t=O (.slice e))(F:P.info? e=O i)(g h d p:Nat)(o:Array D)(B:w.heap[g]? =O (.cells o e (0,0)))
  (a:Addr) (m c:Nat) (b:V D) (H:b.length=m * i.size) (q:∀j u,b[j]? =O u->w.cell? (a.add j)=O u) (y:∀u∈b,u.oneCell'=T) (r:d+m<=p) (s:h+d * i.size+b.length<=o.size):
  (Builtin.append_ #[t,t] ty #[.slice (O ⟨g,h,N⟩) d p,.slice (O a) m c]).run P w=
   .ok (.slice (O ⟨g,h,N⟩) (d+m) p) (w.setRow g (o.toList.take (h+d * i.size)++b++o.toList.drop (h+d * i.size+b.length)).toArray):=by
 have z:=run_firstCells_some (P:=P) w i.size m a m c b H q
 have x:=run_storeCells_at P g (h+d * i.size) e b 0 o w B (by simpa using s) y
 simp only[Nat.add_zero]at x
 simp[Builtin.append_,run_underlying L,sizeOf,typeInfo,F,Builtin.lenOf,r,z,Addr.add_lit,x]
def VR.behind{es0 o:V (V U)}{b s n e k:Nat}(hk:0<k)(R:es0.length=s)(B:o.length=n)(H:∀x∈o,x.length=k)(h:VR Γ bs w (.slice (es0++o)) (.slice (O ⟨b,0,none⟩) (n+s) (e+s)))(L:n<=e):VR Γ bs w (.slice o) (.slice (O ⟨b,s * k,none⟩) n e):=by
 by_cases z:o=[]
 .subst z;simp at B;subst B;exact .sliceE _ _
 subst B;generalize t:es0++o=X at h;generalize S:o.length+s=N at h;cases h with
 |sliceE a c=>simp at t;exact absurd t.2 z
 | slice X b off cap' n sz vals h0 hcap hg hn hsz' hc' hv =>
  subst t;obtain⟨x,m,rfl⟩:=vck z;have d:∀(i:Nat) y,(x::m)[i]? =O y->(es0++x::m)[s+i]? =O y:=λi y p=>by rw[Lf (by omega),show s+i - es0.length=i by omega];exact p
  have:sz=k:=by rw[<-hsz' _ _ (d 0 x rfl)];exact H x (by simp)
  subst this;refine .slice _ b (s * sz) e n sz (λi q=>vals (s+i) q) h0 L hg ?_ (λi y p=>hsz' _ _ (d i y p)) (λi y q r p F=>?_) (λi y q r p F=>hv _ _ _ _ (d i y p) F)
  .have:(es0++x::m).length=s+(x::m).length:=by simp[R]
   rw[this,vbg]at hn;omega
  .have:=hc' _ _ _ _ (d i y p) F;rw[<-this,vbg];congr 2;omega
def VR.ahead{r:V (V U)}{b s n m k:Nat}{e:G}{cur:Array D}(hk:0<k)(hl:r.length=n)(S:w.heap[b]? =O (.cells cur e (0,0)))(t:cur.size=(m+s) * k)(X:Γ b=O ((n+s) * k))(hc:n<=m)(z:∀x∈r,x.length=k)
  (h:VR Γ bs w (.slice r) (.slice (O ⟨b,s * k,N⟩) n m)):VR Γ bs w (.slice (List.replicate s (List.replicate k .undef)++r)) (.slice (O ⟨b,0,N⟩) (n+s) (m+s)):=by
 have R:(List.replicate s (List.replicate k PVal.undef)++r).length=n+s:=by simp[hl];omega
 rw[<-R]
 have B:(n+s) * k<=cur.size:=by rw[t];exact vbe _ (by omega)
 have y:∀(i:Nat) x (q:Nat) p,r[i]? =O x->x[q]? =O p->∃u,cur[(s+i) * k+q]? =O u/\VR Γ bs w p u:=by
  intro i x q p d o;subst hl;cases h with
  |sliceE a c=>simp at d
  |slice r b off cap' n sz vals h0 hcap X hn hsz' hc' hv=>
   have:sz=k:=by rw[<-hsz' _ _ d];exact z x (vaD d)
   subst this;refine⟨_,?_,hv i x q p d o⟩;have:=hc' i x q p d o;rw[cell_of_row w b _ cur e _ S]at this;rw[<-this,vbg]
 refine Bp S X (by rw[R];exact l8 _) hk (by omega) (λi x d=>?_) (λi x q p d o=>?_)
 .rcases vz.1 (vaD d)with H|H
  .rw[vcw H];simp
  .exact z x H
 .by_cases hi:i<s
  .rw[B2 (by simpa using hi),vaW,l7 hi]at d
   cases d
   rw[vaW]at o
   split at o
   .cases o
    rename_i L
    have F:i * k+q<cur.size:=R3 (RB (show i<n+s by omega) L) B
    exact⟨_,vaM F,.undef _⟩
   .cases o
  .rw[Lf (by simp;omega)]at d
   have:=y (i - s) x q p (by simpa using d) o
   rwa[show s+(i - s)=i by omega]at this
section
variable{a:Array D}{st:az}
def qfG(h:SR P E Γ bs A w a st){t ty e:G}{es ns:V (V U)}{p:U}{u v x:D}(hT:P.underlying t=O (.slice e))(hu:VR Γ bs w (.slice es) u)(m:VR Γ bs w (.slice ns) x)
  (hv:J2 u (P.cellsOf e)=O v) (ho:eI P Γ w v e) (a2:∀b,v.ownBlock=O b->A b=N/\(E.T b\/E.w.heap.size<=b)) (hp:ji P t es ns=O p):
  ∃R w' d v',(Builtin.append_ #[t,t] ty #[u,x]).run P w=.ok R w'/\SR P E d bs A w' a st/\Γ.Le w d w'/\VR d bs w' p R/\J2 R (P.cellsOf e)=O v'/\eI P d w' v' e/\
   ∀b,v'.ownBlock=O b->A b=N/\(E.T b\/E.w.heap.size<=b):=by
 have c6:=hp
 unfold ji at hp
 rw[hT]at hp
 simp only at hp
 split at hp
 case isFalse=>cases hp
 rename_i hh
 let⟨ad,bn,o,b3,H,S⟩:=hh
 cases hp
 have hz:∃zs,eR P e=O zs/\zs.length=P.cellsOf e:=by simpa using b3
 let⟨zs,hz,b3⟩:=hz
 obtain⟨z,hr,rfl,i,hi,c9⟩:=mR (w:=w) hz
 have cd:z.cells.size=P.cellsOf e:=by simpa using b3
 have L:i.size=P.cellsOf e:=by simp[Program.cellsOf,hi]
 have bb:i.bytes=P.bytesOf e:=by simp[Program.bytesOf,hi]
 have an:es.length+ns.length<=maxLen:=by unfold maxLen;unfold bO at ad;omega
 have a7:(es.length+ns.length) * i.bytes<=140737488355328:=by rw[bb];have:(es.length+ns.length) * P.bytesOf e<=1073741824 * 65536:=vct (by unfold bO at ad;omega) bn;omega
 have bc:eI P Γ w (.slice N 0 0) e:=⟨0,[],⟨by simp,.inl ⟨rfl,rfl⟩⟩,λb X=>by cases X⟩
 let⟨news,c4,a0,c3,be⟩:=Ql m o S
 generalize F:P.cellsOf e=k at *
 have ab:∀(base xa:Addr)(cap c:Nat)(r:V D),x=.slice (O xa) ns.length c->(∀(j:Nat) u,news[j]? =O u->w.cell? (xa.add j)=O u)->cap<es.length+ns.length->r.length=es.length * k->(∀(j:Nat) u,r[j]? =O u->w.cell? (base.add j)=O u)->
   (∀(i:Nat) x (q:Nat) p,es[i]? =O x->x[q]? =O p->∃u,r[i * k+q]? =O u/\VR Γ bs w p u)->
   ∃R w' d v',(Builtin.append_ #[t,t] ty #[.slice (O base) es.length cap,x]).run P w=.ok R w'/\SR P E d bs A w' a st/\Γ.Le w d w'/\VR d bs w' (.slice (es++ns)) R/\J2 R k=O v'/\eI P d w' v' e/\∀b,v'.ownBlock=O b->A b=N/\(E.T b\/E.w.heap.size<=b):=by
  intro base xa cap c r a1 y bq a3 bi c5
  subst a1
  have hr:=run_append_grow (P:=P) w t ty e i z hT hi c9 base es.length cap r (by rw[a3,L]) bi xa ns.length c news (by rw[a0,L]) y bq (by simp only[maxLen]at an;omega) (growslice_fits (by omega) a7)
  have g1:=grownCap_ge w (es.length+ns.length) cap e
  have g2:=grownCap_le_maxLen w (es.length+ns.length) cap e an
  have b1:(es++ns).length=es.length+ns.length:=oo
  let⟨d,q1,q2,q3,q4,q5⟩:=HJ h (e:=e) (es:=[]) (ns:=es++ns) (v:=.slice N 0 0) .sliceNil (by rw[F];exact o) (λx m=>by cases m) (λx m=>by rw[F];exact(vz.1 m).elim (H x) λm=>(S x m).1) (n:=0) (xs:=[]) ⟨by simp,.inl ⟨rfl,rfl⟩⟩ (λb X=>by cases X) (λb X=>by cases X)
   (news:=r++news) (by rw[oo,a3,a0,b1,F,vbg]) (λi x q p m hq=>by
    rw[F];by_cases c0:i<es.length;.rw[B2 c0]at m;let⟨u,k1,k2⟩:=c5 i x q p m hq;exact⟨u,by rw[B2 (aq k1)];exact k1,k2⟩
    .rw[Lf (by omega)]at m;let⟨u,k1,k2⟩:=be _ x q p m hq;refine⟨u,?_,k2⟩;have:i * k+q=r.length+((i - es.length) * k+q):=by rw[a3,<-vcB,<-vbg];congr 2;omega
     rw[this,Lf (by omega),vbs];exact k1)
   (v':=.slice (O ⟨w.heap.size,0,N⟩) (es.length+ns.length) (grownCap w (es.length+ns.length) cap e)) (.inr (.inr ⟨grownCap w (es.length+ns.length) cap e,(Builtin.zeroCells z.cells (grownCap w (es.length+ns.length) cap e - (es.length+ns.length))).toList,by rw[b1,s7];exact g1,g2,by simp[size_zeroCells,cd,F],by rw[b1,s7],rfl⟩))
  have hw:(r.toArray++news.toArray++Builtin.zeroCells z.cells (grownCap w (es.length+ns.length) cap e - (es.length+ns.length)))=([]++(r++news)++(Builtin.zeroCells z.cells (grownCap w (es.length+ns.length) cap e - (es.length+ns.length))).toList).toArray:=by apply vb0;simp
  rw[hw]at hr
  let⟨v0,e1,e2,e3⟩:=q4.sh (k:=k) o
  refine⟨_,_,d,v0,hr,q1,q2,q3,e1,e2,λb X=>?_⟩
  rcases e3 with rfl|rfl
  .exact q5 b X
  .cases X
 have ar:∀{R:D},R=u->ns=[]->(Builtin.append_ #[t,t] ty #[u,x]).run P w=.ok R w->∃R w' d v',(Builtin.append_ #[t,t] ty #[u,x]).run P w=.ok R w'/\SR P E d bs A w' a st/\Γ.Le w d w'/\VR d bs w' (.slice (es++ns)) R/\J2 R k=O v'/\eI P d w' v' e/\∀b,v'.ownBlock=O b->A b=N/\(E.T b\/E.w.heap.size<=b):=by intro R e1 e2 bl;subst e1;subst e2;exact⟨_,w,Γ,v,bl,h,.refl _ _,by simpa using hu,hv,ho,a2⟩
 have b4:∀{ao:Q Addr}{n cap:Nat},u=.slice ao n cap->n<=cap:=λ{ao n cap} b2=>by subst b2;cases hu<;>first|exact s5 _|assumption
 rcases c4 with⟨rfl,c2⟩|⟨xa,c,a1,y⟩
 .have a9:ns=[]:=IO c2
  refine ar rfl a9 ?_
  rcases Pc o hu ho hv with⟨_,_,ao,rfl⟩|⟨b,s,cap,hcap,hec,rfl,_⟩
  .cases ao<;>simp[Builtin.append_,run_underlying hT,sizeOf,typeInfo,hi,Builtin.lenOf,Builtin.firstCells,storeCells]
  .simp[Builtin.append_,run_underlying hT,sizeOf,typeInfo,hi,Builtin.lenOf,Builtin.firstCells,hec,storeCells]
 rcases Pc o hu ho hv with⟨rfl,rfl,ao,rfl⟩|⟨b,s,cap,hcap,hec,rfl,rfl⟩
 .cases ao with
  | none =>
   subst F
   let⟨v',w',d,r1,r2,r3,r4,r5,r6⟩:=Tf (ty:=ty) h hT hu m bc (λb X=>by cases X) c6
   let⟨v0,e1,e2,e3⟩:=r5.sh o
   refine⟨v',w',d,v0,r1,r2,r3,r4,e1,e2,λb X=>?_⟩
   rcases e3 with rfl|rfl
   .exact r6 b X
   .cases X
  | some base =>
   by_cases hm:ns.length=0
   .have a9:ns=[]:=IO hm
    refine ar rfl a9 ?_
    subst a9
    have:news=[]:=IO (by simpa using a0)
    subst a1
    simp[Builtin.append_,run_underlying hT,sizeOf,typeInfo,hi,Builtin.lenOf,Builtin.firstCells,loadCells,loadCellsFrom,storeCells]
   .exact ab base xa 0 c [] a1 y (by simp;omega) (by simp) (by simp) (by simp)
 .let⟨n',xs,B,b7⟩:=ho
  have c1:n'=es.length+s:=by
   rcases B.2 with⟨h1,_⟩|⟨g,c',cur,h1,_⟩;.cases h1
   .cases h1;rfl
  subst c1
  obtain⟨cur,hg,b0,br,a5⟩:∃cur,w.heap[b]? =O (.cells cur e (0,0))/\cur.size=(cap+s) * k/\cap+s<=maxLen/\cur.toList.take ((es.length+s) * k)=xs:=by
   rw[F]at B;rcases B.2 with⟨h1,_⟩|⟨g,c',cur,h1,_,h2,h3,h4,h5,h6⟩;.cases h1
   .cases h1;exact⟨cur,h2,h5,h4,h6⟩
  have bt:Γ b=O ((es.length+s) * k):=by rw[<-F];exact b7 b rfl
  have a6:=VR.ahead o rfl hg b0 bt hec H hu
  by_cases a4:es.length+ns.length<=cap
  .have b5:s * k+es.length * i.size+news.length<=cur.size:=by
    rw[L,a0,b0,<-vbg,<-vbg];exact vbe _ (by omega)
   subst a1
   have hr:=OQ (P:=P) w (ty:=ty) hT hi b (s * k) es.length cap cur hg xa ns.length c news (by rw[a0,L]) y c3 a4 b5
   have bg:s * k+es.length * i.size=(es.length+s) * k:=by rw[L,<-vbg,vc7]
   rw[bg]at hr
   have c8:∀x∈List.replicate s (List.replicate k PVal.undef)++es,x.length=P.cellsOf e:=λx m=>by
    rw[F];rcases vz.1 m with m|m;.rw[vcw m];simp
    .exact H x m
   let⟨d,q1,q2,q3,q4,q5⟩:=HJ h (e:=e) (ns:=ns) a6 (by rw[F];exact o) c8 (λx m=>by rw[F];exact(S x m).1) B b7 a2 (news:=news) (by rw[F];exact a0) (by rw[F];exact be)
    (v':=.slice (O ⟨b,0,N⟩) (es.length+s+ns.length) (cap+s)) (w':=w.setRow b (cur.toList.take ((es.length+s) * k)++news++cur.toList.drop ((es.length+s) * k+news.length)).toArray)
    (.inr (.inl ⟨b,cap+s,cur,rfl,hg,by rw[F];exact b0,br,by rw[F];exact a5,by omega,rfl,by rw[F]⟩))
   refine⟨_,_,d,_,hr,q1,q2,?_,qaD o hcap,?_,?_⟩
   .refine VR.behind (es0:=List.replicate s (List.replicate k PVal.undef)) o (by simp) (by simp) (λx m=>(vz.1 m).elim (H x) λm=>(S x m).1) ?_ a4
    rw[<-va6,show es.length+ns.length+s=es.length+s+ns.length by omega]
    exact q3
   .rw[show es.length+ns.length+s=es.length+s+ns.length by omega];exact q4
   .rw[show es.length+ns.length+s=es.length+s+ns.length by omega];exact q5
  .have a3:(xs.drop (s * k)).length=es.length * k:=by
    rw[vbC,B.1,F,vbg];omega
   have bm:∀(j:Nat) u,xs[j]? =O u->w.cell? ⟨b,j,N⟩=O u:=λj u a8=>by
    rw[cell_of_row w b j cur e _ hg];rw[<-a5]at a8;have hj:j<(es.length+s) * k:=by have:=aq a8;simp at this;omega
    rw[vay hj]at a8;simpa using a8
   refine ab ⟨b,s * k,N⟩ xa cap c (xs.drop (s * k)) a1 y (by omega) a3 (λj u hj=>?_) (λi x q p m hq=>?_)
   .rw[vbo]at hj
    have:=bm _ _ hj
    rw[Addr.add_lit];exact this
   .generalize b2:Value.slice (O ⟨b,s * k,N⟩) es.length cap=ci at hu
    cases hu with
    |sliceNil=>simp at m
    |sliceE a c=>simp at m
    |slice es b off cap' n sz vals h0 hcap' hg' hn hsz' hc' hv'=>
     cases b2
     have:sz=k:=by rw[<-hsz' _ _ m];exact H x (vaD m)
     subst this
     refine⟨vals i q,?_,hv' i x q p m hq⟩
     have h1:=hc' i x q p m hq
     have c7:q<sz:=by have:=aq hq;rw[hsz' _ _ m]at this;exact this
     have cg:=RB (aq m) c7
     rw[vbo]
     have h2:s * sz+(i * sz+q)<xs.length:=by rw[B.1,F,vbg];omega
     obtain⟨uu,h3⟩:∃uu,xs[s * sz+(i * sz+q)]? =O uu:=⟨_,m3 h2⟩
     have h4:=bm _ _ h3
     rw[<-vcB,h1]at h4
     rw[h3,h4]
end
section
variable{a:Act}{st:az}
def qfo{u v:D}{m:V (V U)}{e:G}(s:VR Γ bs w (.slice m) u)(r:0<P.cellsOf e)(d:eI P Γ w v e)(h:jz u 0=O v\/jz u (P.cellsOf e)=O v):∃v0,J2 u (P.cellsOf e)=O v0/\eI P Γ w v0 e/\∀b,v0.ownBlock=O b->v.ownBlock=O b:=by
 have i:∀k,jz u k=if k=0 then O u else J2 u k:=λk=>by cases s<;>rfl
 rcases h with h|h
 .rw[i,l7 rfl]at h;cases h;let⟨v0,o,p,q⟩:=d.sh r;refine⟨v0,o,p,λb c=>?_⟩;rcases q with rfl|rfl;.exact c
  .cases c
 .rw[i,hG (by omega)]at h;exact⟨v,h,d,λb c=>c⟩
def qfa{u v:D}{k:Nat}{p:U}{c:V (V U)}(b:p=.slice c)(d:VR Γ bs w p u)(e:0<k)(h:J2 u k=O v):jz u k=O v:=by
 subst b;have b:jz u k=if k=0 then O u else J2 u k:=by cases d<;>rfl
 rw[b,hG (by omega)];exact h
def SR.freeS(h:SR P E Γ bs A w a.tmps st)(t:Nat):SR P E Γ bs (λb=>match A b with|some (.tmp d k)=>if d=t then N else O (.tmp d k)|x=>x) w a.tmps {st with own:=st.own.filter λx=>x.1.1 !=t}:=by
 have p:=h.less (own:=st.own.filter λx=>x.1.1 !=t) (λx s=>(bR s).1);refine p.ow_drop (λb L c=>?_) (λd F e r b m=>?_) (λi j e y own z B b m=>?_)
 .split at c
  .split at c;.cases c
   .rename_i q _;rw[q];exact c
  .exact c
 .have:=(bR r).2;have o:d≠t:=by simpa using this
  rw[m];simp[o]
 .rw[m]
def SR.shiftOwn{a:Array D}(h:SR P E Γ bs A w a st){t k:Nat}{e:G}{y:V (V U)}(B:0<k)(F:((t,0),e)∈st.own)(H:st.tmps.getD t .undef=.slice y):∃m,SR P E Γ bs m w a {st with own:=((t,k),e)::st.own.filter λx=>x.1 !=(t,0)}:=by
 let⟨u,v,o,p,z,q⟩:=h.ot t 0 e F;have d:=Bv (a:=⟨a,[]⟩) h o;rw[H]at d;have s:∀k,jz u k=if k=0 then O u else J2 u k:=λk=>by cases d<;>rfl
 rw[s,l7 rfl]at p;cases p;let⟨v0,L,R,S⟩:=z.sh B;have i:jz u k=O v0:=by rw[s,hG (by omega)];exact L
 refine⟨_,(h.freeT t 0).addOwn o i R λb r=>?_⟩;have c:u.ownBlock=O b:=by
  rcases S with rfl|rfl;.exact r
  .cases r
 exact⟨by simp[q b c],(h.on b _ (q b c)).2⟩
theorem qg7(h:SR P E Γ bs A w a.tmps st){o:M}{id:Nat}{a4:az->Prop}(X:qmK P E.GE o a4 st)(Q:Exit->Act->J->Prop):o.wp P a w (J5 P E bs id (aD o.op) a.defers a4) Q:=by
 unfold qmK at X;split at X
 .rename_i a5 t lo d ho hd;let⟨es,e,p,ht,B,i,F,S,s,hK⟩:=X;obtain⟨kk,a1,S⟩:∃kk,(kk=0\/kk=P.cellsOf e)/\((t,kk),e)∈st.own:=S.elim (λh=>⟨_,.inl rfl,h⟩) λh=>⟨_,.inr rfl,h⟩
  let⟨u,v,H,e2,h3,h4⟩:=h.ot t kk e S;have m:=Bv h H;rw[ht]at m;let⟨v0,k1,k2,k3⟩:=qfo m F h3 (by rcases a1 with rfl|rfl;exact .inl e2;exact .inr e2);have a2:VR Γ bs w (opv E.GE st.tmps lo) (a.eval lo):=h.opv a.defers lo;let⟨u',v',r1,r2,r3,r4,r5⟩:=qkb B F m a2 i k1 k2;have r:(execOp a.eval o).run P w=.ok (.value u') w:=by simp[execOp,ho,bu H,r1]
  unfold Oper.wp;rw[r,Oper.upon_value];have x:d<a.tmps.size:=by rw[h.sz];exact s
  have z:∃es',p=.slice es':=by
   unfold xo at i;rw[B]at i;simp only at i;split at i
   .split at i;.cases i;exact⟨_,rfl⟩
    .cases i
   .cases i
  obtain⟨es',rfl⟩:=z;have g0:=h.freeS t;have g1:=g0.set (d:=d) r2
  have L:=g1.addOwn (d:=d) (k:=P.cellsOf e) (e:=e) (u:=u') (v:=v') (by simp[x]) (qfa rfl r2 F r3) r4 (λb hb=>by
   have R:=h4 b (k3 b (r5 b hb));exact⟨by simp[R],(h.on b _ R).2⟩)
  have q:∀v,(a.put o.dst v).tmps=a.tmps.setIfInBounds d v:=λv=>by rw[hd];rfl
  rw[<-q]at L;exact⟨aW _ _ _,Γ,bs,_,_,L,hK,.inl rfl⟩
 .rename_i t y a5 T' d ho hd;obtain⟨es,ns,e,p,ht,hy,rfl,B,S,c,s,hK⟩:=X;have F:0<P.cellsOf e:=by
   unfold ji at c;rw[B]at c;simp only at c;split at c;.rename_i hh;exact hh.2.2.1
   .cases c
  let⟨u,v,H,e2,h3,h4⟩:=h.ot t _ e S;have m:=Bv h H;rw[ht]at m;let⟨v0,k1,k2,k3⟩:=qfo m F h3 (.inr e2);have a0:VR Γ bs w (opv E.GE st.tmps y) (a.eval y):=h.opv a.defers y;rw[hy]at a0;have g0:=h.freeS t
  let⟨u',w',a3,v',r1,r2,r3,r4,r5,r6,r7⟩:=qfG (ty:=o.type) g0 B m a0 k1 k2 (λb hb=>by
   have R:=h4 b (k3 b hb);exact⟨by simp[R],(h.on b _ R).2⟩) c
  have r:(execOp a.eval o).run P w=.ok (.value u') w':=by simp[execOp,ho,resolve,invoke,builtin,bu H,r1]
  unfold Oper.wp;rw[r,Oper.upon_value];have x:d<a.tmps.size:=by rw[h.sz];exact s
  have z:∃es',p=.slice es':=by
   unfold ji at c;rw[B]at c;simp only at c;split at c;.cases c;exact⟨_,rfl⟩
   .cases c
  obtain⟨es',rfl⟩:=z;have g1:=r2.set (d:=d) r4;have L:=g1.addOwn (d:=d) (k:=P.cellsOf e) (e:=e) (u:=u') (v:=v') (by simp[x]) (qfa rfl r4 F r5) r6 r7;have q:∀v,(a.put o.dst v).tmps=a.tmps.setIfInBounds d v:=λv=>by rw[hd];rfl
  rw[<-q]at L;exact⟨aW _ _ _,a3,bs,_,_,L,hK,.inl rfl⟩
 .exact X.elim
end
end
abbrev fe:D:=.slice N 0 0
def qnc(v:D):U:=if pw v then .val fe else absC v
def qjW(P:I)(t:G):Q (V U):=((P.info? t).bind (·.zero)).map λz=>z.cells.toList.map qnc
def qac(P:I)(t:G)(a:V (Nat×U)):Q (V U):=match P.underlying t,qjW P t with|some (.struct fs),O zs=>if fs.all (λf=>(P.info? f.type).isSome)then We (λi=>(fs[i]?).map λf=>(f.offset,P.cellsOf f.type)) zs a else N|_,_=>N
def qdK(a:List U):List (Nat×G)->Prop|[]=>True|x::r=>a[x.1]? =O (.val fe)/\qdK a r
def Db(P:I)(t:G)(a:V (Nat×U))(L:V (Nat×G)):Prop:=∃b,qac P t a=O b/\qdK b L
def ownLe(c H:V ay):Prop:=c.length=H.length/\∀(i:Nat) B,c[i]? =O B->∃b,H[i]? =O b/\(B=b\/∃d own a,b=.cells d own/\B=.cells d a/\∀x∈a,x∈own)
structure Pf(P:Program)(GE:List (Nat×List PVal))(f:Operand)(args:List Operand)(st:az)(r:PVal)(ro:List (Nat×TypeId))(H':List ay)(oa:List OA):Prop where
 ex:∃(g:FuncId)(first cap argsC:List PVal)(ρ:List Nat)(H0 Hc Hc':List ay)(rc:PVal),opv GE st.tmps f=.func (.func g) first cap/\ρ.Nodup/\C P GE g argsC (oa.map λx=>((x.i,x.k),x.e)) Hc rc ro Hc'/\
  ownLe H0 st.boxes/\J7 ρ H0 Hc/\J7 ρ H' Hc'/\H'.length=st.boxes.length/\(∀j:Nat,j∉ρ->H'[j]? =H0[j]?)/\DG ρ r rc/\(first++args.map (opv GE st.tmps)++cap).length=argsC.length/\
  (∀(i:Nat) p q,(first++args.map (opv GE st.tmps)++cap)[i]? =some p->argsC[i]? =some q->DG ρ p q)/\
  (∀x∈oa,∃j,x.i=first.length+j/\((args[j]? =some (.const fe)/\x.k=0)\/(((x.t,x.k),x.e)∈st.own/\args[j]? =some (.tmp x.t))))/\(∀x∈oa,∀y∈oa,x.t=y.t->x.k=y.k->x.i=y.i)
def Wk(P:I)(GE:V (Nat×V U))(o:M)(w:az->Prop)(a:az):Prop:=match o.op,o.dst with| .build A parts,O d => ∃ (p:U) (L:V (Nat×G)),dF P A (parts.toList.map fun x => (x.1,opv GE a.tmps x.2)) = O p∧Db P A (parts.toList.map fun x => (x.1,opv GE a.tmps x.2)) L ∧ d<a.tmps.length/\w {a with tmps:=a.tmps.set d p,own:=(L.map λx=>((d,x.1),x.2))++bI d a.own}| .store A x (.tmp t),N => ∃ (i b:Nat) (H:V ay) (c:V U) (own L:V (Nat×G)) (l:V U),opv GE a.tmps x = .bptr i b∧a.tmps.getD t .undef = .agg l∧fE P A (.bptr i b) (.agg l) a.boxes = O H∧H[i]? = O (.cells c own) ∧ (∀y∈L,((t,y.1),y.2)∈a.own)/\(L.map (·.1)).Nodup/\ w ⟨a.tmps,H.set i (.cells c ((L.map λy=>(b+y.1,y.2)).reverse++own)),a.own.filter λx=>!L.any λy=>x.1==(t,y.1)⟩| .load A x,O d => ∃ (i b:Nat) (c:V U) (own L:V (Nat×G)) (l:V U),(∃ s,P.underlying A = O (.struct s))∧opv GE a.tmps x = .bptr i b∧a.boxes[i]? = O (.cells c own)∧cO P A (c.drop b) = O (.agg l) ∧ (∀y∈L,(b+y.1,y.2)∈own)/\(L.map (·.1)).Nodup/\(∀y∈L,y.1<l.length)/\d<a.tmps.length/\ w ⟨a.tmps.set d (.agg l),a.boxes.set i (.cells c (own.filter λx=>!L.any λy=>x.1==b+y.1)),(L.map λy=>((d,y.1),y.2)).reverse++bI d a.own⟩|.box _ x,O d=>∃q:V U,bF (opv GE a.tmps x)=O q/\d<a.tmps.length/\w {a with tmps:=a.tmps.set d (.eptr q),own:=bI d a.own}| .call { callee := .value f,args,.. },O d => ∃ (r:U) (m:V (Nat×G)) (e:V ay) (h:V OA),Pf P GE f args.toList a r m e h∧d < a.tmps.length ∧ w ⟨a.tmps.set d r,e,(m.map λx=>((d,x.1),x.2))++bI d (a.own.filter λz=>!h.any λx=>z.1==(x.t,x.k))⟩|_,_=>False
def Ly(P:I)(GE:V (Nat×V U))(A:V Nat)(o:M)(id:Nat)(b:az->Prop)(a:az):Prop:=Ti P GE A o id b a\/Wk P GE o b a\/qd3 P GE o b a\/qcf P GE o b a\/qlO P GE o id b a\/qmK P GE o b a
def cK(P:I)(GE:List (Nat×List U))(A:List Nat)(a:Array M)(b:az->Prop):List M->Nat->az->Prop|[],_,st=>b st| o :: rest,id,st =>match o.guard with|none=>Ly P GE A o id (cK P GE A a b rest (id+if aD o.op then 1 else 0)) st|some (j,want)=>match Ci a st.tmps j with| some x => (x = O want→Ly P GE A o id (cK P GE A a b rest (id + if aD o.op then 1 else 0)) st) ∧ (x≠O want->cK P GE A a b rest (id+if aD o.op then 1 else 0) (Fy st o.dst (.val undef) [] st.boxes))|none=>False
section
variable{P:I}{E:qy}{Γ:aS}{bs:bC}{s:Nat->Q kg}{w:J}
def qkJ{z:D}(j:Nat)(p:U)(v:D)(b:(z.cells.toList.map qnc)[j]? =O p)(c:z.cells[j]? =O v):VR Γ bs w p v:=by
 simp only[o8,vaK,c,or,FS]at b;subst b;unfold qnc;split
 .rename_i a;unfold pw at a;split at a;.exact .val _
  simp_all
 .exact .absC v
def qb5{t:G}{a:V (Nat×U)}{q:V (Nat×D)}{r:V U}(o:a.length=q.length)
  (A:∀(j:Nat) p v,a[j]? =O p->q[j]? =O v->p.1=v.1/\VR Γ bs w p.2 v.2) (h:qac P t a=O r):
  ∃e,(Instr.build t q.toArray).run P w=.ok (.agg e) w/\e.size=r.length/\∀(j:Nat) p v,r[j]? =O p->e[j]? =O v->VR Γ bs w p v:=by
 unfold qac at h
 split at h
 .rename_i m zs S B
  unfold qjW at B
  simp only[vaH,vbk]at B
  obtain⟨z,⟨i,L,F⟩,rfl⟩:=B
  have R:(zeroValue t).run P w=.ok z w:=by simp[zeroValue,run_typeInfo w L,F]
  split at h
  .rename_i c
   have b:∀(l:V Field),(∀f∈l,(P.info? f.type).isSome=T)->(l.mapM λf=>do pure (f.offset,<-sizeOf f.type):Sem (V (Nat×Nat))).run P w=.ok (l.map λf=>(f.offset,P.cellsOf f.type)) w:=by intro l o;induction l with|nil=>simp|cons f l ih=>let⟨X,d⟩:=vaS.1 (o f (by simp));have:=ih λg hg=>o g (by grind);simp only[vb9,Sem.run_bind,run_sizeOf w d,Result.andThen_ok,this,Sem.run_pure,ox]
   have y:(m.mapM λf=>do pure (f.offset,<-sizeOf f.type):Sem (Array (Nat×Nat))).run P w=.ok (m.map λf=>(f.offset,P.cellsOf f.type)) w:=by
    rw[vcr];simp only[Sem.run_map]
    rw[b m.toList λf H=>by
     have:=vbu.1 c f (by simpa using H);omega]
    simp only[Result.andThen_ok];exact m4 (λx=>Result.ok x w) (vb0 (by simp))
   let⟨e,r1,r2,r3⟩:=Mr (place':=((m.map λf=>(f.offset,P.cellsOf f.type))[·]?)) (λi x hx=>by grind) a q _ z.cells o A (by simp) (λj p v y A=>qkJ j p v y A) h
   refine⟨e,?_,r2,r3⟩
   simp only[Instr.build,Sem.run_bind,R,Result.andThen_ok,run_underlying S,y]
   simp_all
  grind
 grind
def V0{a:List U}:∀{L:List (Nat×G)},qdK a L->∀x∈L,a[x.1]? =O (.val fe)
 |[],_,x,hx=>by grind
 | y :: L,h,x,hx => by
  rcases x8.1 hx with rfl|hx;.exact h.1
  .exact V0 h.2 x hx
section
variable{a:Array D}{st:az}
def SR.ownNils(h:SR P E Γ bs s w a st){d:Nat}{u:D}(o:a[d]? =O u)(L:V (Nat×G))(m:∀x∈L,jz u x.1=O fe):SR P E Γ bs s w a {st with own:=(L.map λx=>((d,x.1),x.2))++st.own}:=
 { h with
  ot:=λt k e c=>by
   rcases vz.1 c with c|c;.simp only[l9,Prod.mk.injEq]at c;obtain⟨x,p,⟨rfl,rfl⟩,rfl⟩:=c;exact⟨u,fe,o,m x p,⟨0,[],World.ownsRow_nil _ _ _ _,λb i=>by simp[Value.ownBlock]at i⟩,λb i=>by simp[Value.ownBlock]at i⟩
   .exact h.ot t k e c}
def SR.takeOwn(h:SR P E Γ bs s w a st){i b d k c:Nat}{e:G}{u v:D}{m:V U}{own:V (Nat×G)}(z:bs[i]? =O (O b))(r:st.boxes[i]? =O (.cells m own))
  (A:(c,e)∈own) (F:a[d]? =O u) (B:jz u k=O v) (y:w.cell? ⟨b,c,N⟩=O v):
  ∃p,SR P E Γ bs p w a {st with own:=((d,k),e)::st.own,boxes:=st.boxes.set i (.cells m (own.filter λx=>x.1 !=c))}:=by
 let⟨R,t,H,L⟩:=h.ob i c e m own b r A z
 rw[y]at t
 cases t
 exact⟨_,(h.freeB (j:=c) r).addOwn (d:=d) (k:=k) (e:=e) (u:=u) (v:=v) F B H (λq o=>⟨by simp_all,(h.on q _ (L q o)).2⟩)⟩
def SR.takeOwns{i b d off:Nat}{u:D}{c:V U}(q:bs[i]? =O (O b))(r:a[d]? =O u):∀(L:V (Nat×G)){s:Nat->Q kg}{st:az}{own:V (Nat×G)},SR P E Γ bs s w a st->st.boxes[i]? =O (.cells c own)->
  (∀x∈L,(off+x.1,x.2)∈own)->(L.map (·.1)).Nodup->(∀x∈L,∃v,jz u x.1=O v/\w.cell? ⟨b,off+x.1,N⟩=O v)->
  ∃o,SR P E Γ bs o w a ⟨st.tmps,st.boxes.set i (.cells c (own.filter λx=>!L.any λy=>x.1==off+y.1)),(L.map λy=>((d,y.1),y.2)).reverse++st.own⟩
 | [],s,st,own,h,hB,_,_,_ => by
  refine⟨s,?_⟩;have t:(own.filter λx=>!([]:V (Nat×G)).any λy=>x.1==off+y.1)=own:=by simp
  have H:st.boxes.set i (.cells c (own.filter λx=>!([]:V (Nat×G)).any λy=>x.1==off+y.1))=st.boxes:=by rw[t];apply va2;grind
  simp_all
 |x::L,s,st,own,h,hB,hm,hn,hc=>by rw[ox,vbI]at hn;let⟨v,e,m⟩:=hc x (by simp);let⟨F,z⟩:=h.takeOwn q hB (hm x (by simp)) r e m;let⟨p,A⟩:=SR.takeOwns (off:=off) q r L z (pi (aq hB)) (λy B=>by grind) hn.2 (λy B=>hc y (by grind));refine⟨p,?_⟩;simp only[vbX,vc1]at A;grind
theorem On(h:SR P E Γ bs s w a st){T:G}{i off b:Nat}{m:V U}{own:V (Nat×G)}{l:V U}(S:bs[i]? =O (O b))(L:st.boxes[i]? =O (.cells m own))(X:cO P T (m.drop off)=O (.agg l)):∃v,(loadVar T ⟨b,off,N⟩).run P w=.ok v w/\VR Γ bs w (.agg l) v/\((∃d,P.underlying T=O d/\(match d with|.struct _|.array _ _=>True|_=>False))->∀k,k<l.length->jz v k=w.cell? ⟨b,off+k,N⟩):=by
 obtain⟨c,t',h1,H,h3,h4⟩:=h.box_cells S L;have e:∀(k:Nat) q,(m.drop off)[k]? =O q->w.cell? ⟨b,off+k,N⟩=O (c.getD (off+k) undef)/\VR Γ bs w q (c.getD (off+k) undef):=by
  intro k q o;rw[vbo]at o;have p:off+k<c.size:=R3 (aq o) H;have hc:c[off+k]? =O (c.getD (off+k) undef):=by simp_all
  grind
 obtain⟨v,F,hv⟩:=p8 X (vals:=λk=>c.getD (off+k) undef) (λk q o=>(e k q o).1) (λk q o=>(e k q o).2);refine⟨v,F,hv,λr k hk=>?_⟩;obtain⟨dd,hd,hm⟩:=r;have B:P.cellsOf T<=(m.drop off).length/\l.length=P.cellsOf T:=by grind [cO,List.length_take]
 have z:cO P T ((List.range (m.drop off).length).map λk=>PVal.val (c.getD (off+k) undef))=O (.agg (((List.range (m.drop off).length).map λk=>PVal.val (c.getD (off+k) undef)).take (P.cellsOf T))):=by unfold cO;grind
 obtain⟨v2,x,A⟩:=p8 (Γ:=Γ) (bs:=bs) z (vals:=λk=>c.getD (off+k) undef) (λk q o=>by
   have p:k<(m.drop off).length:=by grind
   exact(e k _ (m3 p)).1) (λk q o=>by
   have p:k<(m.drop off).length:=by grind
   simp only[o8,vbH p,or,FS]at o;subst o;exact .val _)
 rw[F]at x;cases x;have t:k<(m.drop off).length:=by omega
 cases A with
 | agg _ vs hl hvv =>
  have R:(m.drop off).length=m.length - off:=vbC;have y:k<vs.size:=by grind
  have o:(((List.range (m.drop off).length).map λk=>PVal.val (c.getD (off+k) undef)).take (P.cellsOf T))[k]? =O (.val (c.getD (off+k) undef)):=by rw[vay (by omega)];simp only[o8,vbH t,or]
  have:=hvv k _ vs[k] o (by simp);show vs[k]? =_;rw[(e k _ (m3 t)).1];rw[vaM y];generalize vs[k]=q at this;generalize c.getD (off+k) undef=q2 at this;cases this;rfl
end
variable{a:Act}{st:az}
theorem KD(h:SR P E Γ bs s w a.tmps st){o:M}{id d:Nat}{a0:G}{b:Array (Nat×Operand)}{p:U}{L:V (Nat×G)}{K:az->Prop}(ho:o.op=.build a0 b)(c:o.dst=O d)(hd:d<st.tmps.length)
  (hp:dF P a0 (b.toList.map λx=>(x.1,opv E.GE st.tmps x.2))=O p) (S:Db P a0 (b.toList.map λx=>(x.1,opv E.GE st.tmps x.2)) L)
  (R:K {st with tmps:=st.tmps.set d p,own:=(L.map λx=>((d,x.1),x.2))++bI d st.own}) (Q:Exit->Act->J->Prop):
  o.wp P a w (iw P E bs id (aD o.op) a.defers K) Q:=by
 have t:∀x,VR Γ bs w (opv E.GE st.tmps x) (a.eval x):=λx=>h.opv a.defers x
 let⟨A,B⟩:=GA t b.toList
 let⟨v,r1,r2⟩:=H8 A B hp
 let⟨cs,m,hn⟩:=S
 let⟨ov,F,s2,s3⟩:=qb5 A B m
 rw[r1]at F
 cases F
 have i:(execOp a.eval o).run P w=.ok (.value (.agg ov)) w:=by
  have:(b.map λx=>(x.1,a.eval x.2))=(b.toList.map λx=>(x.1,a.eval x.2)).toArray:=by grind
  simp only[execOp,ho];simp_all
 unfold Oper.wp
 rw[i,Oper.upon_value]
 have X:d<a.tmps.size:=by rw[h.sz];omega
 have H:=h.set (d:=d) r2
 have y:=H.ownNils (d:=d) (u:=.agg ov) (by grind) L λx hx=>by
  have hq:=V0 hn x hx;have r:x.1<ov.size:=by grind
  have z:=s3 x.1 _ ov[x.1] hq (by simp);show ov[x.1]? =_;rw[vaM r];generalize ov[x.1]=q at z;cases z;rfl
 have e:∀v,(a.put o.dst v).tmps=a.tmps.setIfInBounds d v:=λv=>by rw[c];rfl
 rw[<-e]at y
 exact⟨aW _ _ _,Γ,bs,_,_,y,R,.inl rfl⟩
def SR.ownLe(h:SR P E Γ bs s w a.tmps st){r:V ay}(o:ownLe r st.boxes):SR P E Γ bs s w a.tmps {st with boxes:=r}:=
 { h with
  bl:=h.bl.trans o.1.symm
  bx:=λi b B d m=>by
   let⟨q,c,p⟩:=o.2 i B m;let⟨y,z,A⟩:=h.bx i b q d c;rcases p with rfl|⟨t,own,own',rfl,rfl,_⟩;.simp_all
   .exact⟨y,z,A⟩
  ob:=λi j e t own b m x d=>by
   let⟨q,c,p⟩:=o.2 i _ m;rcases p with rfl|⟨cs1,fJ,own2,rfl,e2,hsub⟩;.exact h.ob i j e t own b c x d
   .cases e2;exact h.ob i j e _ fJ b c (hsub _ x) d}
theorem D8(h:SR P E Γ bs s w a.tmps st){o:M}{id d:Nat}{f:Operand}{args:Array Operand}{a9:Array G}{r:U}{ro:V (Nat×G)}{H':V ay}{oa:V OA}{K:az->Prop}(ho:o.op=.call {callee:=.value f,args,argTypes:=a9})(A:o.dst=O d)(hd:d<st.tmps.length)
  (hg:Pf P E.GE f args.toList st r ro H' oa) (hK:K ⟨st.tmps.set d r,H',(ro.map λx=>((d,x.1),x.2))++bI d (st.own.filter λz=>!oa.any λx=>z.1==(x.t,x.k))⟩) (Q:Exit->Act->J->Prop):
  o.wp P a w (iw P E bs id (aD o.op) a.defers K) Q:=by
 let⟨g,first,q,R,ρ,H0,Hc,ad,rc,a1,a2,hC,B,hH,S,F,m,hr,X,ha,a3,a4⟩:=hg.ex
 have a7:∀x,VR Γ bs w (opv E.GE st.tmps x) (a.eval x):=λx=>h.opv a.defers x
 have hf:=a7 f
 rw[a1]at hf
 generalize a5:a.eval f=vf at hf
 cases hf with
 |func _ _ _ fs cs hl hl' h1 h2=>
 have c:(fs++args.map a.eval++cs).size=(first++args.toList.map (opv E.GE st.tmps)++q).length:=by simp_all
 have a6:∀(i:Nat) p v,(first++args.toList.map (opv E.GE st.tmps)++q)[i]? =O p->(fs++args.map a.eval++cs)[i]? =O v->VR Γ bs w p v:=by grind
 have L:(execOp a.eval o).run P w=.ok (.enter g (fs++args.map a.eval++cs)) w:=by simp[execOp,ho,resolve,a5,Deferred.ofValue,invoke,hC.1]
 have a0:d<a.tmps.size:=by rw[h.sz];omega
 have hw:=h.ownLe B
 unfold Oper.wp
 rw[L,Oper.upon_enter]
 refine(qh1 hw a0 a2 hC (λx hx=>?_) a4 hH S (F.trans B.1.symm) m hr X ha c a6).mono λe w' he=>?_
 .let⟨j,hj,b⟩:=a3 x hx
  have t:∀{y:Operand},args.toList[j]? =O y->(fs++args.map a.eval++cs)[x.i]? =O (a.eval y):=by
   intro y hy;have ao:j<args.size:=by have:=aq hy;omega
   have an:args[j]? =O y:=by grind
   rw[hj,<-hl,va3 (by simp;omega),Array.getElem?_append_right (by omega),vbs];simp_all
  rcases b with⟨b,hk⟩|⟨ht,b⟩
  .exact .inl ⟨t b,hk⟩
  .let⟨u,v,e1,_⟩:=h.ot _ _ _ ht
   exact .inr ⟨ht,by rw[t b,bu e1];exact e1.symm⟩
 .obtain⟨v,ab,a8,rfl,hS,_⟩:=he
  have H:(a.put o.dst v).tmps=a.tmps.setIfInBounds d v:=by rw[A];rfl
  show iw P E bs id (aD o.op) a.defers K (a.put o.dst v) w'
  refine⟨aW _ _ _,ab,bs,a8,_,?_,hK,.inl rfl⟩
  rw[H];exact hS
def OB(h:SR P E Γ bs s w a.tmps st){o:M}{id:Nat}{K:az->Prop}(q:Wk P E.GE o K st)(Q:Exit->Act->J->Prop):o.wp P a w (iw P E bs id (aD o.op) a.defers K) Q:=by
 unfold Wk at q;split at q;.grind [KD]
 .rename_i ad x t ho S;let⟨i,off,H,cs,own,L,l,hx,ht,a5,F,hm,hn,R⟩:=q;have ab:t<st.tmps.length:=by grind
  have a9:t<a.tmps.size:=by rw[h.sz];omega
  have hu:a.tmps[t]? =O a.tmps[t]:=by simp
  generalize a.tmps[t]=u at hu;have z:=Bv h hu;rw[ht]at z;have c:VR Γ bs w (opv E.GE st.tmps x) (a.eval x):=h.opv a.defers x;rw[hx]at c;let⟨w',r1,r2,_,r4⟩:=Lz h c z a5;have m:(execOp a.eval o).run P w=.ok .skip w':=by simp[execOp,ho,bu hu,r1]
  unfold Oper.wp;rw[m,Oper.upon_skip];generalize a.eval x=vx at c r1;cases c with|bptr _ _ b hb=>
  let⟨c1,_⟩:=r4 i off b rfl hb;let⟨A,g⟩:=SR.moveOwns (off:=off) hb hu L r2 F hm hn λy hy=>by let⟨u',v,e1,e2,_,_⟩:=h.ot t y.1 y.2 (hm y hy);rw[hu]at e1;cases e1;refine⟨v,e2,?_⟩;cases z with|agg _ vs _ _=>exact c1 y.1 v e2
  have e:a.put o.dst undef=a:=by rw[S];rfl
  rw[e];exact⟨rfl,Γ,bs,A,_,g,R,.inl rfl⟩
 .rename_i ad x d ho S;let⟨i,off,cs,own,L,l,⟨fs,a2⟩,hx,F,q,hm,hn,a4,a1,R⟩:=q;have c:VR Γ bs w (opv E.GE st.tmps x) (a.eval x):=h.opv a.defers x;rw[hx]at c;generalize r:a.eval x=vx at c;cases c with|bptr _ _ b hb=>
  let⟨v,r1,r2,r3⟩:=On h hb F q;have m:(execOp a.eval o).run P w=.ok (.value v) w:=by simp[execOp,ho,r,Instr.loadAt,Instr.sureAddr,r1]
  unfold Oper.wp;rw[m,Oper.upon_value];have a8:d<a.tmps.size:=by rw[h.sz];omega
  have g1:=h.set (d:=d) r2;let⟨A,B⟩:=SR.takeOwns (off:=off) (d:=d) (u:=v) hb (by simp_all) L g1 F hm hn λy hy=>by have:=r3 ⟨_,a2,hV⟩ y.1 (a4 y hy);let⟨v',q1,_⟩:=h.ob i (off+y.1) y.2 cs own b F (hm y hy) hb;simp_all
  have e:∀v,(a.put o.dst v).tmps=a.tmps.setIfInBounds d v:=λv=>by rw[S];rfl
  rw[<-e]at B;exact⟨aW _ _ _,Γ,bs,A,_,B,R,.inl rfl⟩
 .rename_i ad x d ho S;let⟨vs,a7,a1,R⟩:=q;have c:VR Γ bs w (opv E.GE st.tmps x) (a.eval x):=h.opv a.defers x;generalize r:a.eval x=vx at c;let⟨k1,k2⟩:=c.cells a7;let⟨g1,a3⟩:=h.alloc_imm vx.cells ad vx.cells.size (l8 _);have m:(execOp a.eval o).run P w=.ok (.value (.pointer (O ⟨w.heap.size,0,N⟩))) (w.alloc (.cells vx.cells ad)):=by simp[execOp,ho,r,Instr.box,newVar,newRow]
  unfold Oper.wp;rw[m,Oper.upon_value];have a0:∀j,(w.alloc (.cells vx.cells ad)).cell? ⟨w.heap.size,j,N⟩=vx.cells[j]?:=λj=>cell_of_row _ _ _ _ _ _ (gI w _);have X:∀{k:Nat}{p:U},vs[k]? =O p->vx.cells[k]? =O (vx.cells.getD k undef):=λ{k p} q=>by simp_all[aq]
  have a6:VR (Γ.put w.heap.size vx.cells.size) bs (w.alloc (.cells vx.cells ad)) (.eptr vs) (.pointer (O ⟨w.heap.size,0,N⟩)):=
   .eptr vs w.heap.size 0 vx.cells.size (λk=>vx.cells.getD k undef) (Γ.put_same _ _) (by omega)
    (λk p q=>by grind) (λk p q=>(k2 k p _ q (X q)).mono a3 (.refl _))
  have B:=g1.set (d:=d) a6;have e:∀v,(a.put o.dst v).tmps=a.tmps.setIfInBounds d v:=λv=>by rw[S];rfl
  rw[<-e]at B;exact⟨aW _ _ _,_,bs,_,_,B,R,.inl rfl⟩
 .grind [D8]
 simp_all
def IM(h:SR P E Γ bs s w a.tmps st){A:V Nat}{o:M}{id:Nat}(d:aD o.op=T->bs[id]? =O N){e:az->Prop}(b:Ly P E.GE A o id e st)(Q:Exit->Act->J->Prop):o.wp P a w (J5 P E bs id (aD o.op) a.defers e) Q:=by
 rcases b with b|b|b|b|b|b;.exact Oper.wp_mono (λ_ _ c=>c.to3) (qcg h d b Q)
 .exact Oper.wp_mono (λ_ _ c=>c.to3) (OB h b Q)
 .grind [qd4]
 .grind [qd2]
 .grind [qgR]
 grind [qg7]
def Iq{bs0:bC}{ds:List Deferred}{A:List Nat}{ops:Array M}{a6:az->Prop}{Q:Exit->Act->J->Prop}
  (t:∀a w st,a.defers=ds->Y5 P E bs0 st a w->a6 st->Q .normal a w):
  ∀(rest:List M)(k id:Nat)(Γ:aS)(bs:bC)(s:Nat->Option kg)(a:Act)(w:J)(st:az),(∀j,rest[j]? =ops[k+j]?)->SR P E Γ bs s w a.tmps st->a.defers=ds->XH bs0 bs->bs0.length<=id->
   (∀m,id<=m->m<id+cG rest->bs[m]? =O N)->cK P E.GE A ops a6 rest id st->wpOps P ops Q ((List.range ops.size).drop k) a w
 | [],k,id,Γ,bs,s,a,w,st,hr,h,hd,hk,_,_,hp => by
  have a5:ops.size<=k:=by have:=hr 0;simp_all
  rw[vb7 (by simp_all)];exact t a w st hd ⟨Γ,bs,s,h,hk⟩ hp
 | o :: rest,k,id,Γ,bs,s,a,w,st,hr,h,hd,hk,hid,hfree,hp => by
  have e:ops[k]? =O o:=by have:=hr 0;simp_all
  have a4:k<ops.size:=(vh.1 e).1;have d:(List.range ops.size).drop k=k::(List.range ops.size).drop (k+1):=by simp_all[vaN]
  rw[d,wpOps_cons];unfold wpOp;rw[e];simp only;have a1:cG (o::rest)=(if aD o.op then 1 else 0)+cG rest:=by grind [cG]
  have c:∀j,rest[j]? =ops[k+1+j]?:=λj=>by have:=hr (j+1);grind
  have L:aD o.op=T->bs[id]? =O N:=λhm=>hfree id (l8 _) (by grind);have p:Ly P E.GE A o id (cK P E.GE A ops a6 rest (id+if aD o.op then 1 else 0)) st->o.wp P a w (wpOps P ops Q ((List.range ops.size).drop (k+1))) Q:=by
   intro R;refine Oper.wp_mono (λa' w' hA=>?_) (IM h L R Q);let⟨y,a0,r,S,X,h1,h2,h3⟩:=hA;refine Iq t rest (k+1) _ a0 r S a' w' X c h1 (y.trans hd) ?_ (by omega) ?_ h2
   .rcases h3 with rfl|⟨hm,b,rfl⟩|⟨x,rfl⟩;.omega
    .intro i B;rw[Pi (by omega)];exact hk i B
    .intro i B;have a3:=hk i B;grind
   .intro m F H;have hb:=hfree m (by omega) (by omega);grind
  have skip:cK P E.GE A ops a6 rest (id+if aD o.op then 1 else 0) (Fy st o.dst (.val undef) [] st.boxes)->wpOps P ops Q ((List.range ops.size).drop (k+1)) (a.put o.dst undef) w:=by intro R;refine Iq t rest (k+1) _ Γ bs s (a.put o.dst undef) w _ c (h.putv_nil (.val undef) o.dst rfl) ((aW _ _ _).trans hd) hk (by omega) (λm F H=>hfree m (by omega) (by omega)) R
  simp only[cK]at hp;have a2:(Region.wanted o (yielded ops a.tmps)=T->o.wp P a w (wpOps P ops Q ((List.range ops.size).drop (k+1))) Q)/\(¬Region.wanted o (yielded ops a.tmps)=T->wpOps P ops Q ((List.range ops.size).drop (k+1)) (a.put o.dst undef) w):=by
   split at hp;.rename_i z;exact⟨λ_=>p hp,λhn=>absurd (by simp[Region.wanted,z]) hn⟩
   .rename_i j q z;split at hp
    .rename_i x hx;have hw:Region.wanted o (yielded ops a.tmps)=(x==O q):=by simp[Region.wanted,z,Th h hx]
     simp_all
    simp_all
  simp_all
def NE{bs0:bC}{A:V Nat}{b:Array M}{H:az->Prop}{Q:Exit->Act->J->Prop}(r:Y5 P E bs0 st a w)(y:bs0.length<=st.boxes.length)
  (q:∀e p d,e.defers=a.defers->Y5 P E bs0 d e p->H d->Q .normal e p) (F:cK P E.GE A b H b.toList st.boxes.length {st with boxes:=st.boxes++gG P b.toList}):
  wpOps P b Q (List.range b.size) a w:=by
 let⟨Γ,bs,s,h,x⟩:=r
 have c:=h.extend (gG P b.toList)
 have o:=Jk P b.toList
 have:=Iq (P:=P) (E:=E) (bs0:=bs0) (ds:=a.defers) q b.toList 0 st.boxes.length Γ _ s a w _ (λj=>by simp) c rfl (λi t=>?_) y (λm z B=>?_) F
 .simp_all
 .rw[B2 (by rw[h.bl];omega)];exact x i t
 .rw[Lf (by rw[h.bl];omega),vaW,l7 (by rw[h.bl];omega)]
end
def MC(b:Q Nat)(P:I)(c:W)(d:Exit->Act->J->Prop)(a:Act)(w:J):Prop:=match b with|none=>c.wp P d a w|some l=>∀n,c.wpIn (Fence.wide.inRound l) n P d a w
def eD(o:M):K:=match o.op with|.defer _=>Z|_=>T
section
variable{P:I}{ro:Option Nat}{Q:Exit->Act->J->Prop}{a:Act}{w:J}
def gD{c:W}{b:Exit->Act->J->Prop}(h:MC ro P c Q a w)(d:∀e a w,Q e a w->b e a w):MC ro P c b a w:=by cases ro with|none=>exact wp_mono h d|some l=>exact λn=>wpIn_mono (h n) d
def Vf(h:Q .normal a w):MC ro P .skip Q a w:=by cases ro with|none=>exact wp_skip h|some l=>exact λn=>wpIn_skip h
def qf0{l:Nat}(h:Q .normal a w):MC ro P (.label l) Q a w:=by cases ro with|none=>exact wp_label h|some l=>exact λn=>wpIn_label h
def Ve{id:Nat}(h:Q (.exit id) a w):MC ro P (.exit id) Q a w:=by cases ro with|none=>exact wp_exit h|some l=>exact λn=>wpIn_exit h
def qk4(h:Q .ret a w):MC ro P .ret Q a w:=by cases ro with|none=>exact wp_ret h|some l=>exact λn=>wpIn_ret h
def xQ{x y:W}(h:MC ro P x (Exit.then (MC ro P y Q) Q) a w):MC ro P (.seq x y) Q a w:=by cases ro with|none=>exact wp_seq h|some l=>exact λn=>wpIn_seq (wpIn_mono (h n) λe a w b=>by cases e<;>first|exact b n|exact b)
def KM{c:Operand}{x y:W}{t:K}(b:a.eval c=.bool t)(d:t=T->MC ro P x Q a w)(e:t=Z->MC ro P y Q a w):MC ro P (.cond c x y) Q a w:=by
 cases t with
 |true=>cases ro with
  |none=>exact wp_cond b (d rfl)
  |some l=>exact λn=>wpIn_cond b (d rfl n)
 |false=>cases ro with
  |none=>exact wp_cond b (e rfl)
  |some l=>exact λn=>wpIn_cond b (e rfl n)
def L5{id:Nat}{c:W}(h:MC ro P c (Exit.inBlock id Q) a w):MC ro P (.block id c) Q a w:=by cases ro with|none=>exact wp_block h|some l=>exact λn=>wpIn_block (h n)
def BU{c:W}(p:Nat->Act->J->Prop)(b:Nat)(e:p b a w)(d:∀n a w,p n a w->MC ro P c (Exit.then (λi o=>∃h,h<n/\p h i o) Q) a w):MC ro P (.loop c) Q a w:=by cases ro with|none=>exact wp_loop_ghost p b e d|some l=>exact λn=>wpIn_loop_ghost p b e λk a w m=>d k a w m n
def qlW{l n:Nat}{d:String}{b:Array D}{R:D->J->Prop}(h:Rows P d b w R):RowsIn (Fence.wide.inRound l) n P d b w R:=λc e _=>by let⟨v,i,r,s⟩:=h c e;exact⟨v,i,r,by rw[fenced_inRound];exact stepsIn_wide.2 s⟩
def qh3{l n:Nat}{f:FuncId}{b:Array D}{R:Ending->J->Prop}(h:Calls P f b w R):CallsIn (Fence.wide.inRound l) n P f b w R:=CallsIn.inRound l (callsIn_wide.2 h)
def qe8{l n:Nat}{o:M}{next:Act->J->Prop}(d:eD o=T)(h:o.wp P a w next Q):o.wpIn (Fence.wide.inRound l) n P a w next Q:=by
 refine⟨λ_ _=>trivial,?_⟩;have i:o.semAt (Fence.wide.inRound l).round a.eval=execOp a.eval o:=Oper.semAt_eq _ _ _ λc e=>by unfold eD at d;rw[e]at d;cases d
 rw[i];unfold Oper.wp at h;generalize (execOp a.eval o).run P w=r at *;have b:(Fence.wide.inRound l).depth.isSome=T->1<=n:=λh=>by simp[Fence.wide]at h
 cases r with
 | ok x w' =>
  cases x<;>simp only[Oper.upon]at h<;>simp only[Oper.uponIn]<;>first
   |exact h.elim
   |exact h
   |exact⟨b,qh3 h⟩
   |exact⟨b,qlW h⟩
 |halt x w'=>cases x<;>simp only[Oper.upon]at h<;>simp only[Oper.uponIn]<;>exact h
def Qr{l n:Nat}{b:Array M}(d:b.toList.all eD=T)(c:¬LetsOut Q):∀(L:List Nat)(a:Act)(w:J),wpOps P b Q L a w->wpOpsIn (Fence.wide.inRound l) n P b Q L a w
 |[],a,w,h=>h
 | i :: rest,a,w,h => by
  unfold wpOps at h;unfold wpOpsIn;split at h;.rename_i e;simp only[e];exact Qr d c rest a w h
  .rename_i o e;simp only[e];have p:eD o=true:=vaE.1 d o (by
    have:=vcK e;simpa using this)
   split at h
   .rename_i m;rw[l7 m];rcases h with h|h;.exact Oper.wpIn_mono (λa w h=>Qr d c rest a w h) (qe8 p h)
    .exact absurd h.2 c
   .rename_i m;rw[hG m];exact⟨λ_ _=>trivial,Qr d c rest _ w h⟩
def qlK{l n:Nat}{b:Array M}(m:b.toList.all eD=T)(e:¬LetsOut Q){i:Nat}{q:Act->J->Prop}(h:wpOp P b Q i q a w):wpOpIn (Fence.wide.inRound l) n P b Q i q a w:=by
 unfold wpOp at h;unfold wpOpIn;split at h;.rename_i c;simp only[c];exact h
 .rename_i o c;simp only[c];have p:eD o=true:=vaE.1 m o (by
   have:=vcK c;simpa using this)
  split at h
  .rename_i d;rw[l7 d];rcases h with h|h;.exact qe8 p h
   .exact absurd h.2 e
  .rename_i d;rw[hG d];exact⟨λ_ _=>trivial,h⟩
def qaV{l n:Nat}{o:Region.Mode}{d:Array M}(m:d.toList.all eD=T)(e:¬LetsOut Q):∀(b:Nat)(c:Array K)(a:Act)(w:J),wpAny P o d Q b c a w->wpAnyIn (Fence.wide.inRound l) n P o d Q b c a w|0,_,_,_,h=>h|b+1,_,_,_,h=>⟨h.1,λi p=>wpOpIn_mono (λa w h=>qaV m e b _ a w h) (qlK m e (h.2 i p))⟩
def nc{id:Nat}{b:Array M}(d:b.toList.all eD=T)(c:¬LetsOut Q)(h:wpOps P b Q (List.range b.size) a w):MC ro P (.region id b Z) Q a w:=by cases ro with|none=>exact wp_region h|some l=>exact λn=>wpIn_region (Qr d c _ _ _ h)
def KN{id:Nat}{b:Array M}(c:P.follows .mixedOrders=T)(e:b.toList.all eD=T)(d:¬LetsOut Q)
  (h:wpAny P .any b Q b.size (Array.replicate b.size Z) a {w with drawn:=w.drawn+1}):MC ro P (.region id b T) Q a w:=by
 cases ro with
 |none=>exact wp_region_any c h
 |some l=>exact λn=>wpIn_region_any c (qaV e d _ _ _ _ h)
end
section nm
variable{σ X:Type}
def Aq(a:σ->Q (σ⊕X)):Nat->σ->Q X|0,_=>N|n+1,s=>match a s with|none=>N|some (.inl s')=>Aq a n s'|some (.inr x)=>O x
def VS{a:σ->Q (σ⊕X)}:∀{n:Nat}{s:σ}{x:X},Aq a n s=O x->∀k,Aq a (n+k) s=O x
 |0,_,_,h,_=>by cases h
 | n + 1,s,x,h,k => by
  rw[Nat.add_right_comm];unfold Aq at h ⊢;split at h;.omega
  .exact VS h k
  omega
theorem Yj{a:σ->Q (σ⊕X)}{n m:Nat}{s:σ}{x y:X}(b:Aq a n s=O x)(c:Aq a m s=O y):x=y:=by have d:=VS b m;have e:=VS c n;grind
open Classical in
def qiW(a:σ->Q (σ⊕X))(s:σ):Q X:=if h:∃x n,Aq a n s=O x then O h.choose else N
def qhA:Nat:=2 ^ 200
def loop(a:σ->Q (σ⊕X))(s:σ):Q X:=match Aq a qhA s with|some x=>O x|none=>qiW a s
def Mh{a:σ->Q (σ⊕X)}{s:σ}{x:X}:loop a s=O x↔∃n,Aq a n s=O x:=by
 have d:qiW a s=O x↔∃n,Aq a n s=O x:=by
  unfold qiW;constructor
  .intro h;split at h;.grind
   grind
  .rintro⟨n,h⟩;have c:∃x n,Aq a n s=O x:=⟨x,n,h⟩
   rw[dif_pos c];grind [Yj]
 unfold loop;split;.rename_i y b;exact⟨λh=>⟨qhA,b.trans h⟩,λ⟨n,h⟩=>m4 O (Yj b h)⟩
 omega
def jh(a:σ->Q (σ⊕X))(s:σ):loop a s=match a s with
  |none=>N
  |some (.inl s')=>loop a s'
  |some (.inr x)=>O x:=by
 have c:∀y,loop a s=O y↔(match a s with
  |none=>N
  |some (.inl s')=>loop a s'
  |some (.inr x)=>O x)=O y:=by
  intro y
  rw[Mh]
  constructor
  .rintro⟨n,h⟩
   cases n with
   |zero=>cases h
   | succ n =>
    unfold Aq at h
    cases b:a s with
    |none=>simp_all
    |some v=>
     cases v with
     |inl s'=>rw[b]at h;exact Mh.2 ⟨n,h⟩
     |inr x=>simp_all
  .intro h
   cases b:a s with
   |none=>simp_all
   | some v =>
    cases v with
    |inl s'=>
     rw[b]at h
     let⟨n,i⟩:=Mh.1 h
     exact⟨n+1,by simp_all[Aq]⟩
    |inr x=>rw[b]at h;exact⟨1,by simp_all[Aq]⟩
 cases d:loop a s with
 | none =>
  cases e:(match a s with
   |none=>N
   |some (.inl s')=>loop a s'
   |some (.inr x)=>O x)with
  |none=>rfl
  |some y=>simp_all
 |some y=>grind
def cJ{α:Type}(l:V α)(i:Int):Q α:=if 0<=i then l[i.toNat]? else N
def L0{α β:Type}{o:Q α}{k:α->Q β}{x:β}(h:o.bind k=O x):∃a,o=O a/\k a=O x:=by cases o with|none=>grind|some a=>simp_all
def Hr{β:Type}{b:K}{x y:Q β}{z:β}(h:(if b then x else y)=O z):(b=T/\x=O z)\/(b=Z/\y=O z):=by grind
end nm
structure th(GE:List (Nat×List PVal))(m:Nat)(E:qy):Prop where
 ge:E.GE=GE
 low:∀b n,E.Γ b=some n->b<E.w.heap.size
 nt:m=0->∀b,¬E.T b
 gl:∀g cs,(g,cs)∈GE->VR E.Γ [] E.w (.eptr cs) (.pointer (some ⟨g,0,none⟩))
def dz(P:I)(GE:V (Nat×V U))(m:Nat)(c:W)(h:Exit->az->Prop)(e:az):Prop:=∀(d:Q Nat)(E:qy)(b:bC)(a:Act)(w:J),th GE m E->b.length=m % 1000->Y5 P E b e a w->MC d P c (UH P E b a.defers h) a w
def EX(e:Exit)(c:az):Exit->az->Prop:=λb a=>b=e/\a=c
def yA(P:I)(m:Nat)(c st':az):Prop:=∀(E:qy)(b:bC)(a:Act)(w:J),b.length=m % 1000->Y5 P E b c a w->Y5 P E b st' a w
section
variable{P:I}{GE:V (Nat×V U)}{m:Nat}
def yA.refl(st:az):yA P m st st:=λ_ _ _ _ _ h=>h
def yA.trans{a b c:az}(h:yA P m a b)(i:yA P m b c):yA P m a c:=λE d x w e o=>i E d x w e (h E d x w e o)
def yA.of_less{a st':az}(h:qpd a st')(d:m % 1000<=st'.boxes.length):yA P m a st':=λ_ _ _ _ c b=>b.less h (by omega)
def dz.mono{c:W}{S r:Exit->az->Prop}{st:az}(h:dz P GE m c S st)(F:∀e st,S e st->∃d,yA P m st d/\r e d):dz P GE m c r st:=
 λL E b a w x s A=>gD (h L E b a w x s A) λe t R y=>by let⟨B,p,o,z⟩:=y;let⟨q,H,i⟩:=F e p z;exact⟨B,q,H E b t R s o,i⟩
def dz.imp{c:W}{i a:Exit->az->Prop}{st:az}(h:dz P GE m c i st)(d:∀e st,i e st->a e st):dz P GE m c a st:=h.mono λe st b=>⟨st,.refl st,d e st b⟩
theorem dz.weak{c:W}{q:Exit->az->Prop}{st st':az}(o:yA P m st st')(h:dz P GE m c q st'):dz P GE m c q st:=λp E b a w e d i=>h p E b a w e d (o E b a w d i)
def dz.skip{b:Exit->az->Prop}{st:az}(h:b .normal st):dz P GE m .skip b st:=λ_ _ _ _ _ _ _ a=>Vf ⟨rfl,st,a,h⟩
def dz.label{l:Nat}{b:Exit->az->Prop}{st:az}(h:b .normal st):dz P GE m (.label l) b st:=λ_ _ _ _ _ _ _ a=>qf0 ⟨rfl,st,a,h⟩
def dz.exit{id:Nat}{b:Exit->az->Prop}{st:az}(h:b (.exit id) st):dz P GE m (.exit id) b st:=λ_ _ _ _ _ _ _ a=>Ve ⟨rfl,st,a,h⟩
def dz.ret{b:Exit->az->Prop}{st:az}(h:b .ret st):dz P GE m .ret b st:=λ_ _ _ _ _ _ _ a=>qk4 ⟨rfl,st,a,h⟩
def dz.seq{x y:W}{B:Exit->az->Prop}{st:az}(h:dz P GE m x (λe b=>match e with|.normal=>dz P GE m y B b|e=>B e b) st):dz P GE m (.seq x y) B st:=by intro s E p a w q r z;refine xQ (gD (h s E p a w q r z) λe t A i=>?_);let⟨o,b,d,i⟩:=i;cases e with|normal=>have:=i s E p t A q r d;rw[o]at this;exact this|exit id=>exact⟨o,b,d,i⟩|goto l=>exact⟨o,b,d,i⟩|ret=>exact⟨o,b,d,i⟩|panic c=>exact⟨o,b,d,i⟩|outgrown=>exact⟨o,b,d,i⟩
def dz.cond{c:Operand}{x y:W}{L:Exit->az->Prop}{st:az}{t:K}(H:opv GE st.tmps c=.bool t)(z:t=T->dz P GE m x L st)(A:t=Z->dz P GE m y L st):dz P GE m (.cond c x y) L st:=by intro s E d a w e p B;let⟨Γ,o,r,h,q⟩:=B;have b:=h.opv a.defers c;rw[e.ge,H]at b;generalize F:(Act.mk a.tmps a.defers).eval c=vc at b;cases b;exact KM (t:=t) F (λi=>z i s E d a w e p ⟨Γ,o,r,h,q⟩) (λi=>A i s E d a w e p ⟨Γ,o,r,h,q⟩)
def dz.block{id:Nat}{c:W}{A:Exit->az->Prop}{st:az}(h:dz P GE m c (Zc id A) st):dz P GE m (.block id c) A st:=by
 intro x E q a w r t s;refine L5 (gD (h x E q a w r t s) λe y z i=>?_);let⟨o,d,b,i⟩:=i;cases e with
 | exit id' =>
  simp only[Zc]at i;simp only[Exit.inBlock];split at i;.rename_i p;rw[l7 p];exact⟨o,d,b,i⟩
  .rename_i p;rw[hG p];exact⟨o,d,b,i⟩
 |normal=>exact⟨o,d,b,i⟩
 |goto l=>exact⟨o,d,b,i⟩
 |ret=>exact⟨o,d,b,i⟩
 |panic c=>exact⟨o,d,b,i⟩
 |outgrown=>exact⟨o,d,b,i⟩
def dz.text{A:V Nat}{id:Nat}{b:Array M}{Q:Exit->az->Prop}{st:az}(o:b.toList.all eD=T)
  (h:cK P GE A b (Q .normal) b.toList st.boxes.length {st with boxes:=st.boxes++gG P b.toList}):dz P GE m (.region id b Z) Q st:=by
 intro z E d a w s x r
 obtain⟨rfl,_,_,_⟩:=s
 refine gD (nc (Q:=λe c q=>e=.normal/\UH P E d a.defers Q .normal c q) o (by rintro⟨_,_,h,_⟩;grind) ?_) λe c q y=>by simp_all
 exact NE r r.len (λc q p o i t=>⟨rfl,o,p,i,t⟩) h
def LQ{σ X:Type}(S:σ->az)(a:X->Exit)(b:X->az):σ⊕X->Exit->az->Prop|.inl s,e,st=>e=.normal/\st=S s|.inr x,e,st=>e≠.normal/\e=a x/\st=b x
def dz.loop{σ X:Type}{S:σ->az}{B:X->Exit}{so:X->az}{d:σ->Q (σ⊕X)}{c:W}{s:σ}{x:X}(h:loop d s=O x)
  (hb:∀s y,d s=O y->dz P GE m c (LQ S B so y) (S s)):dz P GE m (.loop c) (EX (B x) (so x)) (S s):=by
 let⟨n,hn⟩:=Mh.1 h
 intro ro E o a w hE r hR
 refine BU (λk A R=>A.defers=a.defers/\∃s',Y5 P E o (S s') A R/\Aq d k s'=O x) n ⟨rfl,s,hR,hn⟩ ?_
 intro k a1 w1 hI
 let⟨t,s1,q,z⟩:=hI
 cases k with
 |zero=>cases z
 | succ k =>
  unfold Aq at z
  split at z
  .grind
  .rename_i s2 p
   refine gD (hb s1 _ p ro E o a1 w1 hE r q) λe A R H=>?_
   obtain⟨F,L,b,rfl,rfl⟩:=H
   exact⟨k,vcc k,F.trans t,s2,b,z⟩
  .rename_i x2 p
   cases z
   refine gD (hb s1 _ p ro E o a1 w1 hE r q) λe A R H=>?_
   obtain⟨F,L,b,a2,rfl,rfl⟩:=H
   have i:=F.trans t
   cases a0:B x with
   |normal=>simp_all
   |exit id=>exact⟨i,_,b,rfl,rfl⟩
   |goto l=>exact⟨i,_,b,rfl,rfl⟩
   |ret=>exact⟨i,_,b,rfl,rfl⟩
   |panic c=>exact⟨i,_,b,rfl,rfl⟩
   |outgrown=>exact⟨i,_,b,rfl,rfl⟩
def Vq:List U->List U->List U|[],_=>[]|_::ps,[]=>.undef::Vq ps []|_::ps,.undef::qs=>.undef::Vq ps qs|p::ps,_::qs=>p::Vq ps qs
def C2:ay->ay->ay|_,.dead=>.dead|.cells cs own,.cells _ own'=>.cells cs (match own'.all λx=>Y (x∈own)with|true=>own'|false=>own)|p,_=>p
def qaH:List ay->List ay->List ay|[],_=>[]|p::ps,[]=>p::qaH ps []|p::ps,q::qs=>C2 p q::qaH ps qs
def quS(B b:ay):Prop:=B=.dead\/B=b\/∃c own a,b=.cells c own/\B=.cells c a/\∀x∈a,x∈own
def qeN(p q:ay):quS (C2 p q) p:=by
 unfold C2;split;.exact .inl rfl
 .split;.rename_i h;exact .inr (.inr ⟨_,_,_,rfl,rfl,λx a=>by simp_all⟩)
  .exact .inr (.inl rfl)
 .exact .inr (.inl rfl)
def qbk(p:U)(b a:V U):∃q r,Vq (p::b) a=q::Vq b r/\(q=.undef\/q=p):=by cases a with|nil=>exact⟨_,[],by rfl,.inl rfl⟩|cons q a=>cases q<;>first|(refine⟨p,a,?_,.inr rfl⟩;simp only[Vq];done)|(refine⟨.undef,a,?_,.inl rfl⟩;rfl)
def ZG:∀{l a:List U}{i:Nat}{p:U},(Vq l a)[i]? =O p->p=.undef\/l[i]? =O p
 |[],a,i,p,h=>by grind [Vq]
 |q::l,a,i,p,h=>by let⟨d,r,b,c⟩:=qbk q l a;rw[b]at h;cases i with|zero=>grind|succ i=>simpa using ZG (by simpa using h)
def ZH:∀{l bs:List U},(Vq l bs).length=l.length
 |[],bs=>by rfl
 |q::l,bs=>by let⟨c,r,a,b⟩:=qbk q l bs;simp_all[ZH]
def Uq:∀{l a:List ay}{i:Nat}{B:ay},(qaH l a)[i]? =O B->∃b,l[i]? =O b/\quS B b
 |[],a,i,p,h=>by grind [qaH]
 |q::l,[],i,B,h=>by simp only[qaH]at h;cases i with|zero=>simp at h;subst h;exact⟨q,rfl,.inr (.inl rfl)⟩|succ i=>simpa using Uq (by simpa using h)
 |q::l,r::a,i,B,h=>by simp only[qaH]at h;cases i with|zero=>simp at h;subst h;exact⟨q,rfl,qeN q r⟩|succ i=>simpa using Uq (by simpa using h)
def ZE:∀{l a:List ay},(qaH l a).length=l.length
 |[],a=>by rfl
 |q::l,[]=>by simp[qaH,p6,ZE]
 |q::l,r::a=>by simp[qaH,p6,ZE]
def yA.forget{st:az}(S:V U)(H:V ay)(own:V ((Nat×Nat)×G))(ho:∀x∈own,x∈st.own):yA P m st ⟨Vq st.tmps S,qaH st.boxes H,own⟩:=by
 intro E R a w hb X;let⟨Γ,L,ow,h,hk⟩:=X;refine⟨Γ,L,ow,?_,hk⟩;exact{h with
  sz:=by rw[h.sz];exact ZH.symm
  tm:=λt p v hp hv=>by
   rcases ZG hp with rfl|hp';.exact .undef v
   .exact h.tm t p v hp' hv
  bl:=by rw[h.bl];exact ZE.symm
  bx:=λi b B d r=>by
   let⟨s,c,q⟩:=Uq r;let⟨A,F,k3⟩:=h.bx i b s d c;rcases q with rfl|rfl|⟨y,own,o,rfl,rfl,_⟩;.exact⟨A,F,hV⟩
   .simp_all
   .exact⟨A,F,k3⟩
  ot:=λt k e he=>h.ot t k e (ho _ he)
  ob:=λi j e y o b r z d=>by
   let⟨s,c,q⟩:=Uq r;rcases q with q|rfl|⟨cs1,fJ,own2,rfl,e2,hs⟩;.grind
   .exact h.ob i j e y o b c z d
   .cases e2;exact h.ob i j e _ fJ b c (hs _ z) d}
def EX.of{c:W}{e:Exit}{st a:az}{p:Exit->az->Prop}(h:dz P GE m c (EX e a) st)(o:p e a):dz P GE m c p st:=
 h.imp λi d b=>by obtain⟨rfl,rfl⟩:=b;omega
end
end Go.Proofs.YtankopenjcbeeaaGreatDoor
