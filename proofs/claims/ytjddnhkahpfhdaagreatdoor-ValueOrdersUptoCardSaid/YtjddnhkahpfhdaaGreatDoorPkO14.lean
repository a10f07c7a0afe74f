/- PROVED: a part of the proof. Conditions: none. -/
import Derived.Test.YtjddnhkahpfhdaaGreatDoorPkO13
set_option linter.unusedSimpArgs false
set_option linter.unusedVariables false
noncomputable section
namespace Go.Proofs.YtjddnhkahpfhdaaGreatDoor
open Go Go.RowKit Go.Proofs.Tryz
set_option linter.unusedVariables false
set_option linter.unusedSimpArgs false
set_option maxRecDepth 100000
abbrev Vn:Nat:=96
abbrev Vq:Nat:=99
abbrev Ui:Nat:=20
abbrev tM:Nat:=133
noncomputable def O4:Code:=f67.body.getD .skip
abbrev VA:Code:=aW O4 [false]
abbrev VB:Code:=aW O4 [true,false]
abbrev Lp:Code:=aW O4 [true,true,false,false]
abbrev VC:Code:=aW O4 [true,true,false,true,false]
abbrev VD:Code:=aW O4 [true,true,false,true,true,false,false]
abbrev sX:Code:=aW O4 [true,true,true]
abbrev SM:Code:=aW sX [false]
abbrev Tm:Code:=aW sX [true,false,false]
abbrev MQ:Code:=aW sX [true,false,true,true]
abbrev s7:Code:=aW MQ [false]
abbrev SJ:Code:=aW MQ [true,false,false]
abbrev Bw:Code:=aW MQ [true,false,true,false]
abbrev SK:Code:=aW MQ [true,true,false]
abbrev Re:Code:=aW MQ [true,true,true,false,false]
abbrev Rf:Code:=aW MQ [true,true,true,false,true,false]
abbrev Ac:Code:=aW MQ [true,true,true,false,true,true,false]
abbrev sY:Code:=aW sX [true,true]
abbrev Jc:Code:=aW sY [false]
abbrev xt:Code:=aW sY [true,false]
abbrev E3:Code:=aW sY [true,true,false]
abbrev SL:Code:=aW sY [true,true,true,false]
abbrev MB(c:Code)(b:Bool):Code:=.region (wh c) (bP c) b
theorem QC:O4=.seq VA (.seq VB (.seq (.seq (MB Lp false) (.seq VC (.cond (.tmp 26) (.seq VD .ret) .skip))) sX)):=by kernel_rfl
theorem SO:sX=.seq (MB SM false) (.seq (.seq Tm (.block 0 MQ)) sY):=by kernel_rfl
theorem Rd:MQ=.seq s7 (.cond (.tmp 30) (.seq SJ (.cond (.tmp 35) (MB Bw false) .skip)) (.seq SK (.cond (.tmp 39) (.seq Re (.seq Rf (.cond (.tmp 55) (MB Ac false) .skip))) .skip))):=by kernel_rfl
theorem SP:sY=.seq (MB Jc false) (.seq (MB xt false) (.seq (MB E3 false) (.seq SL .ret))):=by kernel_rfl
abbrev jf(m:aB)(mb:Nat)(t:ae)(size:Int)(L:List (Nat×PVal)):List PVal:=(bT 72 ((2,.int .i64 size)::(3,.eptr (pE m mb))::(4,.eptr (af t))::(6,.slice [])::L) [] []).tmps
theorem pV(m:aB)(mb:Nat)(t:ae)(size:Int){L:List (Nat×PVal)}(h:Id 0 L):dR 0 (jf m mb t size L):=pb ⟨vzz,pW m mb,(show dR 0 (af t)from dw t),(bq cR []:(sl ac []).cl 0),h⟩
section
variable(m:aB)(mb:Nat)(t:ae)(size:Int)(key:ai)(l:List aa)(b:Bool)(v:Value)(d:aS)
theorem WH:cN Pg GE 0 VA (EX .normal ⟨jf m mb t size [],[.dead,.dead],[]⟩) (bT 72 [(0,.agg (pE m mb)),(1,.agg (af t)),(2,.int .i64 size)] [] []):=by
 have z:=se (rfl:bu (.agg (pE m mb))=some (pE m mb))<|se (rfl:bu (.agg (af t))=some (af t))<|eF .normal ⟨jf m mb t size [],[.dead,.dead],[]⟩
 exact cJ (A:=[]) mixed z (by kernel_rfl)
theorem WI{tx k1 nt:ai}(h1:xB t=some tx)(h2:zC tx [32]=some k1)(h3:qm size=some nt)(h4:zC k1 nt=some key):cN Pg GE 0 VB (EX .normal ⟨jf m mb t size [(7,.str key)],[],[]⟩) ⟨jf m mb t size [],[],[]⟩:=by
 have z:=sv (eI t)<|Rg (E8 tx h1)<|sv (fm (P:=Pg) (t:=9) h2)<|Rg (tZ nt h3)<|sv (fm (P:=Pg) (t:=9) h4)<|eF .normal ⟨jf m mb t size [(7,.str key)],[],[]⟩
 exact cJ (A:=[]) mixed z (by kernel_rfl)
theorem WK:cN Pg GE 0 VC (EX .normal ⟨jf m mb t size [(7,.str key),(8,sl ac l),(9,.bool b),(26,.bool b)],[],[]⟩) ⟨jf m mb t size [(7,.str key),(8,sl ac l),(9,.bool b)],[],[]⟩:=by
 have z:=eF .normal ⟨jf m mb t size [(7,.str key),(8,sl ac l),(9,.bool b),(26,.bool b)],[],[]⟩
 exact cJ (A:=[]) mixed z (by kernel_rfl)
theorem WL:cN Pg GE 0 (.seq VD .ret) (EX .ret (bT 72 [(6,sl ac l)] [] [])) ⟨jf m mb t size [(7,.str key),(8,sl ac l)],[],[]⟩:=by
 have z:=eF .ret (bT 72 [(6,sl ac l)] [] [])
 exact cJ (A:=[]) mixed z (by kernel_rfl)
theorem WM:cN Pg GE 0 Tm (EX .normal ⟨jf m mb t size [(7,.str key),(10,.val v),(29,.int .i64 t.Op)],[],[]⟩) ⟨jf m mb t size [(7,.str key),(10,.val v)],[],[]⟩:=by
 have z:=sv (wg t)<|sv (wk t)<|eF .normal ⟨jf m mb t size [(7,.str key),(10,.val v),(29,.int .i64 t.Op)],[],[]⟩
 exact cJ (A:=[]) mixed z (by kernel_rfl)
theorem WN:cN Pg GE 0 s7 (EX .normal ⟨jf m mb t size [(7,.str key),(10,.val v),(29,.int .i64 t.Op),(30,.bool ((t.Op==1)||(t.Op==3)||(t.Op==2)))],[],[]⟩) ⟨jf m mb t size [(7,.str key),(10,.val v),(29,.int .i64 t.Op)],[],[]⟩:=by
 cases c1:(t.Op==1)with
 |true=>
  have z:=sg 0 c1<|eF .normal ⟨jf m mb t size [(7,.str key),(10,.val v),(29,.int .i64 t.Op),(30,.bool (t.Op==1))],[],[]⟩
  have:cN Pg GE 0 s7 (EX .normal ⟨jf m mb t size [(7,.str key),(10,.val v),(29,.int .i64 t.Op),(30,.bool (t.Op==1))],[],[]⟩) ⟨jf m mb t size [(7,.str key),(10,.val v),(29,.int .i64 t.Op)],[],[]⟩:=cJ (A:=[]) mixed z (by kernel_rfl)
  rw[c1]at this
  exact this
 | false =>
  cases c2:(t.Op==3)with
  |true=>
   have z:=sg 0 c1<|sg 0 c2<|eF .normal ⟨jf m mb t size [(7,.str key),(10,.val v),(29,.int .i64 t.Op),(30,.bool (t.Op==3))],[],[]⟩
   have:cN Pg GE 0 s7 (EX .normal ⟨jf m mb t size [(7,.str key),(10,.val v),(29,.int .i64 t.Op),(30,.bool (t.Op==3))],[],[]⟩) ⟨jf m mb t size [(7,.str key),(10,.val v),(29,.int .i64 t.Op)],[],[]⟩:=cJ (A:=[]) mixed z (by kernel_rfl)
   rw[c2]at this
   exact this
  |false=>
   have z:=sg 0 c1<|sg 0 c2<|eF .normal ⟨jf m mb t size [(7,.str key),(10,.val v),(29,.int .i64 t.Op),(30,.bool (t.Op==2))],[],[]⟩
   have:cN Pg GE 0 s7 (EX .normal ⟨jf m mb t size [(7,.str key),(10,.val v),(29,.int .i64 t.Op),(30,.bool (t.Op==2))],[],[]⟩) ⟨jf m mb t size [(7,.str key),(10,.val v),(29,.int .i64 t.Op)],[],[]⟩:=cJ (A:=[]) mixed z (by kernel_rfl)
   exact this
theorem UB:cN Pg GE 0 SJ (EX .normal ⟨jf m mb t size [(7,.str key),(10,.val v),(35,.bool (size==1))],[],[]⟩) ⟨jf m mb t size [(7,.str key),(10,.val v)],[],[]⟩:=by
 have z:=eF .normal ⟨jf m mb t size [(7,.str key),(10,.val v),(35,.bool (size==1))],[],[]⟩
 exact cJ (A:=[]) mixed z (by kernel_rfl)
theorem UD:cN Pg GE 0 SK (EX .normal ⟨jf m mb t size [(7,.str key),(10,.val v),(39,.bool (t.Op==4))],[],[]⟩) ⟨jf m mb t size [(7,.str key),(10,.val v),(29,.int .i64 t.Op)],[],[]⟩:=by
 have z:=eF .normal ⟨jf m mb t size [(7,.str key),(10,.val v),(39,.bool (t.Op==4))],[],[]⟩
 exact cJ (A:=[]) mixed z (by kernel_rfl)
theorem UE{r:aS×Bool}(h:uv m t.Name=some r):cN Pg GE 0 Re (EX .normal ⟨jf m mb t size [(7,.str key),(10,.val v),(11,.eptr (aC r.1)),(12,.bool r.2)],[.dead],[]⟩) ⟨jf m mb t size [(7,.str key),(10,.val v)],[],[]⟩:=by
 have hx:aC r.1=[.str r.1.Name,sl cS r.1.Vars,sl cw r.1.Preds,sl aT r.1.Cons]:=lN r.1
 have z:=sv (G2 m mb)<|sv (Hg m mb)<|sv (EK t)<|sv (Hi t)<|Rg (DO r h)<|sx E2<|sx (gY r.1)<|eF .normal ⟨jf m mb t size [(7,.str key),(10,.val v),(11,.bptr 0 0),(12,.bool r.2)],[.cells [.str r.1.Name,sl cS r.1.Vars,sl cw r.1.Preds,sl aT r.1.Cons] []],[]⟩
 have h1:cN Pg GE 0 Re (EX .normal ⟨jf m mb t size [(7,.str key),(10,.val v),(11,.bptr 0 0),(12,.bool r.2)],[.cells [.str r.1.Name,sl cS r.1.Vars,sl cw r.1.Preds,sl aT r.1.Cons] []],[]⟩) ⟨jf m mb t size [(7,.str key),(10,.val v)],[],[]⟩:=cJ (A:=[]) mixed z (by kernel_rfl)
 have hcl:dR 0 ([.str r.1.Name,sl cS r.1.Vars,sl cw r.1.Preds,sl aT r.1.Cons]:List PVal):=by rw[<-hx];exact gF r.1
 have z2:=UK 0 [[.str r.1.Name,sl cS r.1.Vars,sl cw r.1.Preds,sl aT r.1.Cons]] [2,3,4,6,7,10,11,12] [] (Uj (m:=0) (b:=0) rfl [.str r.1.Name,sl cS r.1.Vars,sl cw r.1.Preds,sl aT r.1.Cons] rfl) (Uk 0 (l:=[.str r.1.Name,sl cS r.1.Vars,sl cw r.1.Preds,sl aT r.1.Cons]) hcl) (Ul (l:=[.str r.1.Name,sl cS r.1.Vars,sl cw r.1.Preds,sl aT r.1.Cons]) (r:=[.str r.1.Name,sl cS r.1.Vars,sl cw r.1.Preds,sl aT r.1.Cons]) rfl)<|sf (J7 0 (p:=pE m mb) (pW m mb))<|sf (J7 0 (p:=af t) (dw t))<|sf (Ti 0 (p:=.slice []) (bq cR []:(sl ac []).cl 0))<|en (fr ⟨jf m mb t size [(7,.str key),(10,.val v),(11,.eptr [.str r.1.Name,sl cS r.1.Vars,sl cw r.1.Preds,sl aT r.1.Cons]),(12,.bool r.2)],[.dead],[]⟩)
 rw[hx]
 exact h1.thenW (Um z2 (by kernel_rfl))
theorem SQ:cN Pg GE 0 Rf (EX .normal ⟨jf m mb t size [(7,.str key),(10,.val v),(55,.bool false)],[],[]⟩) ⟨jf m mb t size [(7,.str key),(10,.val v),(11,.eptr (aC d)),(12,.bool false)],[],[]⟩:=by
 have z:=sg 2 (rfl:false=false)<|eF .normal ⟨jf m mb t size [(7,.str key),(10,.val v),(55,.bool false)],[],[]⟩
 exact cJ (A:=[]) mixed z (by kernel_rfl)
theorem SS:cN Pg GE 0 Rf (EX .normal ⟨jf m mb t size [(7,.str key),(10,.val v),(11,.eptr (aC d)),(55,.bool ((t.Args.length:Int)==0))],[],[]⟩) ⟨jf m mb t size [(7,.str key),(10,.val v),(11,.eptr (aC d)),(12,.bool true)],[],[]⟩:=by
 have z:=sg 2 (rfl:true=true)<|sv (EL t)<|sv (ES t)<|Tn (fK.ln t.Args)<|eF .normal ⟨jf m mb t size [(7,.str key),(10,.val v),(11,.eptr (aC d)),(55,.bool ((t.Args.length:Int)==0))],[],[]⟩
 exact cJ (A:=[]) mixed z (by kernel_rfl)
theorem UJ:cN Pg GE 0 (.seq SL .ret) (EX .ret (bT 72 [(6,sl ac l)] [] [])) (bT 72 [(10,sl ac l)] [] []):=by
 have z:=eF .ret (bT 72 [(6,sl ac l)] [] [])
 exact cJ (A:=[]) mixed z (by kernel_rfl)
end
section
variable{mb:Nat}{K:fe}{Γ:aw}{w:World}
theorem Vz{mb:Nat}:∀b,bX [some mb] (λ_=>none) b↔b=mb:=λb=>⟨λh=>by
  rcases h with⟨i,hi⟩|h
  ·cases i with
   |zero=>simpa using hi.symm
   |succ i=>simp at hi
  ·exact absurd rfl h,λh=>.inl ⟨0,by rw[h];rfl⟩⟩
theorem Sq(hB:dO GE Γ w)(hk:KM mb K Γ w):SR Pg ⟨GE,Γ,w,bX [some mb] λ_=>none⟩ Γ [some mb] (λ_=>none) w #[] ⟨[],[.map (jp (sl ac) K)],[]⟩:={
 wi:=hB.wi
 sz:=rfl
 tm:=λi p v hp hv=>by simp at hp
 bl:=rfl
 bx:=λi b B hb hBx=>by
  cases i with
  |zero=>
   simp at hb hBx;subst hb;subst hBx
   exact⟨hk.off.1,hk.off.2.1,hk.br.up⟩
  |succ i=>simp at hb
 inj:=λi j b hi hj=>by
  cases i<;>cases j<;>simp at hi hj ⊢
 bn:=λi b hb=>.inl (.inl ⟨i,hb⟩)
 on:=λb L hL=>by cases hL
 ot:=λt k e he=>by simp at he
 ob:=λi j e cs own b hBx=>by
  cases i<;>simp at hBx
 gl:=λg cs hg=>(hB.gl g cs hg).mono (.refl _ _) (λi b h=>by simp at h)
 gc:=hB.gc
 gx:=λg cs hg=>⟨(hB.gx g cs hg).1,λh=>hk.off.2.2 g cs hg ((Vz g).1 h),(hB.gx g cs hg).2⟩
 step:=.refl _ _ _ _}
theorem SW:Pg.underlying tM=some (.map 9 tV):=underlying133
theorem L6(hB:dO GE Γ w)(hk:KM mb K Γ w){k:ai}{vk:Value}(hvk:VR Γ [] w (.str k) vk):∃u,(Instr.lookup tM (.map (some mb)) vk true).run Pg w=.ok u w/\VR Γ [] w (.tuple [sl ac ((rA K k).getD []),.bool (rA K k).isSome]) u:=by
 obtain⟨u,h1,h2⟩:=AX (Sq hB hk) (.mapr 0 mb rfl) (hvk.mono (.refl _ _) (λi b h=>by simp at h)) (Gc (i:=0) rfl (PE SW (P:=Pg) underlying9 (f:=sl ac) (z:=[]) (by kernel_rfl) K k))
 exact⟨u,h1,h2.clo ⟨bq cR _,vzz,vzz⟩⟩
theorem L7(hB:dO GE Γ w)(hk:KM mb K Γ w){k:ai}{vk vu:Value}{l:List aa}(hvk:VR Γ [] w (.str k) vk)(hvu:VR Γ [] w (sl ac l) vu):∃w',(Instr.mapUpdate tM (.map (some mb)) vk vu).run Pg w=.ok () w'/\Mv GE (λb=>b=mb) Γ w Γ w'/\KM mb (Hm K k l) Γ w':=by
 have up:∀{p v},VR Γ [] w p v->VR Γ [some mb] w p v:=λh=>h.mono (.refl _ _) (λi b h=>by simp at h)
 obtain⟨w',h1,h2,_⟩:=ui (Sq hB hk) (t:=tM) (.mapr 0 mb rfl) (up hvk) (up hvu) (Dy (i:=0) rfl (QX (P:=Pg) SW underlying9 (f:=sl ac) K k l))
 obtain⟨k1,k2,k3⟩:=h2.bx 0 mb _ rfl rfl
 exact⟨w',h1,(Mv.of h2).mono λb hb=>.inl ((Vz b).1 hb),⟨k1,k2,hk.off.2.2⟩,k3.down (JG _)⟩
end
def Ip(y:aa):Bool:=y.Kids.isEmpty&&y.Params.isEmpty&&y.Body.isEmpty&&y.Binds.isEmpty
theorem Pv{y:aa}(h:Ip y=true):ac y=[.int .i64 y.Op,.int .i64 y.N,.str y.Name,.slice [],.slice [],.slice [],.slice []]:=by
 simp only[Ip,vae,vcU]at h
 obtain⟨⟨⟨h1,h2⟩,h3⟩,h4⟩:=h
 rw[bm,h1,h2,h3,h4];rfl
theorem VR.flat{Γ Γ':aw}{bs bs':bh}{w w':World}{p:PVal}{v:Value}(hp:(∃n,p=.int .i64 n)\/(∃s,p=.str s)\/p=.slice [])(h:VR Γ bs w p v):VR Γ' bs' w' p v:=by
 rcases hp with⟨n,rfl⟩|⟨s,rfl⟩|rfl
 ·cases h;exact .int _ _
 ·cases h;exact .str _
 ·generalize he:([]:List (List PVal))=es at h
  cases h with
  |sliceNil=>exact .sliceNil
  |sliceE a cap=>exact .sliceE a cap
  |slice _ b off cap n sz vals h0 hcap hg hn hsz hc hv=>subst he;exact .sliceE _ _
theorem Jy{op:Int}{l:List aa}{Γ:aw}{w:World}(h:pK op=some l)(hf:l.all Ip=true)(hB:dO GE Γ w):Calls Pg Vn #[.int .i64 op] w λe w'=>∃v Γ',e=.returned v/\Mv GE no Γ w Γ' w'/\fk Pg GE eV Γ' w' (pk ac l) l.length v/\∀b,v.ownBlock=some b->w.heap.size<=b:=by
 have hT:(bX [] λ_=>none)=λ_=>False:=funext λb=>propext ⟨λh=>by
  rcases h with⟨i,hi⟩|h
  ·simp at hi
  ·exact h rfl,λh=>h.elim⟩
 have hS:=hB.fresh (P:=Pg) (a:=#[.int .i64 op]) (tmps:=[.int .i64 op]) 0 rfl λt p v hp hv=>by
  match t with
  |0=>simp at hp hv;subst hp;subst hv;exact .int _ _
  |t+1=>simp at hp
 refine((D4 l h).2.2 Γ [] (λ_=>none) w _ (by rw[hT];exact hS)).mono λe w' he=>?_
 obtain⟨v0,Γ',ow',rfl,h'⟩:=he
 rw[hT]at h'
 obtain⟨u,v,hu,hpv,⟨n,xs,hown,hgh⟩,how⟩:=h'.ot 0 0 36 (by simp)
 obtain rfl:v0=u:=by simpa using hu
 have hvr:VR Γ' [] w' (sl ac l) v0:=h'.tm 0 _ _ rfl rfl
 have hm0:Mv GE no Γ w Γ' w':=.of h'
 have hsl:v=v0:=by
  unfold sl at hvr
  generalize l.map ac=es at hvr
  cases hvr<;>·simp[eQ]at hpv;exact hpv.symm
 subst hsl
 have hge:∀b,v.ownBlock=some b->w.heap.size<=b/\b<w'.heap.size:=λb hb=>by
  have:=h'.on b _ (how b hb)
  exact⟨this.2.resolve_left id,this.1⟩
 let Γ2:aw:=λb=>if v.ownBlock=some b then none else Γ' b
 have hle:Γ.Le w Γ2 w':=λb m hb hm=>by
  obtain⟨m',k1,k2,k3⟩:=hm0.le b m hb hm
  refine⟨m',?_,k2,k3⟩
  show(if v.ownBlock=some b then none else Γ' b)=_
  rw[vaz λhx=>by have:=(hge b hx).1;have:=hB.lt hb;omega]
  exact k1
 have hm:Mv GE no Γ w Γ2 w':=⟨hB.world hle (λb m hb=>by
   have hb:(if v.ownBlock=some b then none else Γ' b)=some m:=hb
   split at hb
   ·cases hb
   ·exact hm0.base.wi b m hb) hm0.size (λg cs hg=>hm0.keep (hB.gx g cs hg).1 id),{hm0.step with
  keep:=λb hb hn=>⟨hm0.keep hb hn,by
   show(if v.ownBlock=some b then none else Γ' b)=_
   rw[vaz λhx=>by have:=(hge b hx).1;have hb:b<w.heap.size:=hb;omega]
   exact hm0.gk hb hn⟩
  le:=hle}⟩
 have hflat:∀q∈pk ac l,(∃n,q=.int .i64 n)\/(∃s,q=.str s)\/q=.slice []:=λq hq=>by
  unfold pk at hq
  rw[vcQ]at hq
  obtain⟨y',hy',hq⟩:=hq
  obtain⟨y,hy,rfl⟩:=vai.1 hy'
  rw[Pv (vap.1 hf y hy)]at hq
  simp only[vaB,vbm,or_false]at hq
  rcases hq with rfl|rfl|rfl|rfl|rfl|rfl|rfl<;>simp
 have hfl:(pk ac l).length=l.length * Pg.cellsOf eV:=aZ.flat_len l
 have hml:(l.map ac).length=l.length:=vbq _
 have hn:n=l.length/\∀(i:Nat) p x,(pk ac l)[i]? =some p->xs[i]? =some x->VR Γ2 [] w' p x:=by
  unfold sl at hvr
  generalize hes:l.map ac=es at hvr
  cases hvr with
  | sliceNil =>
   have hl:l=[]:=by cases l with
    |nil=>rfl
    |cons x l=>simp at hes
   subst hl
   refine⟨?_,λi p x hp=>by simp[pk]at hp⟩
   rcases hown.2 with⟨_,h0⟩|⟨g,cap,cur,hx,_⟩
   ·exact h0
   ·cases hx
  | sliceE a cap =>
   have hl:l=[]:=by cases l with
    |nil=>rfl
    |cons x l=>simp at hes
   subst hl
   refine⟨?_,λi p x hp=>by simp[pk]at hp⟩
   rcases hown.2 with⟨hx,h0⟩|⟨g,cap,cur,hx,_⟩
   ·exact h0
   ·cases hx;rfl
  | slice _ b off cap n' sz vals h0 hcap hg hn' hsz hc hv =>
   rcases hown.2 with⟨hx,_⟩|⟨g,cap',cur,hx,hrest⟩
   ·cases hx
   cases hx
   have hcells:=hown.cells (g:=b) rfl
   refine⟨by rw[<-hes,hml],λi p x hp hx=>?_⟩
   have hsl:∀x∈es,x.length=Pg.cellsOf eV:=λx hx=>by
    rw[<-hes]at hx
    obtain⟨z,_,rfl⟩:=vai.1 hx;exact aZ.hc z
   have hk:0<Pg.cellsOf eV:=aZ.hp
   have hil:i<l.length * Pg.cellsOf eV:=by rw[<-hfl];exact ag hp
   have a1:i / Pg.cellsOf eV<l.length:=vcE (by rw[vcg];exact hil)
   have a2:i % Pg.cellsOf eV<Pg.cellsOf eV:=vcW _ hk
   have a3:i=i / Pg.cellsOf eV * Pg.cellsOf eV+i % Pg.cellsOf eV:=(vcT i _).symm
   have hei:es[i / Pg.cellsOf eV]? =some (ac l[i / Pg.cellsOf eV]):=by rw[<-hes,vay,vaa a1];rfl
   have hsz':sz=Pg.cellsOf eV:=by rw[<-hsz _ _ hei,aZ.hc]
   subst hsz'
   have hq2:i % Pg.cellsOf eV<(ac l[i / Pg.cellsOf eV]).length:=by rw[aZ.hc];exact a2
   have hfa:=ru hsl hei (vaa hq2)
   rw[<-a3]at hfa
   have hp':es.flatten[i]? =some p:=by rw[<-hes];exact hp
   rw[hp']at hfa
   have hc1:=hc _ _ _ p hei (by rw[vaa hq2];exact hfa.symm)
   have hv1:=hv _ _ _ p hei (by rw[vaa hq2];exact hfa.symm)
   have hx1:=hcells i x hx
   rw[Addr.add_lit]at hx1
   rw[show 0+i / Pg.cellsOf eV * Pg.cellsOf eV+i % Pg.cellsOf eV=0+i by omega]at hc1
   rw[hc1]at hx1
   cases hx1
   exact hv1.flat (hflat p (var hp))
 obtain⟨rfl,hxv⟩:=hn
 have hxl:xs.length=(pk ac l).length:=by rw[hfl];exact hown.1
 refine⟨v,Γ2,rfl,hm,⟨⟨xs,hown,hxl,λu hu=>?_,hxv⟩,λb hb=>⟨by show(if v.ownBlock=some b then none else Γ' b)=_;rw[vaA hb],(hge b hb).2,λg cs hg e=>?_⟩⟩,λb hb=>(hge b hb).1⟩
 ·obtain⟨i,hi⟩:=vbG hu
  have hil:i<(pk ac l).length:=by rw[<-hxl];exact ag hi
  have hp:=vaa hil
  refine(hxv i _ u hp hi).one ?_
  have:=hflat _ (vah hil)
  rcases this with⟨n,h⟩|⟨s,h⟩|h<;>rw[h]<;>rfl
 ·have:=(hge b hb).1
  have:=(hB.gx g cs hg).1
  omega
def Pn(v:Value)(n:Nat):Value:=match v with
 |.slice a _ cap=>.slice a n cap
 |v=>v
section
variable{P:Program}{GE:List (Nat×List PVal)}{e:TypeId}{α:Type}{c:α->List PVal}{Γ:aw}{w:World}{l:List α}{v:Value}
theorem fk.freeze(hcl:∀x,(c x).length=P.cellsOf e)(hkp:0<P.cellsOf e)(hB:dO GE Γ w)(h:fk P GE e Γ w (pk c l) l.length v)(n:Nat)(hn:n<=l.length):((v=.slice none 0 0/\l=[])\/∃g cap,v=.slice (some ⟨g,0,none⟩) l.length cap/\l.length<=cap)/\
  ∀u,u=Pn v n->∃Γ',Mv GE (λb=>v.ownBlock=some b) Γ w Γ' w/\VR Γ' [] w (sl c (l.take n)) u:=by
 obtain⟨xs,hown,hxl,hx1,hxv⟩:=h.row
 rcases hown.2 with⟨rfl,h0⟩|⟨g,cap,cur,rfl,_,hg,hnc,hcm,hcs,htake⟩
 ·have hl:=vaj h0
  subst hl
  refine⟨.inl ⟨rfl,rfl⟩,λu hu=>⟨Γ,.refl hB,?_⟩⟩
  have:n=0:=by simpa using hn
  subst this
  subst hu
  exact .sliceNil
 refine⟨.inr ⟨g,cap,rfl,hnc⟩,λu hu=>?_⟩
 subst hu
 have hoff:=h.off g rfl
 have hle0:n * P.cellsOf e<=l.length * P.cellsOf e:=vaJ _ hn
 have m2:=Mv.freeze (k:=n * P.cellsOf e) hB hoff hg (by rw[hcs];exact vaw hle0 (vaJ _ hnc))
 refine⟨_,m2.mono λb hb=>.inl (by have hb:b=g:=hb;rw[hb];rfl),?_⟩
 have hlm:((l.take n).map c).length=n:=by simp;omega
 have:=kw (Γ:=Γ.put g (n * P.cellsOf e)) (bs:=[]) (w:=w) (es:=(l.take n).map c) (cap:=cap) (size:=P.cellsOf e) hg (Γ.put_same _ _) (by rw[hlm];exact vak _) hkp (by rw[hlm];omega) (λi x hx=>by
  obtain⟨y,_,rfl⟩:=vai.1 (var hx)
  exact hcl y) (λi x k q hx hq=>by
  have hin:i<n:=by have:=ag hx;omega
  have hxg:(l.map c)[i]? =some x:=by
   rw[vay]at hx ⊢
   rw[vau hin]at hx
   exact hx
  have hkl:k<P.cellsOf e:=by
   obtain⟨y,_,rfl⟩:=vai.1 (var hx)
   have:=ag hq;rw[hcl y]at this;exact this
  have hlt:i * P.cellsOf e+k<l.length * P.cellsOf e:=tX (by omega) hkl
  have hpos:(pk c l)[i * P.cellsOf e+k]? =some q:=by
   unfold pk
   exact ru (λx hx=>by obtain⟨y,_,rfl⟩:=vai.1 hx;exact hcl y) hxg hq
  have hxi:i * P.cellsOf e+k<xs.length:=by rw[hown.1];exact hlt
  refine⟨xs[i * P.cellsOf e+k],?_,(hxv _ q _ hpos (vaa hxi)).mono m2.le (.refl _)⟩
  have h1:(cur.toList.take (l.length * P.cellsOf e))[i * P.cellsOf e+k]? =xs[i * P.cellsOf e+k]?:=by rw[htake]
  rw[vau hlt,vaa hxi]at h1
  simpa using h1)
 rw[hlm]at this
 exact this
end
section
variable(m:aB)(R:ae->Int->fe->Option (List aa×fe))(t:ae)(size:Int)(K:fe)
def QZ:Option (List aa×fe):=
 if((t.Op==1)||(t.Op==3)||(t.Op==2))=true then
  if(size==1)=true then(pK t.Op).bind λl=>if l.all Ip=true then some (l,K)else none else some ([],K)
 else if(t.Op==4)=true then(uv m t.Name).bind λr=>if(r.2&&((t.Args.length:Int)==0))=true then Pm R m r.1 size K else some ([],K)
 else some ([],K)
end
abbrev A0(m:aB)(mb:Nat)(t:ae)(size:Int)(key:ai)(o:List aa×fe)(Γ:aw)(w:World)(ds:List Deferred)(a':Act)(w':World):Prop:=
 a'.defers=ds/\∃Γ' v',Mv GE (λb=>b=mb) Γ w Γ' w'/\KM mb o.2 Γ' w'/\fk Pg GE eV Γ' w' (pk ac o.1) o.1.length v'/\(∀b,v'.ownBlock=some b->w.heap.size<=b)/\Fr Γ' w' a'.tmps (jf m mb t size [(7,.str key),(10,.val v')])
section
variable{mb:Nat}{K:fe}{o:List aa×fe}{key:ai}{v:Value}{Γ Γ':aw}{w w':World}{m:aB}{t:ae}{size:Int}{nn:Nat}{a:Array Value}{ds:List Deferred}{R:ae->Int->fe->Option (List aa×fe)}
theorem Lq(hk:KM mb K Γ w)(hm:Mv GE no Γ w Γ' w')(g:Fr Γ' w' a (jf m mb t size [(7,.str key),(10,.val (.slice none 0 0))])):A0 m mb t size key ([],K) Γ w ds ⟨a,ds⟩ w':=
 ⟨rfl,Γ',_,hm.mono λb h=>h.elim,hk.mv hm id,fk.nil,λb hb=>by simp[Value.ownBlock]at hb,g⟩
theorem UC{l:List aa}(hb:pK t.Op=some l)(hf:l.all Ip=true)(hB:dO GE Γ w)(hk:KM mb K Γ w)(g:Fr Γ w a (jf m mb t size [(7,.str key),(10,.val v)])):(MB Bw false).wpIn Fence.wide nn Pg (λe a' w'=>e=.normal/\A0 m mb t size key (l,K) Γ w ds a' w') ⟨a,ds⟩ w:=by
 refine wpIn_region ?_
 rw[show List.range (bP Bw).size=[0,1,2,3] by kernel_rfl]
 have e0:io Pg (bw Bw 0).op 0 (opv GE (jf m mb t size [(7,.str key),(10,.val v)])) []=(aE Pg 44 (.eptr (af t)) 0).map (λp=>(p,[])):=by kernel_rfl
 refine bK (o:=bw Bw 0) (by kernel_rfl) (by kernel_rfl) (g.opS hB (d:=36) (p:=.eptr ((af t).drop 0)) (by kernel_rfl) (by kernel_rfl) (by kernel_rfl) (by rw[e0,wg];rfl) λa1 Γ1 w1 m1 g1=>?_)
 have e1:io Pg (bw Bw 1).op 0 (opv GE ((jf m mb t size [(7,.str key),(10,.val v)]).set 36 (.eptr ((af t).drop 0)))) []=(aO Pg 37 ((af t).drop 0)).map (λp=>(p,[])):=by kernel_rfl
 refine bK (o:=bw Bw 1) (by kernel_rfl) (by kernel_rfl) (g1.opS m1.base (d:=37) (p:=.int .i64 t.Op) (by kernel_rfl) (by kernel_rfl) (by kernel_rfl) (by rw[e1,wk];rfl) λa2 Γ2 w2 m2 g2=>?_)
 have q37:(Act.mk a2 ds).eval (.tmp 37)=.int .i64 t.Op:=by
  have:=g2.ev (t:=37) (p:=.int .i64 t.Op) (by kernel_rfl) ds
  generalize (Act.mk a2 ds).eval (.tmp 37)=q at this
  cases this;rfl
 have hop:(bw Bw 2).op=.call {callee:=.value (.func Vn),args:=#[.tmp 37],argTypes:=Jm (bw Bw 2)}:=by kernel_rfl
 refine bK (o:=bw Bw 2) (by kernel_rfl) (by kernel_rfl) (GP hop (by kernel_rfl) call96 (by
  have e:(#[.tmp 37]:Array Operand).map (Act.mk a2 ds).eval=#[.int .i64 t.Op]:=by simp[q37]
  rw[e];exact Jy hb hf m2.base) ?_)
 rintro e w3 ⟨u,Γ3,rfl,m3,row3,own3⟩
 refine⟨u,rfl,?_⟩
 rw[show(bw Bw 2).dst=some 38 by kernel_rfl]
 have g3:=(g2.mv m3.le).set (d:=38) (p:=.val u) (.val u)
 refine bK (o:=bw Bw 3) (by kernel_rfl) (by kernel_rfl) (g3.opS m3.base (d:=10) (p:=.val u) (by kernel_rfl) (by kernel_rfl) (by kernel_rfl) (by kernel_rfl) λa4 Γ4 w4 m4 g4=>?_)
 have m04:Mv GE no Γ w Γ4 w4:=((m1.trans m2 λb h=>.inl h).trans m3 λb h=>.inl h).trans m4 λb h=>.inl h
 have m02:=m1.trans m2 λb h=>.inl h
 exact⟨rfl,rfl,Γ4,u,m04.mono λb h=>h.elim,hk.mv m04 id,row3.mv m4 λb _=>id,λb hb=>vaw m02.size (own3 b hb),g4.forget (by kernel_rfl)⟩
theorem UF(hR:M2 m R)(hlong:∀t n K r,R t n K=some r->r.1.length<4611686018427387904){d:aS}(hc:Pm R m d size K=some o)(hB:dO GE Γ w)(hk:KM mb K Γ w)(g:Fr Γ w a (jf m mb t size [(7,.str key),(10,.val v),(11,.eptr (aC d))])):(MB Ac false).wpIn Fence.wide nn Pg (λe a' w'=>e=.normal/\A0 m mb t size key o Γ w ds a' w') ⟨a,ds⟩ w:=by
 refine wpIn_region ?_
 rw[show List.range (bP Ac).size=[0,1,2,3,4] by kernel_rfl]
 have e0:io Pg (bw Ac 0).op 0 (opv GE (jf m mb t size [(7,.str key),(10,.val v),(11,.eptr (aC d))])) []=(aO Pg 135 (pE m mb)).map (λp=>(p,[])):=by kernel_rfl
 refine bK (o:=bw Ac 0) (by kernel_rfl) (by kernel_rfl) (g.opS hB (d:=56) (p:=.agg (pE m mb)) (by kernel_rfl) (by kernel_rfl) (by kernel_rfl) (by rw[e0,NH];rfl) λa1 Γ1 w1 m1 g1=>?_)
 have e1:io Pg (bw Ac 1).op 0 (opv GE ((jf m mb t size [(7,.str key),(10,.val v),(11,.eptr (aC d))]).set 56 (.agg (pE m mb)))) []=(aO Pg 74 (aC d)).map (λp=>(p,[])):=by kernel_rfl
 refine bK (o:=bw Ac 1) (by kernel_rfl) (by kernel_rfl) (g1.opS m1.base (d:=57) (p:=.agg (aC d)) (by kernel_rfl) (by kernel_rfl) (by kernel_rfl) (by rw[e1,C6];rfl) λa2 Γ2 w2 m2 g2=>?_)
 refine bK (o:=bw Ac 2) (by kernel_rfl) (by kernel_rfl) (g2.opS m2.base (d:=58) (p:=.int .i64 size) (by kernel_rfl) (by kernel_rfl) (by kernel_rfl) (by kernel_rfl) λa3 Γ3 w3 m3 g3=>?_)
 have m03:Mv GE no Γ w Γ3 w3:=(m1.trans m2 λb h=>.inl h).trans m3 λb h=>.inl h
 have q58:(Act.mk a3 ds).eval (.tmp 58)=.int .i64 size:=by
  have:=g3.ev (t:=58) (p:=.int .i64 size) (by kernel_rfl) ds
  generalize (Act.mk a3 ds).eval (.tmp 58)=q at this
  cases this;rfl
 have v56:=g3.ev (t:=56) (p:=.agg (pE m mb)) (by kernel_rfl) ds
 have v57:=g3.ev (t:=57) (p:=.agg (aC d)) (by kernel_rfl) ds
 have hop:(bw Ac 3).op=.call {callee:=.value (.func Vp),args:=#[.tmp 56,.tmp 57,.tmp 58],argTypes:=Jm (bw Ac 3)}:=by kernel_rfl
 refine bK (o:=bw Ac 3) (by kernel_rfl) (by kernel_rfl) (GP hop (by kernel_rfl) call98 (by
  have e:(#[.tmp 56,.tmp 57,.tmp 58]:Array Operand).map (Act.mk a3 ds).eval=#[(Act.mk a3 ds).eval (.tmp 56),(Act.mk a3 ds).eval (.tmp 57),.int .i64 size]:=by simp[q58]
  rw[e];exact callsIn_wide.1 (QN (nn:=0) hR hlong hc m3.base (hk.mv m03 id) v56 v57)) ?_)
 rintro e w4 ⟨u,Γ4,rfl,m4,k4,row4,own4⟩
 refine⟨u,rfl,?_⟩
 rw[show(bw Ac 3).dst=some 59 by kernel_rfl]
 have g4:=(g3.mv m4.le).set (d:=59) (p:=.val u) (.val u)
 refine bK (o:=bw Ac 4) (by kernel_rfl) (by kernel_rfl) (g4.opS m4.base (d:=10) (p:=.val u) (by kernel_rfl) (by kernel_rfl) (by kernel_rfl) (by kernel_rfl) λa5 Γ5 w5 m5 g5=>?_)
 exact⟨rfl,rfl,Γ5,u,((m03.mono (M:=λb=>b=mb) λb h=>h.elim).trans m4 λb h=>.inl h).trans m5 λb h=>h.elim,k4.mv m5 id,row4.mv m5 λb _=>id,λb hb=>vaw m03.size (own4 b hb),g5.forget (by kernel_rfl)⟩
theorem A0.pre{Γ0:aw}{w0:World}{a':Act}(hm:Mv GE no Γ0 w0 Γ w)(h:A0 m mb t size key o Γ w ds a' w'):A0 m mb t size key o Γ0 w0 ds a' w':=by
 obtain⟨h1,Γ',v',h2,h3,h4,h5,h6⟩:=h
 exact⟨h1,Γ',v',(hm.mono (M:=λb=>b=mb) λb h=>h.elim).trans h2 λb h=>.inl h,h3,h4,λb hb=>vaw hm.size (h5 b hb),h6⟩
theorem ST(hR:M2 m R)(hlong:∀t n K r,R t n K=some r->r.1.length<4611686018427387904)(ho:QZ m R t size K=some o)(hB:dO GE Γ w)(hk:KM mb K Γ w)(g:Fr Γ w a (jf m mb t size [(7,.str key),(10,.val (.slice none 0 0))])):(Code.seq Tm (.block 0 MQ)).wpIn Fence.wide nn Pg (λe a' w'=>e=.normal/\A0 m mb t size key o Γ w ds a' w') ⟨a,ds⟩ w:=by
 unfold QZ at ho
 refine wpIn_seq (wpIn_mono (g.piece0 (k:=0) (WM m mb t size key (.slice none 0 0)) hB (pV m mb t size ⟨vzz,vzz,vzz,vzz⟩) ds) ?_)
 rintro e ⟨a1,ds1⟩ w1 ⟨rfl,rfl,Γ1,m1,g1⟩
 refine wpIn_block ?_
 suffices hx:MQ.wpIn Fence.wide nn Pg (λe a' w'=>e=.normal/\A0 m mb t size key o Γ w ds1 a' w') ⟨a1,ds1⟩ w1 by
  refine wpIn_mono hx ?_
  rintro e a' w' ⟨rfl,h⟩
  exact⟨rfl,h⟩
 rw[Rd]
 refine wpIn_seq (wpIn_mono (g1.piece0 (k:=0) (WN m mb t size key (.slice none 0 0)) m1.base (pV m mb t size ⟨vzz,vzz,vzz,vzz,vzz⟩) ds1) ?_)
 rintro e ⟨a2,ds2⟩ w2 ⟨rfl,rfl,Γ2,m2,g2⟩
 have m02:Mv GE no Γ w Γ2 w2:=m1.trans m2 λb h=>.inl h
 refine wpIn_cond (g2.evb (t:=30) (x:=(t.Op==1)||(t.Op==3)||(t.Op==2)) (by kernel_rfl) ds2) ?_
 rcases Nu ho with⟨c1,ho⟩|⟨c1,ho⟩
 ·rw[c1]
  refine wpIn_seq (wpIn_mono ((g2.forget (tm':=jf m mb t size [(7,.str key),(10,.val (.slice none 0 0))]) (by kernel_rfl)).piece0 (k:=0) (UB m mb t size key (.slice none 0 0)) m2.base (pV m mb t size ⟨vzz,vzz,vzz,vzz⟩) ds2) ?_)
  rintro e ⟨a3,ds3⟩ w3 ⟨rfl,rfl,Γ3,m3,g3⟩
  have m03:Mv GE no Γ w Γ3 w3:=m02.trans m3 λb h=>.inl h
  have g3':=g3.forget (tm':=jf m mb t size [(7,.str key),(10,.val (.slice none 0 0))]) (by kernel_rfl)
  refine wpIn_cond (g3.evb (t:=35) (x:=size==1) (by kernel_rfl) ds3) ?_
  rcases Nu ho with⟨c2,ho⟩|⟨c2,ho⟩
  ·rw[c2]
   obtain⟨l,hl,ho⟩:=zA ho
   rcases Nu ho with⟨c3,ho⟩|⟨c3,ho⟩
   ·cases ho
    refine wpIn_mono (UC hl c3 m3.base (hk.mv m03 id) g3') ?_
    rintro e a' w' ⟨rfl,h⟩
    exact⟨rfl,h.pre m03⟩
   ·cases ho
  ·rw[c2]
   cases ho
   exact wpIn_skip ⟨rfl,Lq hk m03 g3'⟩
 ·rw[c1]
  refine wpIn_seq (wpIn_mono ((g2.forget (tm':=jf m mb t size [(7,.str key),(10,.val (.slice none 0 0)),(29,.int .i64 t.Op)]) (by kernel_rfl)).piece0 (k:=0) (UD m mb t size key (.slice none 0 0)) m2.base (pV m mb t size ⟨vzz,vzz,vzz,vzz⟩) ds2) ?_)
  rintro e ⟨a3,ds3⟩ w3 ⟨rfl,rfl,Γ3,m3,g3⟩
  have m03:Mv GE no Γ w Γ3 w3:=m02.trans m3 λb h=>.inl h
  have g3':=g3.forget (tm':=jf m mb t size [(7,.str key),(10,.val (.slice none 0 0))]) (by kernel_rfl)
  refine wpIn_cond (g3.evb (t:=39) (x:=t.Op==4) (by kernel_rfl) ds3) ?_
  rcases Nu ho with⟨c2,ho⟩|⟨c2,ho⟩
  rotate_left
  ·rw[c2]
   cases ho
   exact wpIn_skip ⟨rfl,Lq hk m03 g3'⟩
  rw[c2]
  obtain⟨⟨d,ok⟩,hr,ho⟩:=zA ho
  refine wpIn_seq (wpIn_mono (g3'.piece0 (k:=0) (UE m mb t size key (.slice none 0 0) hr) m3.base (pV m mb t size ⟨vzz,vzz,(show dR 0 (aC d)from gF d),vzz,vzz⟩) ds3) ?_)
  rintro e ⟨a4,ds4⟩ w4 ⟨rfl,rfl,Γ4,m4,g4⟩
  have m04:Mv GE no Γ w Γ4 w4:=m03.trans m4 λb h=>.inl h
  cases ok with
  |false=>
   cases ho
   refine wpIn_seq (wpIn_mono (g4.piece0 (k:=0) (SQ m mb t size key (.slice none 0 0) d) m4.base (pV m mb t size ⟨vzz,vzz,vzz,vzz⟩) ds4) ?_)
   rintro e ⟨a5,ds5⟩ w5 ⟨rfl,rfl,Γ5,m5,g5⟩
   refine wpIn_cond (g5.evb (t:=55) (x:=false) (by kernel_rfl) ds5) ?_
   exact wpIn_skip ⟨rfl,Lq hk (m04.trans m5 λb h=>.inl h) (g5.forget (by kernel_rfl))⟩
  | true =>
   refine wpIn_seq (wpIn_mono (g4.piece0 (k:=0) (SS m mb t size key (.slice none 0 0) d) m4.base (pV m mb t size ⟨vzz,vzz,(show dR 0 (aC d)from gF d),vzz,vzz⟩) ds4) ?_)
   rintro e ⟨a5,ds5⟩ w5 ⟨rfl,rfl,Γ5,m5,g5⟩
   have m05:Mv GE no Γ w Γ5 w5:=m04.trans m5 λb h=>.inl h
   refine wpIn_cond (g5.evb (t:=55) (x:=(t.Args.length:Int)==0) (by kernel_rfl) ds5) ?_
   simp only[Bool.true_and]at ho
   rcases Nu ho with⟨c3,ho⟩|⟨c3,ho⟩
   ·rw[c3]
    refine wpIn_mono (UF hR hlong ho m5.base (hk.mv m05 id) (g5.forget (tm':=jf m mb t size [(7,.str key),(10,.val (.slice none 0 0)),(11,.eptr (aC d))]) (by kernel_rfl))) ?_
    rintro e a' w' ⟨rfl,h⟩
    exact⟨rfl,h.pre m05⟩
   ·rw[c3]
    cases ho
    exact wpIn_skip ⟨rfl,Lq hk m05 (g5.forget (by kernel_rfl))⟩
end
def Pr(f:aa->aa->Bool):List aa->List aa->Bool
 |[],[]=>true
 |x::l,y::r=>f x y&&Pr f l r
 |_,_=>false
def Tg:Nat->aa->aa->Bool
 |0,_,_=>false
 |k+1,x,y=>x.Op==y.Op&&x.N==y.N&&x.Name==y.Name&&x.Params.isEmpty&&y.Params.isEmpty&&x.Body.isEmpty&&y.Body.isEmpty&&x.Binds.isEmpty&&y.Binds.isEmpty&&Pr (Tg k) x.Kids y.Kids
theorem CJ{f:aa->aa->Bool}(hf:∀x y,f x y=true->x=y):∀l r,Pr f l r=true->l=r
 |[],[],_=>rfl
 |[],_::_,h=>by cases h
 |_::_,[],h=>by cases h
 |x::l,y::r,h=>by
  simp only[Pr,vae]at h
  rw[hf x y h.1,CJ hf l r h.2]
theorem Fu:∀k x y,Tg k x y=true->x=y
 |0,_,_,h=>by cases h
 | k + 1,x,y,h => by
  simp only[Tg,vae,vaY,vcU]at h
  obtain⟨⟨⟨⟨⟨⟨⟨⟨⟨h1,h2⟩,h3⟩,h4⟩,h5⟩,h6⟩,h7⟩,h8⟩,h9⟩,h10⟩:=h
  have h11:=CJ (Fu k) _ _ h10
  have g5:x.Params=y.Params:=h4.trans h5.symm
  have g6:x.Body=y.Body:=h6.trans h7.symm
  have g7:x.Binds=y.Binds:=h8.trans h9.symm
  clear h4 h5 h6 h7 h8 h9 h10
  cases x with
  | mk a1 a2 a3 a4 a5 a6 a7 => cases y with
   |mk b1 b2 b3 b4 b5 b6 b7=>
    have h1:a1=b1:=h1
    have h2:a2=b2:=h2
    have h3:a3=b3:=h3
    have h11:a4=b4:=h11
    have g5:a5=b5:=g5
    have g6:a6=b6:=g6
    have g7:a7=b7:=g7
    rw[h1,h2,h3,h11,g5,g6,g7]
instance eqVi:SoundEq aa:=⟨Tg 1000,Fu 1000⟩
def DJ(m:aB)(R:ae->Int->fe->Option (List aa×fe))(t:ae)(size:Int)(K:fe):Option (List aa×fe):=
 (xB t).bind λtx=>(zC tx [32]).bind λk1=>(qm size).bind λnt=>(zC k1 nt).bind λkey=>match rA K key with
  |some l=>if l.length<=2000 then some (l,K)else none
  |none=>(QZ m R t size K).bind λo=>(DM gZ o.1).bind λl=>some (l.take 2000,Hm o.2 key (l.take 2000))
def DK(m:aB):Nat->ae->Int->fe->Option (List aa×fe)
 |0,_,_,_=>none
 |k+1,t,size,K=>DJ m (DK m k) t size K
theorem Kr{m:aB}:∀{k:Nat} {t:ae} {n:Int} {K:fe} {r:List aa×fe},DK m k t n K=some r->r.1.length<=2000
 |0,_,_,_,_,h=>by cases h
 | k + 1,t,n,K,r,h => by
  unfold DK DJ at h
  obtain⟨_,_,h⟩:=zA h
  obtain⟨_,_,h⟩:=zA h
  obtain⟨_,_,h⟩:=zA h
  obtain⟨key,_,h⟩:=zA h
  split at h
  ·split at h
   ·cases h;assumption
   ·cases h
  ·obtain⟨o,_,h⟩:=zA h
   obtain⟨l,_,h⟩:=zA h
   cases h
   simp only[vaN];omega
theorem Rh:MY Pg Vq (Pg.cellsOf eV):=Oy Tryz.sf99 rfl rfl (by kernel_rfl) (by kernel_rfl) call99
section
variable{mb:Nat}{K:fe}{o:List aa×fe}{key:ai}{v:Value}{Γ Γ':aw}{w w':World}{m:aB}{t:ae}{size:Int}{nn:Nat}{a:Array Value}{ds:List Deferred}{R:ae->Int->fe->Option (List aa×fe)}{l:List aa}
theorem UG(hs:DM gZ o.1=some l)(hB:dO GE Γ w)(hrow:fk Pg GE eV Γ w (pk ac o.1) o.1.length v)(g:Fr Γ w a (jf m mb t size [(7,.str key),(10,.val v)])):(MB Jc false).wpIn Fence.wide nn Pg (λe a' w'=>e=.normal/\a'.defers=ds/\∃Γ',Mv GE (λb=>v.ownBlock=some b) Γ w Γ' w'/\fk Pg GE eV Γ' w' (pk ac l) l.length v/\Fr Γ' w' a'.tmps (jf m mb t size [(7,.str key),(10,.val v)])) ⟨a,ds⟩ w:=by
 refine wpIn_region ?_
 rw[show List.range (bP Jc).size=[0,1] by kernel_rfl]
 refine bK (o:=bw Jc 0) (by kernel_rfl) (by kernel_rfl) (g.opS hB (d:=60) (p:=.val v) (by kernel_rfl) (by kernel_rfl) (by kernel_rfl) (by kernel_rfl) λa1 Γ1 w1 m1 g1=>?_)
 have q60:(Act.mk a1 ds).eval (.tmp 60)=v:=aJ (g1.raw (by kernel_rfl))
 have hop:(bw Jc 1).op=.call {callee:=.value (.func Vq),args:=#[.tmp 60,.func Ui],argTypes:=Jm (bw Jc 1)}:=by kernel_rfl
 refine bK (o:=bw Jc 1) (by kernel_rfl) (by kernel_rfl) (GP hop (by kernel_rfl) call99 (by
  have e:(#[.tmp 60,.func Ui]:Array Operand).map (Act.mk a1 ds).eval=#[v,.func (.func Ui) #[] #[]]:=by simp[q60];rfl
  rw[e];exact Oz (GD:=OS) Rh (λx y r hr=>zb r hr) call20 Pq OT aZ.hc aZ.hp aZ.ho hs m1.base (hrow.mv m1 λb _=>id)) ?_)
 rintro e w2 ⟨rfl,m2,row2⟩
 refine⟨_,rfl,rfl,aR _ _ _,Γ1,(m1.mono (M:=λb=>v.ownBlock=some b) λb h=>h.elim).trans m2 λb h=>.inl h,row2,?_⟩
 rw[show(bw Jc 1).dst=some 61 by kernel_rfl]
 exact((g1.mv m2.le).set (d:=61) (p:=.val (.tuple #[])) (.val _)).forget (by kernel_rfl)
theorem UH(hB:dO GE Γ w)(hrow:fk Pg GE eV Γ w (pk ac l) l.length v)(hlen:l.length<=ct)(g:Fr Γ w a (jf m mb t size [(7,.str key),(10,.val v)])):(MB xt false).wpIn Fence.wide nn Pg (λe a' w'=>e=.normal/\a'.defers=ds/\∃Γ',Mv GE (λb=>v.ownBlock=some b) Γ w Γ' w'/\Fr Γ' w' a'.tmps (jf m mb t size [(7,.str key),(10,sl ac (l.take 2000))])) ⟨a,ds⟩ w:=by
 refine wpIn_region ?_
 rw[show List.range (bP xt).size=[0,1,2,3,4,5] by kernel_rfl]
 refine bK (o:=bw xt 0) (by kernel_rfl) (by kernel_rfl) (g.opS hB (d:=62) (p:=.val v) (by kernel_rfl) (by kernel_rfl) (by kernel_rfl) (by kernel_rfl) λa1 Γ1 w1 m1 g1=>?_)
 refine bK (o:=bw xt 1) (by kernel_rfl) (by kernel_rfl) (g1.opS m1.base (d:=63) (p:=.val v) (by kernel_rfl) (by kernel_rfl) (by kernel_rfl) (by kernel_rfl) λa2 Γ2 w2 m2 g2=>?_)
 have m02:Mv GE no Γ w Γ2 w2:=m1.trans m2 λb h=>.inl h
 have q63:(Act.mk a2 ds).eval (.tmp 63)=v:=aJ (g2.raw (by kernel_rfl))
 have row2:=hrow.mv m02 λb _=>id
 have hrun:(execOp (Act.mk a2 ds).eval (bw xt 2)).run Pg w2=.ok (.value (.int .i64 (l.length:Int))) w2:=by
  have hop:(bw xt 2).op=.call {callee:=.builtin .len,args:=#[.tmp 63],argTypes:=#[tV]}:=by kernel_rfl
  rcases row2.form with⟨rfl,hz⟩|⟨g,cap,rfl⟩
  ·simp[execOp,hop,resolve,invoke,builtin,q63,Builtin.len_,run_underlying KQ.u,goInt,hz]
  ·simp[execOp,hop,resolve,invoke,builtin,q63,Builtin.len_,run_underlying KQ.u,goInt]
 refine bK (o:=bw xt 2) (by kernel_rfl) (by kernel_rfl) (cy (by kernel_rfl) hrun ?_)
 rw[show(bw xt 2).dst=some 64 by kernel_rfl]
 have g3:=g2.set (d:=64) (p:=.int .i64 (l.length:Int)) (.int _ _)
 refine bK (o:=bw xt 3) (by kernel_rfl) (by kernel_rfl) (g3.opS m02.base (d:=65) (p:=.int .i64 (if(2000:Int)<(l.length:Int)then 2000 else(l.length:Int))) (by kernel_rfl) (by kernel_rfl) (by kernel_rfl) (by kernel_rfl) λa4 Γ4 w4 m4 g4=>?_)
 have m04:Mv GE no Γ w Γ4 w4:=m02.trans m4 λb h=>.inl h
 have row4:=row2.mv m4 λb _=>id
 generalize hn:min l.length 2000=n
 have hnl:n<=l.length:=by omega
 have hni:(if(2000:Int)<(l.length:Int)then 2000 else(l.length:Int))=(n:Int):=by split<;>omega
 rw[hni]at g4
 have htk:l.take 2000=l.take n:=by
  by_cases h:l.length<=2000
  ·rw[show n=l.length by omega,List.take_of_length_le h,vba]
  ·rw[show n=2000 by omega]
 have q62:(Act.mk a4 ds).eval (.tmp 62)=v:=aJ (g4.raw (by kernel_rfl))
 have q65:(Act.mk a4 ds).eval (.tmp 65)=.int .i64 (n:Int):=by
  have:=g4.ev (t:=65) (p:=.int .i64 (n:Int)) (by kernel_rfl) ds
  generalize (Act.mk a4 ds).eval (.tmp 65)=q at this
  cases this;rfl
 obtain⟨hform,hfz⟩:=row4.freeze aZ.hc aZ.hp m04.base n hnl
 obtain⟨i0,z0,q1,q2,q3,q4,q5,q6⟩:=KQ.get
 have hop:(bw xt 4).op=.slice tV (.tmp 62) none (some (.tmp 65)) none:=by kernel_rfl
 have hsl:∃u,(execOp (Act.mk a4 ds).eval (bw xt 4)).run Pg w4=.ok (.value u) w4/\u=Pn v n:=by
  rcases hform with⟨rfl,rfl⟩|⟨gg,cap,rfl,hcap⟩
  ·have hn0:n=0:=by simpa using hnl
   subst hn0
   have hsb:(Instr.sliceBounds true 0 0 none (some (.int .i64 ((0:Nat):Int))) none).run Pg w4=.ok (0,0,0) w4:=
    cM (Γ:=Γ4) (bs:=[]) (lo:=none) (hi:=some (.int .i64 ((0:Nat):Int))) rfl (by simp[vH]) (λp h=>by cases h) (λ_=>rfl) (λp h=>by cases h;exact⟨_,rfl,.int _ _⟩) (λh=>by cases h) (vaQ _) (vaQ _) (vak _)
   have hsb:(Instr.sliceBounds true 0 0 none (some (.int .i64 0)) none).run Pg w4=.ok (0,0,0) w4:=hsb
   exact⟨_,by simp[execOp,hop,q62,q65,Instr.sliceAt,Instr.slice,run_underlying KQ.u,hsb,run_sizeOf w4 q1,Addr.add,Pn],rfl⟩
  ·have hsb:(Instr.sliceBounds true l.length cap none (some (.int .i64 (n:Int))) none).run Pg w4=.ok (0,n,cap) w4:=
    cM (Γ:=Γ4) (bs:=[]) (lo:=none) (hi:=some (.int .i64 (n:Int))) rfl (by simp[vH]) (λp h=>by cases h) (λ_=>rfl) (λp h=>by cases h;exact⟨_,rfl,.int _ _⟩) (λh=>by cases h) (vaQ _) hnl hcap
   exact⟨_,by simp[execOp,hop,q62,q65,Instr.sliceAt,Instr.slice,run_underlying KQ.u,hsb,run_sizeOf w4 q1,Addr.add,Pn],rfl⟩
 obtain⟨u,hru,hu⟩:=hsl
 obtain⟨Γ5,m5,v5⟩:=hfz u hu
 refine bK (o:=bw xt 4) (by kernel_rfl) (by kernel_rfl) (cy (by kernel_rfl) hru ?_)
 rw[show(bw xt 4).dst=some 66 by kernel_rfl]
 have g5:=(g4.mv m5.le).set (d:=66) (p:=sl ac (l.take n)) v5
 refine bK (o:=bw xt 5) (by kernel_rfl) (by kernel_rfl) (g5.opS m5.base (d:=10) (p:=sl ac (l.take n)) (by kernel_rfl) (by kernel_rfl) (by kernel_rfl) (by kernel_rfl) λa6 Γ6 w6 m6 g6=>?_)
 refine⟨rfl,rfl,Γ6,((m04.mono (M:=λb=>v.ownBlock=some b) λb h=>h.elim).trans m5 λb h=>.inl h).trans m6 λb h=>h.elim,?_⟩
 rw[htk]
 exact g6.forget (by kernel_rfl)
theorem UI(hB:dO GE Γ w)(hk:KM mb K Γ w)(g:Fr Γ w a (jf m mb t size [(7,.str key),(10,sl ac l)])):(MB E3 false).wpIn Fence.wide nn Pg (λe a' w'=>e=.normal/\a'.defers=ds/\∃Γ',Mv GE (λb=>b=mb) Γ w Γ' w'/\KM mb (Hm K key l) Γ' w'/\Fr Γ' w' a'.tmps (bT 72 [(10,sl ac l)] [] []).tmps) ⟨a,ds⟩ w:=by
 refine wpIn_region ?_
 rw[show List.range (bP E3).size=[0,1,2,3,4] by kernel_rfl]
 refine bK (o:=bw E3 0) (by kernel_rfl) (by kernel_rfl) (g.opS hB (d:=67) (p:=.eptr [.val (.map (some mb))]) (by kernel_rfl) (by kernel_rfl) (by kernel_rfl) (by kernel_rfl) λa1 Γ1 w1 m1 g1=>?_)
 refine bK (o:=bw E3 1) (by kernel_rfl) (by kernel_rfl) (g1.opS m1.base (d:=68) (p:=.val (.map (some mb))) (by kernel_rfl) (by kernel_rfl) (by kernel_rfl) (by kernel_rfl) λa2 Γ2 w2 m2 g2=>?_)
 refine bK (o:=bw E3 2) (by kernel_rfl) (by kernel_rfl) (g2.opS m2.base (d:=69) (p:=.str key) (by kernel_rfl) (by kernel_rfl) (by kernel_rfl) (by kernel_rfl) λa3 Γ3 w3 m3 g3=>?_)
 refine bK (o:=bw E3 3) (by kernel_rfl) (by kernel_rfl) (g3.opS m3.base (d:=70) (p:=sl ac l) (by kernel_rfl) (by kernel_rfl) (by kernel_rfl) (by kernel_rfl) λa4 Γ4 w4 m4 g4=>?_)
 have m04:Mv GE no Γ w Γ4 w4:=((m1.trans m2 λb h=>.inl h).trans m3 λb h=>.inl h).trans m4 λb h=>.inl h
 have q68:(Act.mk a4 ds).eval (.tmp 68)=.map (some mb):=aJ (g4.raw (by kernel_rfl))
 have q69:=g4.ev (t:=69) (p:=.str key) (by kernel_rfl) ds
 have q70:=g4.ev (t:=70) (p:=sl ac l) (by kernel_rfl) ds
 obtain⟨w5,hrun,m5,k5⟩:=L7 m4.base (hk.mv m04 id) q69 q70
 refine bK (o:=bw E3 4) (by kernel_rfl) (by kernel_rfl) (jS (by kernel_rfl) (w':=w5) (by simp[execOp,show(bw E3 4).op=.mapUpdate tM (.tmp 68) (.tmp 69) (.tmp 70) by kernel_rfl,q68,hrun]) ?_)
 rw[show(bw E3 4).dst=none by kernel_rfl]
 exact⟨rfl,rfl,Γ4,(m04.mono (M:=λb=>b=mb) λb h=>h.elim).trans m5 λb h=>.inl h,k5,(g4.mv m5.le).forget (by kernel_rfl)⟩
theorem WJ(hB:dO GE Γ w)(hk:KM mb K Γ w)(g:Fr Γ w a (jf m mb t size [(7,.str key)])):(MB Lp false).wpIn Fence.wide nn Pg (λe a' w'=>e=.normal/\a'.defers=ds/\∃Γ',Mv GE no Γ w Γ' w'/\Fr Γ' w' a'.tmps (jf m mb t size [(7,.str key),(8,sl ac ((rA K key).getD [])),(9,.bool (rA K key).isSome)])) ⟨a,ds⟩ w:=by
 refine wpIn_region ?_
 rw[show List.range (bP Lp).size=[0,1,2,3,4,5,6,7,8] by kernel_rfl]
 refine bK (o:=bw Lp 0) (by kernel_rfl) (by kernel_rfl) (g.opS hB (d:=20) (p:=.eptr [.val (.map (some mb))]) (by kernel_rfl) (by kernel_rfl) (by kernel_rfl) (by kernel_rfl) λa1 Γ1 w1 m1 g1=>?_)
 refine bK (o:=bw Lp 1) (by kernel_rfl) (by kernel_rfl) (g1.opS m1.base (d:=21) (p:=.val (.map (some mb))) (by kernel_rfl) (by kernel_rfl) (by kernel_rfl) (by kernel_rfl) λa2 Γ2 w2 m2 g2=>?_)
 refine bK (o:=bw Lp 2) (by kernel_rfl) (by kernel_rfl) (g2.opS m2.base (d:=22) (p:=.str key) (by kernel_rfl) (by kernel_rfl) (by kernel_rfl) (by kernel_rfl) λa3 Γ3 w3 m3 g3=>?_)
 have m03:Mv GE no Γ w Γ3 w3:=(m1.trans m2 λb h=>.inl h).trans m3 λb h=>.inl h
 have q21:(Act.mk a3 ds).eval (.tmp 21)=.map (some mb):=aJ (g3.raw (by kernel_rfl))
 have q22:=g3.ev (t:=22) (p:=.str key) (by kernel_rfl) ds
 obtain⟨u,hrun,hu⟩:=L6 m3.base (hk.mv m03 id) q22
 generalize (rA K key).getD []=l at hu
 generalize (rA K key).isSome=b at hu
 refine bK (o:=bw Lp 3) (by kernel_rfl) (by kernel_rfl) (cy (by kernel_rfl) (v:=u) (w':=w3) (by simp[execOp,show(bw Lp 3).op=.lookup tM (.tmp 21) (.tmp 22) true by kernel_rfl,q21,hrun]) ?_)
 rw[show(bw Lp 3).dst=some 23 by kernel_rfl]
 have g4:=g3.set (d:=23) hu
 refine bK (o:=bw Lp 4) (by kernel_rfl) (by kernel_rfl) (g4.opS m3.base (d:=19) (p:=.tuple [sl ac l,.bool b]) (by kernel_rfl) (by kernel_rfl) (by kernel_rfl) (by kernel_rfl) λa5 Γ5 w5 m5 g5=>?_)
 refine bK (o:=bw Lp 5) (by kernel_rfl) (by kernel_rfl) (g5.opS m5.base (d:=24) (p:=sl ac l) (by kernel_rfl) (by kernel_rfl) (by kernel_rfl) (by kernel_rfl) λa6 Γ6 w6 m6 g6=>?_)
 refine bK (o:=bw Lp 6) (by kernel_rfl) (by kernel_rfl) (g6.opS m6.base (d:=25) (p:=.bool b) (by kernel_rfl) (by kernel_rfl) (by kernel_rfl) (by kernel_rfl) λa7 Γ7 w7 m7 g7=>?_)
 refine bK (o:=bw Lp 7) (by kernel_rfl) (by kernel_rfl) (g7.opS m7.base (d:=8) (p:=sl ac l) (by kernel_rfl) (by kernel_rfl) (by kernel_rfl) (by kernel_rfl) λa8 Γ8 w8 m8 g8=>?_)
 refine bK (o:=bw Lp 8) (by kernel_rfl) (by kernel_rfl) (g8.opS m8.base (d:=9) (p:=.bool b) (by kernel_rfl) (by kernel_rfl) (by kernel_rfl) (by kernel_rfl) λa9 Γ9 w9 m9 g9=>?_)
 exact⟨rfl,rfl,Γ9,((((m03.trans m5 λb h=>.inl h).trans m6 λb h=>.inl h).trans m7 λb h=>.inl h).trans m8 λb h=>.inl h).trans m9 λb h=>.inl h,g9.forget (by kernel_rfl)⟩
theorem ME{r:List aa×fe}(hR:M2 m R)(hlong:∀t n K r,R t n K=some r->r.1.length<4611686018427387904)(h:DJ m R t size K=some r)(hB:dO GE Γ w)(hk:KM mb K Γ w){u0 u1:Value}(h0:VR Γ [] w (.agg (pE m mb)) u0)(h1:VR Γ [] w (.agg (af t)) u1):Calls Pg Qe #[u0,u1,.int .i64 size] w λe w'=>∃v Γ',e=.returned v/\Mv GE (λb=>b=mb) Γ w Γ' w'/\KM mb r.2 Γ' w'/\VR Γ' [] w' (sl ac r.1) v:=by
 refine callsIn_wide.1 (callsIn_of_wp (n:=0) func67 (c:=O4) rfl vzz ?_)
 unfold DJ at h
 obtain⟨tx,e1,h⟩:=zA h
 obtain⟨k1,e2,h⟩:=zA h
 obtain⟨nt,e3,h⟩:=zA h
 obtain⟨key,e4,h⟩:=zA h
 have g0:Fr Γ w (#[u0,u1,.int .i64 size]++Array.replicate 69 undef) (bT 72 [(0,.agg (pE m mb)),(1,.agg (af t)),(2,.int .i64 size)] [] []).tmps:=by
  refine⟨by kernel_rfl,λk p u hp hu=>?_⟩
  have htm:(bT 72 [(0,.agg (pE m mb)),(1,.agg (af t)),(2,.int .i64 size)] [] []).tmps=[.agg (pE m mb),.agg (af t),.int .i64 size]++List.replicate 69 .undef:=by kernel_rfl
  rw[htm]at hp
  by_cases hk:k<3
  ·rw[vac (by simpa using hk)]at hp
   rw[vaR (by simpa using hk)]at hu
   match k,hk with
   |0,_=>simp at hp hu;subst hp;subst hu;exact h0
   |1,_=>simp at hp hu;subst hp;subst hu;exact h1
   |2,_=>simp at hp hu;subst hp;subst hu;exact .int _ _
  ·rw[vad (by simpa using hk),vaW]at hp
   split at hp<;>cases hp
   exact .undef u
 have fin:∀{a:Array Value} {Γ':aw} {w':World} {l:List aa} {K':fe},(l,K')=r->Mv GE (λb=>b=mb) Γ w Γ' w'->KM mb K' Γ' w'->Fr Γ' w' a (bT 72 [(6,sl ac l)] [] []).tmps->
   bodyPost Pg f67 (λe w'=>∃v Γ',e=.returned v/\Mv GE (λb=>b=mb) Γ w Γ' w'/\KM mb r.2 Γ' w'/\VR Γ' [] w' (sl ac r.1) v) .ret ⟨a,[]⟩ w':=λ{a Γ' w' l K'} hr hm hk' hf=>by
  subst hr
  obtain⟨u,q1,q2,_⟩:=qq (hf.sr (P:=Pg) hm.base 0) (fn:=f67) (r:=sl ac l) (by kernel_rfl)
  exact⟨rfl,u,q1,u,Γ',rfl,hm,hk',q2⟩
 show O4.wpIn Fence.wide 0 Pg _ ⟨#[u0,u1,.int .i64 size]++Array.replicate 69 undef,[]⟩ w
 rw[QC]
 refine wpIn_seq (wpIn_mono (g0.piece0 (k:=0) (WH m mb t size) hB (pV m mb t size (L:=[]) trivial) []) ?_)
 rintro e ⟨a1,ds1⟩ w1 ⟨rfl,rfl,Γ1,m1,g1⟩
 refine wpIn_seq (wpIn_mono (g1.piece0 (k:=0) (WI m mb t size key e1 e2 e3 e4) m1.base (pV m mb t size ⟨vzz,vzz⟩) []) ?_)
 rintro e ⟨a2,ds2⟩ w2 ⟨rfl,rfl,Γ2,m2,g2⟩
 have m02:Mv GE no Γ w Γ2 w2:=m1.trans m2 λb h=>.inl h
 refine wpIn_seq (wpIn_seq (wpIn_mono (WJ m2.base (hk.mv m02 id) g2) ?_))
 rintro e ⟨a3,ds3⟩ w3 ⟨rfl,rfl,Γ3,m3,g3⟩
 have m03:Mv GE no Γ w Γ3 w3:=m02.trans m3 λb h=>.inl h
 refine wpIn_seq (wpIn_mono (g3.piece0 (k:=0) (WK m mb t size key _ _) m3.base (pV m mb t size ⟨vzz,bq cR _,vzz,vzz,vzz⟩) []) ?_)
 rintro e ⟨a4,ds4⟩ w4 ⟨rfl,rfl,Γ4,m4,g4⟩
 have m04:Mv GE no Γ w Γ4 w4:=m03.trans m4 λb h=>.inl h
 refine wpIn_cond (g4.evb (t:=26) (x:=(rA K key).isSome) (by kernel_rfl) []) ?_
 cases hg:rA K key with
 | some l =>
  rw[hg]at h g4
  simp only at h
  split at h
  rotate_left
  ·cases h
  refine wpIn_mono ((g4.forget (tm':=jf m mb t size [(7,.str key),(8,sl ac l)]) (by kernel_rfl)).piece0 (k:=0) (WL m mb t size key l) m4.base (pb ⟨bq cR l,vzz⟩) []) ?_
  rintro e ⟨a5,ds5⟩ w5 ⟨rfl,rfl,Γ5,m5,g5⟩
  have m05:Mv GE no Γ w Γ5 w5:=m04.trans m5 λb h=>.inl h
  exact fin (vax h) (m05.mono λb h=>h.elim) (hk.mv m05 id) g5
 | none =>
  rw[hg]at h g4
  simp only at h
  obtain⟨o,ho,h⟩:=zA h
  obtain⟨l,hl,h⟩:=zA h
  refine wpIn_skip ?_
  rw[SO]
  have g4':=g4.forget (tm':=jf m mb t size [(7,.str key)]) (by kernel_rfl)
  refine wpIn_seq (wpIn_region ?_)
  rw[show List.range (bP SM).size=[0] by kernel_rfl]
  have ec:(Act.mk a4 []).eval (.const (.slice none 0 0))=.slice none 0 0:=rfl
  refine bK (o:=bw SM 0) (by kernel_rfl) (by kernel_rfl) (cy (by kernel_rfl) (v:=.slice none 0 0) (w':=w4) (by simp[execOp,show(bw SM 0).op=.assign (.const (.slice none 0 0)) by kernel_rfl,ec]) ?_)
  rw[show(bw SM 0).dst=some 10 by kernel_rfl]
  have g5:=(g4'.set (d:=10) (p:=.val (.slice none 0 0)) (.val _)).forget (tm':=jf m mb t size [(7,.str key),(10,.val (.slice none 0 0))]) (by kernel_rfl)
  show(Code.seq (.seq Tm (.block 0 MQ)) sY).wpIn Fence.wide 0 Pg _ ⟨a4.setIfInBounds 10 (.slice none 0 0),[]⟩ w4
  refine wpIn_seq (wpIn_mono (ST hR hlong ho m4.base (hk.mv m04 id) g5) ?_)
  rintro e ⟨a6,ds6⟩ w6 ⟨rfl,hd6,Γ6,v6,m6,k6,row6,own6,g6⟩
  simp only at hd6;subst hd6
  have m06:Mv GE (λb=>b=mb) Γ w Γ6 w6:=(m04.mono (M:=λb=>b=mb) λb h=>h.elim).trans m6 λb h=>.inl h
  have nmb:¬v6.ownBlock=some mb:=λhx=>by
   have:=own6 mb hx
   have:=m04.size
   have:=hk.off.2.1
   omega
  obtain⟨hokS,hrl⟩:=Jf hl
  have hlen:l.length<=ct:=by rw[hrl];exact(Df hokS).1
  rw[SP]
  refine wpIn_seq (wpIn_mono (UG hl m6.base row6 g6) ?_)
  rintro e ⟨a7,ds7⟩ w7 ⟨rfl,hd7,Γ7,m7,row7,g7⟩
  simp only at hd7;subst hd7
  refine wpIn_seq (wpIn_mono (UH m7.base row7 hlen g7) ?_)
  rintro e ⟨a8,ds8⟩ w8 ⟨rfl,hd8,Γ8,m8,g8⟩
  simp only at hd8;subst hd8
  have k8:=(k6.mv m7 nmb).mv m8 nmb
  refine wpIn_seq (wpIn_mono (UI m8.base k8 g8) ?_)
  rintro e ⟨a9,ds9⟩ w9 ⟨rfl,hd9,Γ9,m9,k9,g9⟩
  simp only at hd9;subst hd9
  have hown:∀b,v6.ownBlock=some b->b=mb\/w.heap.size<=b:=λb hb=>.inr (vaw m04.size (own6 b hb))
  have m09:Mv GE (λb=>b=mb) Γ w Γ9 w9:=((m06.trans m7 hown).trans m8 hown).trans m9 λb h=>.inl h
  refine wpIn_mono (g9.piece0 (k:=0) (UJ (l.take 2000)) m9.base (pb ⟨bq cR _,vzz⟩) []) ?_
  rintro e ⟨a10,ds10⟩ w10 ⟨rfl,rfl,Γ10,m10,g10⟩
  exact fin (vax h) (m09.trans m10 λb h=>h.elim) (k9.mv m10 id) g10
end
theorem M4{Γ:aw}{w:World}{cs:List PVal}{mb:Nat}{v:Value}(hc:dR 0 cs)(h:VR Γ [some mb] w (.agg (cs++[.mapr 0])) v):VR Γ [] w (.agg (cs++[.val (.map (some mb))])) v:=by
 cases h with
 | agg _ vs hl hx =>
  refine .agg _ vs (by simpa using hl) λi p u hp hu=>?_
  by_cases hi:i<cs.length
  ·rw[vac hi]at hp
   exact(hx i p u (by rw[vac hi];exact hp) hu).clo (gr hc hp)
  ·rw[vad (by omega)]at hp
   have hi0:i - cs.length=0:=by have:=ag hp;simp at this;exact this
   rw[hi0]at hp
   simp at hp;subst hp
   have:=hx i (.mapr 0) u (by rw[vad (by omega),hi0];rfl) hu
   cases this with
   |mapr _ b hb=>
    simp at hb
    subst hb
    exact .val _
theorem P0{m:aB}{R:ae->Int->fe->Option (List aa×fe)}(hR:M2 m R)(hlong:∀t n K r,R t n K=some r->r.1.length<4611686018427387904):M2 m (DJ m R):=λt n K r h=>by
 refine⟨call67,λΓ bs ow w vs hS=>?_⟩
 have hB:dO GE Γ w:=hS.base
 have hsz:vs.size=3:=hS.sz
 obtain⟨v0,v1,v2,rfl⟩:=RR hsz
 have hbl:bs.length=1:=hS.bl
 obtain⟨x,rfl⟩:∃x,bs=[x]:=List.length_eq_one_iff.1 hbl
 have hv0:=hS.tm 0 _ v0 rfl rfl
 have hv1:=hS.tm 1 _ v1 rfl rfl
 have hv2:=hS.tm 2 _ v2 rfl rfl
 obtain⟨mb,rfl⟩:∃mb,x=some mb:=by
  cases hv0 with
  |agg _ vs hl hx=>
   have hlt:6<vs.size:=by rw[hl];simp[jP]
   have:=hx 6 (.mapr 0) vs[6] (by rw[vad (by rw[jP];decide),jP];rfl) (vaF hlt)
   generalize vs[6]=q at this
   cases this with
   |mapr _ b hb=>exact⟨b,by simpa using hb⟩
 cases hv2
 obtain⟨k1,k2,k3⟩:=hS.bx 0 mb _ rfl rfl
 have hTm:bX [some mb] ow mb:=.inl ⟨0,rfl⟩
 have hk:KM mb K Γ w:=⟨⟨k1,k2,λg cs hg e=>(hS.gx g cs hg).2.1 (e▸hTm)⟩,k3.down (JG _)⟩
 refine(ME hR hlong h hB hk (M4 (rm m) hv0) (hv1.clo (show dR 0 (af t)from dw t))).mono λe w' he=>?_
 obtain⟨v,Γ',rfl,hm,hk',hv⟩:=he
 have up:∀{p v},VR Γ' [] w' p v->VR Γ' [some mb] w' p v:=λh=>h.mono (.refl _ _) (λi b h=>by simp at h)
 refine⟨v,Γ',λ_=>none,rfl,{
  wi:=hm.base.wi
  sz:=rfl
  tm:=λi p u hp hu=>by
   match i with
   |0=>simp at hp hu;subst hp;subst hu;exact up hv
   |i+1=>simp at hp
  bl:=rfl
  bx:=λi b B hb hBx=>by
   cases i with
   |zero=>
    simp at hb hBx;subst hb;subst hBx
    exact⟨hk'.off.1,hk'.off.2.1,hk'.br.up⟩
   |succ i=>simp at hb
  inj:=λi j b hi hj=>by
   cases i<;>cases j<;>simp at hi hj ⊢
  bn:=λi b hb=>.inl (.inl ⟨i,hb⟩)
  on:=λb L hL=>by cases hL
  ot:=λt k e he=>by simp at he
  ob:=λi j e cs own b hBx=>by
   cases i<;>simp at hBx
  gl:=λg cs hg=>up (hm.base.gl g cs hg)
  gc:=hm.base.gc
  gx:=hS.gx
  step:={hm.step with
   keep:=λb hb hn=>hm.step.keep b hb λe=>hn (by have e:b=mb:=e;rw[e];exact hTm)}}⟩
theorem Je(m:aB):∀k,M2 m (DK m k)
 |0=>λt n K r h=>by cases h
 |k+1=>P0 (Je m k) λt n K r h=>by have:=Kr h;omega
instance iqV{α:Type}{c:α->List PVal}[q:KE c]:KF (sl c):=⟨λl=>bq q.h l⟩
def A7(m:List aS)(m3:List eD)(m4:List bN)(m5:List ce)(m6:List gj)(m7:List kW)(t:ae)(n:Int)(K:fe):Option (List aa×fe):=DK ⟨m,m3,m4,m5,m6,m7⟩ (n.toNat+1) t n K
theorem D9{m:List aS}{m3:List eD}{m4:List bN}{m5:List ce}{m6:List gj}{m7:List kW}{t:ae}{n:Int}{K:fe}{r:List aa×fe}(h:A7 m m3 m4 m5 m6 m7 t n K=some r):C Pg GE Qe [.agg [sl aC m,sl ee m3,sl bS m4,sl cj m5,sl eJ m6,sl fF m7,.mapr 0],.agg (af t),.int .i64 n] [] [.map (jp (sl ac) K)] (sl ac r.1) [] [.map (jp (sl ac) r.2)]:=Je _ _ t n K r h
end Go.Proofs.YtjddnhkahpfhdaaGreatDoor
