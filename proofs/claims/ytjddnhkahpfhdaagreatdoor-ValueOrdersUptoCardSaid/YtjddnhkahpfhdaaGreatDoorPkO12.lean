/- PROVED: a part of the proof. Conditions: none. -/
import Derived.Test.YtjddnhkahpfhdaaGreatDoorPkO11
set_option linter.unusedSimpArgs false
set_option linter.unusedVariables false
noncomputable section
namespace Go.Proofs.YtjddnhkahpfhdaaGreatDoor
open Go Go.RowKit Go.Proofs.Tryz
set_option linter.unusedVariables false
set_option maxRecDepth 100000
section
variable{α τ:Type}
def CR(f:τ->α->Option (Bool×τ)):List α->τ->Option (Bool×τ)
 |[],s=>some (true,s)
 |x::l,s=>(f s x).bind λr=>match r.1 with
  |true=>CR f l r.2
  |false=>some (false,r.2)
end
abbrev fe:=List (ai×List aa)
def P1(size:Int)(k:Nat):List Int:=(List.range (size - k).toNat).map λ(i:Nat)=>(i:Int)+1
section
variable{S:Type}(R:ae->Int->fe->Option (List aa×fe))(step:S->List aa->Option (Bool×S))
def Fe:List ae->Int->List aa->S×fe->Option (Bool×S×fe)
 |[],size,kids,s=>if(size !=0)=true then some (true,s)else(step s.1 kids).bind λr=>some (r.1,r.2,s.2)
 |t::ts,size,kids,s=>CR (λs n=>(R t n s.2).bind λq=>CR (λs v=>(app kids [v]).bind λks=>Fe ts (size - n) ks s) q.1 (s.1,q.2)) (P1 size ts.length) s
end
abbrev QQ:Nat:=147
abbrev Qe:Nat:=67
abbrev eV:Nat:=36
abbrev tV:Nat:=31
noncomputable def O5:Code:=f147.body.getD .skip
abbrev Vr:Code:=aW O5 [false]
abbrev Vs:Code:=aW O5 [true,false,false]
abbrev BL:Code:=aW O5 [true,false,true,false,false]
abbrev Vt:Code:=aW O5 [true,true,false,false]
abbrev iL:Code:=aW O5 [true,true,false,true,true,true]
abbrev Vu:Code:=aW iL [false,false]
abbrev qM:Code:=aW iL [true,false,true,false]
abbrev iM:Code:=aW iL [true,false,true,true,true,true]
abbrev Vv:Code:=aW iL [true,true]
abbrev Vw:Code:=aW iM [false]
abbrev iB:Code:=aW iM [true,true,false,true]
abbrev Sm:Code:=aW iM [true,true,true]
abbrev Un:Code:=aW iB [false]
abbrev uU:Code:=aW iB [true,false]
abbrev hU:Code:=aW iB [true,true,false,false]
abbrev Sl:Code:=aW iB [true,true,false,true,false,false]
abbrev mV:Code:=aW iB [true,true,true]
abbrev Sn:Code:=aW O5 [true,true,true,false]
theorem QD:O5=.seq Vr (.seq (.seq Vs (.cond (.tmp 14) (.seq BL .ret) .skip)) (.seq (.seq Vt (.block 0 (.loop iL))) (.seq Sn .ret))):=by kernel_rfl
theorem Sj:iL=.seq (.seq Vu (.cond (.tmp 28) .skip (.exit 0))) (.seq (.block 1 (.seq qM (.block 2 (.loop iM)))) Vv):=by kernel_rfl
theorem Sk:iM=.seq Vw (.seq (.cond (.tmp 39) .skip (.exit 2)) (.seq (.block 3 iB) Sm)):=by kernel_rfl
theorem Si:iB=.seq Un (.seq uU (.seq (.seq hU (.cond (.tmp 55) (.seq Sl .ret) .skip)) mV)):=by kernel_rfl
theorem QS:BL=.region (wh BL) (bP BL) false:=by kernel_rfl
theorem QT:qM=.region (wh qM) (bP qM) true:=by kernel_rfl
theorem QU:uU=.region (wh uU) (bP uU) true:=by kernel_rfl
theorem Pz:hU=.region (wh hU) (bP hU) true:=by kernel_rfl
theorem PA:mV=.region (wh mV) (bP mV) false:=by kernel_rfl
abbrev yv(l:Nat):PVal:=.val (.func (.yield l) #[] #[])
structure Cx where
 l:Nat
 kb:Nat
 mb:Nat
 m:aB
 fv:Value
abbrev Cx.mv(x:Cx):Value:=.map (some x.mb)
abbrev Cx.kp(x:Cx):Value:=.pointer (some ⟨x.kb,0,none⟩)
abbrev Cx.sp(x:Cx):List PVal:=aX x.m++[.val x.mv]
abbrev BE(x:Cx)(ts:List ae)(size:Int)(L:List (Nat×PVal))(H:List aq):ax:=bT 62 ((0,sl af ts)::(1,.int .i64 size)::(2,.eptr [yv x.l])::(3,.val x.kp)::(4,.eptr x.sp)::(5,.eptr [.val x.fv])::L) H []
theorem Qd(x:Cx):dR 0 x.sp:=kL.2 ⟨rm x.m,vzz,vzz⟩
theorem Nh(x:Cx)(ts:List ae)(size:Int){L:List (Nat×PVal)}(h:Id 0 L)(H:List aq):dR 0 (BE x ts size L H).tmps:=
 pb ⟨bq dw ts,vzz,⟨vzz,vzz⟩,vzz,(show dR 0 x.sp from Qd x),⟨vzz,vzz⟩,h⟩
abbrev ON(b:Bool):ax:=bT 62 [(8,.bool b)] [] []
section
variable(x:Cx)(ts:List ae)(size n i:Int)(l:List aa)(y:aa)
theorem Wq:cN Pg GE 0 Vr (EX .normal (BE x ts size [] [])) (BE x ts size [] []):=by
 have z:=eF .normal (BE x ts size [] [])
 exact cJ (A:=[]) mixed z (by kernel_rfl)
theorem Wr:cN Pg GE 0 Vs (EX .normal (BE x ts size [(14,.bool ((ts.length:Int)==0))] [])) (BE x ts size [] []):=by
 have z:=Tn (fK.ln ts)<|eF .normal (BE x ts size [(14,.bool ((ts.length:Int)==0))] [])
 exact cJ (A:=[]) mixed z (by kernel_rfl)
theorem Ws(c:(size !=0)=true):cN Pg GE 0 (.seq BL .ret) (EX .ret (ON true)) (BE x ts size [] []):=by
 have z:=sg 3 c<|eF .ret (ON true)
 exact cJ (A:=[]) mixed z (by kernel_rfl)
theorem Wt:cN Pg GE 0 Vt (EX .normal (BE x ts size [(9,.int .i64 1)] [])) (BE x ts size [] []):=by
 have z:=eF .normal (BE x ts size [(9,.int .i64 1)] [])
 exact cJ (A:=[]) mixed z (by kernel_rfl)
theorem Wu:cN Pg GE 0 Vu (EX .normal (BE x ts size [(9,.int .i64 n),(28,.bool (decide (n<=cc (cc (size - (ts.length:Int))+1))))] [])) (BE x ts size [(9,.int .i64 n)] []):=by
 have z:=Tn (fK.ln ts)<|eF .normal (BE x ts size [(9,.int .i64 n),(28,.bool (decide (n<=cc (cc (size - (ts.length:Int))+1))))] [])
 exact cJ (A:=[]) mixed z (by kernel_rfl)
theorem Wv:cN Pg GE 0 Vv (EX .normal (BE x ts size [(9,.int .i64 (cc (n+1)))] [])) (BE x ts size [(9,.int .i64 n)] []):=by
 have z:=eF .normal (BE x ts size [(9,.int .i64 (cc (n+1)))] [])
 exact cJ (A:=[]) mixed z (by kernel_rfl)
abbrev xL(L:List (Nat×PVal))(H:List aq):ax:=BE x ts size ((9,.int .i64 n)::L++[(36,sl ac l),(37,.int .i64 (l.length:Int)),(38,.int .i64 i)]) H
theorem Wx:cN Pg GE 0 Vw (EX .normal (BE x ts size [(9,.int .i64 n),(36,sl ac l),(37,.int .i64 (l.length:Int)),(38,.int .i64 i),(39,.bool (decide (i<(l.length:Int))))] [])) (xL x ts size n i l [] []):=by
 have z:=eF .normal (BE x ts size [(9,.int .i64 n),(36,sl ac l),(37,.int .i64 (l.length:Int)),(38,.int .i64 i),(39,.bool (decide (i<(l.length:Int))))] [])
 exact cJ (A:=[]) mixed z (by kernel_rfl)
theorem Ue:dR 0 ([.int .i64 y.Op,.int .i64 y.N,.str y.Name,sl ac y.Kids,sl cS y.Params,sl ak y.Body,sl aL y.Binds]:List PVal):=by have:=cR y;rwa[bm]at this
abbrev xV:List PVal:=[.int .i64 y.Op,.int .i64 y.N,.str y.Name,sl ac y.Kids,sl cS y.Params,sl ak y.Body,sl aL y.Binds]
theorem Wy(hy:ed l i=some y):cN Pg GE 0 Un (EX .normal (xL x ts size n i l [(11,.eptr (ac y))] [.dead])) (xL x ts size n i l [] []):=by
 have z:=sv (aZ.ia (k:=.i64) hy)<|sv (al y)<|sx vI<|sx (dz y)<|eF .normal (xL x ts size n i l [(11,.bptr 0 0)] [.cells (xV y) []])
 have h1:cN Pg GE 0 Un (EX .normal (xL x ts size n i l [(11,.bptr 0 0)] [.cells (xV y) []])) (xL x ts size n i l [] []):=cJ (A:=[]) mixed z (by kernel_rfl)
 have z2:=UK 0 [xV y] [0,1,2,3,4,5,9,11,36,37,38] [] (Uj (m:=0) (b:=0) rfl (xV y) rfl) (Uk 0 (Ue y)) (Ul (l:=xV y) (r:=xV y) rfl)<|sf (Ti 0 (p:=sl af ts) (bq dw ts))<|sf (J7 0 (p:=[yv x.l]) ⟨vzz,vzz⟩)<|sf (J7 0 (p:=x.sp) (Qd x))<|sf (J7 0 (p:=[.val x.fv]) ⟨vzz,vzz⟩)<|sf (Ti 0 (p:=sl ac l) (bq cR l))<|en (fr (xL x ts size n i l [(11,.eptr (xV y))] [.dead]))
 have h2:=h1.thenW (st2:=xL x ts size n i l [(11,.eptr (xV y))] [.dead]) (Um z2 (by kernel_rfl))
 rw[bm]
 exact h2
theorem Up:cN Pg GE 0 (.seq Sl .ret) (EX .ret (ON false)) (BE x ts size [] []):=by
 have z:=eF .ret (ON false)
 exact cJ (A:=[]) mixed z (by kernel_rfl)
theorem Ur:cN Pg GE 0 Sm (EX .normal (xL x ts size n (cc (i+1)) l [] [])) (xL x ts size n i l [] []):=by
 have z:=eF .normal (xL x ts size n (cc (i+1)) l [] [])
 exact cJ (A:=[]) mixed z (by kernel_rfl)
theorem Us:cN Pg GE 0 (.seq Sn .ret) (EX .ret (ON true)) (BE x ts size [] []):=by
 have z:=eF .ret (ON true)
 exact cJ (A:=[]) mixed z (by kernel_rfl)
end
open Go Go.RowKit
set_option linter.unusedSimpArgs false
def At(Γ:aw)(w:World)(a:Array Value)(d:Nat)(p:PVal):Prop:=∃v,a[d]? =some v/\VR Γ [] w p v
section
variable{P:Program}{GE:List (Nat×List PVal)}{Γ Γ':aw}{w w':World}{a:Array Value}{tm:List PVal}{ds:List Deferred}{n:Nat}{next:Act->World->Prop}{Q:Exit->Act->World->Prop}{Fc:Fence}[hF:OkF Fc]
theorem At.mv{d:Nat}{p:PVal}(h:At Γ w a d p)(hle:Γ.Le w Γ' w'):At Γ' w' a d p:=h.imp λv h=>⟨h.1,h.2.mono hle (.refl _)⟩
theorem At.ne{d d':Nat}{p:PVal}{v:Value}(h:At Γ w a d p)(hd:d'≠d):At Γ w (a.setIfInBounds d' v) d p:=h.imp λu h=>⟨by rw[vav hd];exact h.1,h.2⟩
theorem At.here{d:Nat}{p:PVal}{v:Value}(hd:d<a.size)(hv:VR Γ [] w p v):At Γ w (a.setIfInBounds d v) d p:=⟨v,by simp[hd],hv⟩
theorem At.ev{d:Nat}{p:PVal}(h:At Γ w a d p)(ds:List Deferred):VR Γ [] w p ((Act.mk a ds).eval (.tmp d)):=by
 obtain⟨v,h1,h2⟩:=h
 rw[show(Act.mk a ds).eval (.tmp d)=v from aJ h1]
 exact h2
theorem Fr.at(h:Fr Γ w a tm){t:Nat}{p:PVal}(hp:tm[t]? =some p):At Γ w a t p:=h.get hp
theorem Fr.add(h:Fr Γ w a tm){d:Nat}{p:PVal}(hp:At Γ w a d p):Fr Γ w a (tm.set d p):=⟨by simp[h.sz],λt q u hq hu=>by
 obtain⟨v,h1,h2⟩:=hp
 simp only[vbj]at hq
 by_cases hdt:d=t
 ·subst hdt
  simp only[if_true]at hq
  split at hq
  ·cases hq;rw[h1]at hu;cases hu;exact h2
  ·cases hq
 ·simp only[hdt,if_false]at hq
  exact h.tm t q u hq hu⟩
theorem Fr.blank(h:Fr Γ w a tm){d:Nat}{v:Value}(hu:tm[d]? =some .undef):Fr Γ w (a.setIfInBounds d v) tm:=by
 have:=h.set (d:=d) (p:=.undef) (v:=v) (.undef v)
 rwa[show tm.set d .undef=tm from vbk λi=>by
  rw[vbj]
  split
  ·rename_i hi;subst hi
   split
   ·exact hu.symm
   ·rename_i hl;rw[vaS (by omega)]
  ·rfl]at this
theorem Fr.opS(h:Fr Γ w a tm)(hB:dO GE Γ w){o:Oper}{p:PVal}{d:Nat}(hdst:o.dst=some d)(hd:co o=true)(hm:au o.op=false)(hp:io P o.op 0 (opv GE tm) []=some (p,[]))
  (hn:∀a' Γ' w',Mv GE no Γ w Γ' w'->Fr Γ' w' a' (tm.set d p)->next ⟨a',ds⟩ w'):o.wpIn Fc n P ⟨a,ds⟩ w next Q:=by
 refine h.op hB hd hm hp λv Γ' w' hmv hv=>?_
 rw[hdst]
 exact hn _ Γ' w' hmv ((h.mv hmv.le).set hv)
structure mC(tm:List PVal)(tbl:List (Nat×Nat×PVal))(L:Nat->Prop)(a:Array Value)(Γ:aw)(w:World):Prop where
 fr:Fr Γ w a tm
 at':∀x∈tbl,L x.1->At Γ w a x.2.1 x.2.2
theorem mC.mv{tbl:List (Nat×Nat×PVal)}{L:Nat->Prop}(h:mC tm tbl L a Γ w)(hle:Γ.Le w Γ' w'):mC tm tbl L a Γ' w':=⟨h.fr.mv hle,λx hx hl=>(h.at' x hx hl).mv hle⟩
def DS(tm:List PVal)(tbl:List (Nat×Nat×PVal)):Prop:=(∀x∈tbl,tm[x.2.1]? =some .undef)/\∀x∈tbl,∀y∈tbl,x.2.1=y.2.1\/x.1=y.1->x=y
theorem mC.put{tbl:List (Nat×Nat×PVal)}{L:Nat->Prop}(ht:DS tm tbl)(h:mC tm tbl L a Γ w){i d:Nat}{p:PVal}{v:Value}(hx:(i,d,p)∈tbl)(hv:VR Γ [] w p v):mC tm tbl (λj=>L j\/j=i) (a.setIfInBounds d v) Γ w:=by
 have hu:=ht.1 _ hx
 have hd:d<a.size:=by rw[h.fr.sz];exact ag hu
 refine⟨h.fr.blank hu,λy hy hl=>?_⟩
 by_cases hyd:y.2.1=d
 ·have:=ht.2 y hy _ hx (.inl hyd)
  subst this
  exact .here hd hv
 ·refine(h.at' y hy (hl.resolve_right λe=>hyd ?_)).ne λe=>hyd e.symm
  have:=ht.2 y hy _ hx (.inr e)
  rw[this]
theorem mC.other{tbl:List (Nat×Nat×PVal)}{L:Nat->Prop}(h:mC tm tbl L a Γ w){i d:Nat}{v:Value}(hu:tm[d]? =some .undef)(hd:∀x∈tbl,x.2.1≠d/\x.1≠i):mC tm tbl (λj=>L j\/j=i) (a.setIfInBounds d v) Γ w:=
 ⟨h.fr.blank hu,λy hy hl=>(h.at' y hy (hl.resolve_right (hd y hy).2)).ne λe=>(hd y hy).1 e.symm⟩
def kr(tm:List PVal)(l:List (Nat×Nat×PVal)):List PVal:=l.foldl (λt x=>t.set x.2.1 x.2.2) tm
theorem Ad:∀{l:List (Nat×Nat×PVal)} {tm:List PVal},Fr Γ w a tm->(∀x∈l,At Γ w a x.2.1 x.2.2)->Fr Γ w a (kr tm l)
 |[],_,h,_=>h
 |x::l,tm,h,hl=>Ad (l:=l) (tm:=tm.set x.2.1 x.2.2) (h.add (hl x (by simp))) λy hy=>hl y (by simp[hy])
theorem iR{tbl:List (Nat×Nat×PVal)}{L:Nat->Prop}(ht:DS tm tbl)(hB:dO GE Γ w)(h:mC tm tbl L a Γ w){o:Oper}{i d:Nat}{p:PVal}(hx:(i,d,p)∈tbl)(hdst:o.dst=some d)(hd:co o=true)(hm:au o.op=false)
  (need:List (Nat×Nat×PVal)) (hn:∀x∈need,x∈tbl/\(EA o).contains x.1=true) (hed:∀e∈o.after.toList,Region.binds .any e=true->L e.on) (hp:io P o.op 0 (opv GE (kr tm need)) []=some (p,[])):
  o.wpIn Fc n P ⟨a,ds⟩ w (λa' w'=>∃Γ',Mv GE no Γ w Γ' w'/\a'.defers=ds/\mC tm tbl (λj=>L j\/j=i) a'.tmps Γ' w'/\∃u,a'.tmps=a.setIfInBounds d u) Q:=by
 have hf:Fr Γ w a (kr tm need):=Ad h.fr λx hx=>h.at' x (hn x hx).1 (gu (hn x hx).2 hed)
 refine hf.op hB hd hm hp λv Γ' w' hmv hv=>⟨Γ',hmv,aR _ _ _,?_⟩
 rw[hdst]
 exact⟨(h.mv hmv.le).put ht hx hv,v,rfl⟩
end
def OG(tm:List PVal)(tbl:List (Nat×Nat×PVal)):Bool:=tbl.all (λx=>match tm[x.2.1]? with
 |some .undef=>true
 |_=>false)&&(tbl.map λx=>x.2.1).Nodup&&(tbl.map λx=>x.1).Nodup
theorem zT{α β:Type}{f:α->β}:∀{l:List α},(l.map f).Nodup->∀x∈l,∀y∈l,f x=f y->x=y
 |[],_,x,hx,_,_,_=>by cases hx
 | a :: l,h,x,hx,y,hy,e => by
  rw[vaG,vbB]at h
  rcases vaB.1 hx with hx1|hx1<;>rcases vaB.1 hy with hy1|hy1
  ·rw[hx1,hy1]
  ·exact absurd (vai.2 ⟨y,hy1,by rw[<-e,hx1]⟩) h.1
  ·exact absurd (vai.2 ⟨x,hx1,by rw[e,hy1]⟩) h.1
  ·exact zT h.2 x hx1 y hy1 e
theorem vB{tm:List PVal}{tbl:List (Nat×Nat×PVal)}(h:OG tm tbl=true):DS tm tbl:=by
 unfold OG at h
 simp only[vae,vam,vap]at h
 refine⟨λx hx=>?_,λx hx y hy e=>?_⟩
 ·have:=h.1.1 x hx
  split at this
  ·assumption
  ·cases this
 ·rcases e with e|e
  ·exact zT h.1.2 x hx y hy e
  ·exact zT h.2 x hx y hy e
structure Yv{S:Type}(lo l:Nat)(step:S->List aa->Option (Bool×S))(J:(Nat->Prop)->Bool->S->aw->World->Prop):Prop where
 base:∀{F b s Γ w},J F b s Γ w->dO GE Γ w
 low:∀{F b s Γ w},J F b s Γ w->∀b,F b->b<w.heap.size
 side:∀{F b s Γ w M Γ' w'},J F b s Γ w->Mv GE M Γ w Γ' w'->(∀b,M b->¬F b)->J F b s Γ' w'
 yield:∀{F s Γ w kids v r} n,J F true s Γ w->fk Pg GE eV Γ w (pk ac kids) kids.length v->(∀b,v.ownBlock=some b->¬F b/\lo<=b)->step s kids=some r->
  YieldAt Fence.wide n Pg l #[v] w λe w'=>∃Γ' F',e=.returned (.bool r.1)/\Mv GE F Γ w Γ' w'/\(∀b,F' b->F b\/w.heap.size<=b)/\J F' r.1 r.2 Γ' w'
structure KM(mb:Nat)(K:fe)(Γ:aw)(w:World):Prop where
 off:ni GE Γ w mb
 br:BR Γ [] w (.map (jp (sl ac) K)) mb
theorem KM.mv{mb:Nat}{K:fe}{Γ Γ':aw}{w w':World}{M:Nat->Prop}(h:KM mb K Γ w)(hm:Mv GE M Γ w Γ' w')(hM:¬M mb):KM mb K Γ' w':=⟨h.off.mv hm hM,h.br.mono hm.le (.refl _) (hm.keep h.off.2.1 hM)⟩
theorem JG(K:fe):∀x∈jp (sl ac) K,x.1.cl 0/\x.2.cl 0:=Uc (sl ac) (λl=>bq cR l) K
theorem BR.up{Γ:aw}{bs:bh}{w:World}{es:List (PVal×PVal)}{b:Nat}(h:BR Γ [] w (.map es) b):BR Γ bs w (.map es) b:=h.mono (.refl _ _) (λi b h=>by simp at h) rfl
theorem BR.down{Γ:aw}{bs:bh}{w:World}{es:List (PVal×PVal)}{b:Nat}(hc:∀x∈es,x.1.cl 0/\x.2.cl 0)(h:BR Γ bs w (.map es) b):BR Γ [] w (.map es) b:=by
 obtain⟨ents,clock,h1,h2,h3,h4⟩:=h
 exact⟨ents,clock,h1,h2,λj k u x hj hx=>by
  obtain⟨k1,k2⟩:=hc _ (var hj)
  exact⟨(h3 j k u x hj hx).1.clo k1,(h3 j k u x hj hx).2.clo k2⟩,h4⟩
theorem O1{Γ:aw}{w:World}{cs:List PVal}{mb:Nat}{v:Value}(h:VR Γ [] w (.agg (cs++[.val (.map (some mb))])) v):VR Γ [some mb] w (.agg (cs++[.mapr 0])) v:=by
 cases h with
 | agg _ vs hl hx =>
  refine .agg _ vs (by simpa using hl) λi p u hp hu=>?_
  by_cases hi:i<cs.length
  ·rw[vac hi]at hp
   exact(hx i p u (by rw[vac hi];exact hp) hu).mono (.refl _ _) (λi b h=>by simp at h)
  ·rw[vad (by omega)]at hp
   have hi0:i - cs.length=0:=by have:=ag hp;simp at this;exact this
   rw[hi0]at hp
   simp at hp;subst hp
   have:=hx i (.val (.map (some mb))) u (by rw[vad (by omega),hi0];rfl) hu
   cases this
   exact .mapr 0 mb rfl
theorem NG(x:Cx):aO Pg 135 x.sp=some (.agg x.sp):=by
 have hl:x.sp.length=Pg.cellsOf 135:=by
  rw[show Pg.cellsOf 135=7 by kernel_rfl]
  show(aX x.m++[_]).length=7
  rw[vat,jP];rfl
 have hu:aO Pg 135 x.sp=if Pg.cellsOf 135<=x.sp.length then some (.agg (x.sp.take (Pg.cellsOf 135)))else none:=by kernel_rfl
 rw[hu,<-hl,vaA (vak _),vba]
def M2(m:aB)(R:ae->Int->fe->Option (List aa×fe)):Prop:=∀t n K r,R t n K=some r->C Pg GE Qe [.agg (aX m++[.mapr 0]),.agg (af t),.int .i64 n] [] [.map (jp (sl ac) K)] (sl ac r.1) [] [.map (jp (sl ac) r.2)]
theorem Ks{m:aB}{mb:Nat}{t:ae}{n:Int}{K:fe}{r:List aa×fe}{Γ:aw}{w:World}{v1 v2 v3:Value}(hC:C Pg GE Qe [.agg (aX m++[.mapr 0]),.agg (af t),.int .i64 n] [] [.map (jp (sl ac) K)] (sl ac r.1) [] [.map (jp (sl ac) r.2)])
  (hB:dO GE Γ w) (hk:KM mb K Γ w) (h1:VR Γ [] w (.agg (aX m++[.val (.map (some mb))])) v1) (h2:VR Γ [] w (.agg (af t)) v2) (h3:VR Γ [] w (.int .i64 n) v3):
  Calls Pg Qe #[v1,v2,v3] w λe w'=>∃v Γ',e=.returned v/\Mv GE (λb=>b=mb) Γ w Γ' w'/\KM mb r.2 Γ' w'/\VR Γ' [] w' (sl ac r.1) v:=by
 have hT:∀b,bX [some mb] (λ_=>none) b↔b=mb:=λb=>⟨λh=>by
  rcases h with⟨i,hi⟩|h
  ·cases i with
   |zero=>simpa using hi.symm
   |succ i=>simp at hi
  ·exact absurd rfl h,λh=>.inl ⟨0,by rw[h];rfl⟩⟩
 have up:∀{p v},VR Γ [] w p v->VR Γ [some mb] w p v:=λh=>h.mono (.refl _ _) (λi b h=>by simp at h)
 have hS:SR Pg ⟨GE,Γ,w,bX [some mb] λ_=>none⟩ Γ [some mb] (λ_=>none) w #[v1,v2,v3] ⟨[.agg (aX m++[.mapr 0]),.agg (af t),.int .i64 n],[.map (jp (sl ac) K)],[]⟩:={
  wi:=hB.wi
  sz:=rfl
  tm:=λi p v hp hv=>by
   match i with
   |0=>simp at hp hv;subst hp;subst hv;exact O1 h1
   |1=>simp at hp hv;subst hp;subst hv;exact up h2
   |2=>simp at hp hv;subst hp;subst hv;exact up h3
   |i+3=>simp at hp
  bl:=rfl
  bx:=λi b B hb hBx=>by
   cases i with
   |zero=>
    simp at hb hBx;subst hb;subst hBx
    exact⟨hk.off.1,hk.off.2.1,hk.br.up⟩
   |succ i=>simp at hb
  inj:=λi j b hi hj=>by
   cases i<;>cases j<;>simp at hi hj ⊢
  bn:=λi b hb=>.inl (.inl ⟨i,hb⟩)
  on:=λb L hL=>by cases hL
  ot:=λt k e he=>by simp at he
  ob:=λi j e cs own b hBx=>by
   cases i<;>simp at hBx
  gl:=λg cs hg=>up (hB.gl g cs hg)
  gc:=hB.gc
  gx:=λg cs hg=>⟨(hB.gx g cs hg).1,λh=>hk.off.2.2 g cs hg ((hT g).1 h),(hB.gx g cs hg).2⟩
  step:=.refl _ _ _ _}
 refine(hC.2 Γ [some mb] (λ_=>none) w _ hS).mono λe w' he=>?_
 obtain⟨v,Γ',ow',rfl,h'⟩:=he
 obtain⟨k1,k2,k3⟩:=h'.bx 0 mb _ rfl rfl
 refine⟨v,Γ',rfl,(Mv.of h').mono λb hb=>.inl ((hT b).1 hb),⟨⟨k1,k2,hk.off.2.2⟩,k3.down (JG _)⟩,(h'.tm 0 _ v rfl rfl).clo (bq cR _)⟩
section
variable{x:Cx}{t:ae}{ts:List ae}{size n:Int}{K:fe}{a:Array Value}{Γ:aw}{w:World}{ds:List Deferred}{nn:Nat}
def E4(x:Cx)(t:ae)(ts:List ae)(n:Int)(l:List aa):List (Nat×Nat×PVal):=
 [(0,31,.agg x.sp),(1,32,sl af (t::ts)),(2,33,.eptr (af t)),(3,34,.agg (af t)),(4,35,.int .i64 n),(5,36,sl ac l),(6,37,.int .i64 (l.length:Int)),(7,38,.int .i64 0)]
abbrev MR(x:Cx)(ts:List ae)(size n:Int):List PVal:=(BE x ts size [(9,.int .i64 n)] []).tmps
theorem OE(l:List aa):DS (MR x (t::ts) size n) (E4 x t ts n l):=vB (by kernel_rfl)
theorem Uu(l:List ae):ed (t::l) 0=some t:=rfl
def I6(x:Cx)(t:ae)(ts:List ae)(size n:Int)(K:fe)(r:List aa×fe)(Γ0:aw)(w0:World)(ds:List Deferred)(L:Nat->Prop)(a:Act)(w:World):Prop:=
 a.defers=ds/\∃Γ K1,Mv GE (λb=>b=x.mb) Γ0 w0 Γ w/\KM x.mb K1 Γ w/\(¬L 5->K1=K)/\(L 5->K1=r.2)/\mC (MR x (t::ts) size n) (E4 x t ts n r.1) L a.tmps Γ w
theorem I6.pure{r:List aa×fe}{Γ0:aw}{w0:World}{L:Nat->Prop}{Q:Exit->Act->World->Prop}{a:Act}(h:I6 x t ts size n K r Γ0 w0 ds L a w){o:Oper}{i d:Nat}{p:PVal}(hi:i≠5)(hx:(i,d,p)∈E4 x t ts n r.1)(hdst:o.dst=some d)(hd:co o=true)(hm:au o.op=false)
  (need:List (Nat×Nat×PVal)) (hn:∀y∈need,y∈E4 x t ts n r.1/\(EA o).contains y.1=true) (hed:∀e∈o.after.toList,Region.binds .any e=true->L e.on) (hp:io Pg o.op 0 (opv GE (kr (MR x (t::ts) size n) need)) []=some (p,[])):
  o.wpIn Fence.wide nn Pg a w (I6 x t ts size n K r Γ0 w0 ds λj=>L j\/j=i) Q:=by
 obtain⟨a,ds'⟩:=a
 obtain⟨rfl,Γ,K1,h1,h2,h3,h4,h5⟩:=h
 refine Oper.wpIn_mono (λa' w' hq=>?_) (iR (OE r.1) h1.base h5 hx hdst hd hm need hn hed hp)
 obtain⟨Γ',hm',hd',hP,_⟩:=hq
 exact⟨hd',Γ',K1,h1.trans hm' (λb h=>.inl h.elim),h2.mv hm' id,λh=>h3 λh'=>h (.inl h'),λh=>h4 (h.resolve_right λe=>hi e.symm),hP⟩
theorem Ww{r:List aa×fe}(hC:C Pg GE Qe [.agg (aX x.m++[.mapr 0]),.agg (af t),.int .i64 n] [] [.map (jp (sl ac) K)] (sl ac r.1) [] [.map (jp (sl ac) r.2)])(hB:dO GE Γ w)(hk:KM x.mb K Γ w)(hfr:Fr Γ w a (MR x (t::ts) size n)):qM.wpIn Fence.wide nn Pg (λe a' w'=>e=.normal/\a'.defers=ds/\∃Γ',Mv GE (λb=>b=x.mb) Γ w Γ' w'/\KM x.mb r.2 Γ' w'/\Fr Γ' w' a'.tmps (xL x (t::ts) size n 0 r.1 [] []).tmps) ⟨a,ds⟩ w:=by
 have key:(Code.region (wh qM) (bP qM) true).wpIn Fence.wide nn Pg (λe a' w'=>e=.normal/\a'.defers=ds/\∃Γ',Mv GE (λb=>b=x.mb) Γ w Γ' w'/\KM x.mb r.2 Γ' w'/\Fr Γ' w' a'.tmps (xL x (t::ts) size n 0 r.1 [] []).tmps) ⟨a,ds⟩ w:=by
  refine CH mixed (by kernel_rfl) (by kernel_rfl) (I6 x t ts size n K r Γ w ds) ?_ ?_ ?_
  ·intro L a1 w1 i o hI ho hnl hed
   have hi:i<8:=by
    have h1:=(vaf.1 ho).1
    have h2:(bP qM).size=8:=by kernel_rfl
    omega
   have hlk:∀q,(aO Pg 135 x.sp).map (λp=>(p,([]:List aq)))=some q->q=(.agg x.sp,[])\/True:=λ_ _=>.inr vzz
   rcases(show i=0\/i=1\/i=2\/i=3\/i=4\/i=5\/i=6\/i=7 by omega)with rfl|rfl|rfl|rfl|rfl|rfl|rfl|rfl
   ·obtain rfl:bw qM 0=o:=vax ((show(bP qM)[0]? =some (bw qM 0) by kernel_rfl).symm.trans ho)
    refine hI.pure (d:=31) (p:=.agg x.sp) (by decide) (by simp[E4]) (by kernel_rfl) (by kernel_rfl) (by kernel_rfl) [] (by simp) hed ?_
    have e1:io Pg (bw qM 0).op 0 (opv GE (kr (MR x (t::ts) size n) [])) []=(aO Pg 135 x.sp).map (λp=>(p,[])):=by kernel_rfl
    rw[e1,NG];rfl
   ·obtain rfl:bw qM 1=o:=vax ((show(bP qM)[1]? =some (bw qM 1) by kernel_rfl).symm.trans ho)
    exact hI.pure (d:=32) (p:=sl af (t::ts)) (by decide) (by simp[E4]) (by kernel_rfl) (by kernel_rfl) (by kernel_rfl) [] (by simp) hed (by kernel_rfl)
   ·obtain rfl:bw qM 2=o:=vax ((show(bP qM)[2]? =some (bw qM 2) by kernel_rfl).symm.trans ho)
    refine hI.pure (d:=33) (p:=.eptr (af t)) (by decide) (by simp[E4]) (by kernel_rfl) (by kernel_rfl) (by kernel_rfl) [(1,32,sl af (t::ts))] (by intro y hy;obtain rfl:=vbg.1 hy;exact⟨by simp[E4],by kernel_rfl⟩) hed ?_
    have e1:io Pg (bw qM 2).op 0 (opv GE (kr (MR x (t::ts) size n) [(1,32,sl af (t::ts))])) []=(jH Pg 38 (sl af (t::ts)) (.int .i64 0)).map (λp=>(p,[])):=by kernel_rfl
    rw[e1,fK.ia (k:=.i64) (Uu ts)];rfl
   ·obtain rfl:bw qM 3=o:=vax ((show(bP qM)[3]? =some (bw qM 3) by kernel_rfl).symm.trans ho)
    refine hI.pure (d:=34) (p:=.agg (af t)) (by decide) (by simp[E4]) (by kernel_rfl) (by kernel_rfl) (by kernel_rfl) [(2,33,.eptr (af t))] (by intro y hy;obtain rfl:=vbg.1 hy;exact⟨by simp[E4],by kernel_rfl⟩) hed ?_
    have e1:io Pg (bw qM 3).op 0 (opv GE (kr (MR x (t::ts) size n) [(2,33,.eptr (af t))])) []=(aO Pg 44 (af t)).map (λp=>(p,[])):=by kernel_rfl
    rw[e1,eI];rfl
   ·obtain rfl:bw qM 4=o:=vax ((show(bP qM)[4]? =some (bw qM 4) by kernel_rfl).symm.trans ho)
    exact hI.pure (d:=35) (p:=.int .i64 n) (by decide) (by simp[E4]) (by kernel_rfl) (by kernel_rfl) (by kernel_rfl) [] (by simp) hed (by kernel_rfl)
   ·obtain rfl:bw qM 5=o:=vax ((show(bP qM)[5]? =some (bw qM 5) by kernel_rfl).symm.trans ho)
    obtain⟨a1,ds'⟩:=a1
    obtain⟨rfl,Γ1,K1,h1,h2,h3,h4,h5⟩:=hI
    obtain rfl:=h3 hnl
    have c1:=h5.at' (0,31,.agg x.sp) (by simp[E4]) (gu (j:=0) (by kernel_rfl) hed)
    have c2:=h5.at' (3,34,.agg (af t)) (by simp[E4]) (gu (j:=3) (by kernel_rfl) hed)
    have c3:=h5.at' (4,35,.int .i64 n) (by simp[E4]) (gu (j:=4) (by kernel_rfl) hed)
    have hop:(bw qM 5).op=.call {callee:=.value (.func Qe),args:=#[.tmp 31,.tmp 34,.tmp 35],argTypes:=Jm (bw qM 5)}:=by kernel_rfl
    refine zB hop (g:=Qe) (fs:=#[]) (cs:=#[]) rfl call67 (callsIn_wide.2 (by
     have e:(#[]++(#[.tmp 31,.tmp 34,.tmp 35]:Array Operand).map (Act.mk a1 ds').eval++#[])=#[(Act.mk a1 ds').eval (.tmp 31),(Act.mk a1 ds').eval (.tmp 34),(Act.mk a1 ds').eval (.tmp 35)]:=by simp
     rw[e]
     exact Ks hC h1.base h2 (c1.ev ds') (c2.ev ds') (c3.ev ds'))) ?_
    rintro e w' ⟨v,Γ',rfl,hmv,hk',hv⟩
    refine⟨v,rfl,aR _ _ _,Γ',r.2,h1.trans hmv (λb h=>.inl h),hk',λh=>absurd (.inr rfl) h,λ_=>rfl,?_⟩
    rw[show(bw qM 5).dst=some 36 by kernel_rfl]
    exact(h5.mv hmv.le).put (OE r.1) (i:=5) (d:=36) (p:=sl ac r.1) (by simp[E4]) hv
   ·obtain rfl:bw qM 6=o:=vax ((show(bP qM)[6]? =some (bw qM 6) by kernel_rfl).symm.trans ho)
    refine hI.pure (d:=37) (p:=.int .i64 (r.1.length:Int)) (by decide) (by simp[E4]) (by kernel_rfl) (by kernel_rfl) (by kernel_rfl) [(5,36,sl ac r.1)] (by intro y hy;obtain rfl:=vbg.1 hy;exact⟨by simp[E4],by kernel_rfl⟩) hed ?_
    have e1:io Pg (bw qM 6).op 0 (opv GE (kr (MR x (t::ts) size n) [(5,36,sl ac r.1)])) []=(vG Pg 31 (sl ac r.1) []).map (λp=>(p,[])):=by kernel_rfl
    rw[e1,aZ.ln r.1];rfl
   ·obtain rfl:bw qM 7=o:=vax ((show(bP qM)[7]? =some (bw qM 7) by kernel_rfl).symm.trans ho)
    exact hI.pure (d:=38) (p:=.int .i64 0) (by decide) (by simp[E4]) (by kernel_rfl) (by kernel_rfl) (by kernel_rfl) [] (by simp) hed (by kernel_rfl)
  ·rintro L a1 w1 ⟨hd,Γ1,K1,h1,h2,h3,h4,h5⟩ hall
   have hs:(bP qM).size=8:=by kernel_rfl
   obtain rfl:=h4 (hall 5 (by omega))
   refine⟨rfl,hd,Γ1,h1,h2,?_⟩
   have hf:=Ad (l:=[(5,36,sl ac r.1),(6,37,.int .i64 (r.1.length:Int)),(7,38,.int .i64 0)]) h5.fr λy hy=>by
    rcases vaB.1 hy with rfl|hy
    ·exact h5.at' _ (by simp[E4]) (hall 5 (by omega))
    rcases vaB.1 hy with rfl|hy
    ·exact h5.at' _ (by simp[E4]) (hall 6 (by omega))
    rcases vaB.1 hy with rfl|hy
    ·exact h5.at' _ (by simp[E4]) (hall 7 (by omega))
    ·cases hy
   exact hf
  ·exact⟨rfl,Γ,K,(Mv.drawn hB 1),hk.mv (M:=no) (Mv.drawn hB 1) id,λ_=>rfl,λh=>h.elim,⟨hfr.mv (Mv.drawn (M:=no) hB 1).le,λy _ h=>h.elim⟩⟩
 rw[<-QT]at key
 exact key
end
theorem KQ:Rp Pg tV eV:=⟨underlying31,by kernel_rfl⟩
structure Sd{S:Type}(lo:Nat)(x:Cx)(J:(Nat->Prop)->Bool->S->aw->World->Prop)(F:Nat->Prop)(s:S)(K:fe)(kids:List aa)(v:Value)(Γ:aw)(w:World):Prop where
 j:J F true s Γ w
 k:KM x.mb K Γ w
 kf:¬F x.mb
 hd:vC w x.kb v
 ho:ni GE Γ w x.kb
 hf:¬F x.kb
 hm:x.kb≠x.mb
 row:fk Pg GE eV Γ w (pk ac kids) kids.length v
 rf:∀b,v.ownBlock=some b->¬F b/\lo<=b/\b≠x.kb/\b≠x.mb
 lw:lo<=w.heap.size
section
variable{S:Type}{lo:Nat}{x:Cx}{step:S->List aa->Option (Bool×S)}{J:(Nat->Prop)->Bool->S->aw->World->Prop}{F:Nat->Prop}{s:S}{K:fe}{kids ks:List aa}{v:Value}{y:aa}
variable{ts:List ae}{size n i:Int}{l:List aa}{a:Array Value}{Γ Γ':aw}{w w':World}{ds:List Deferred}{nn:Nat}
theorem Sd.mv(hY:Yv lo x.l step J)(h:Sd lo x J F s K kids v Γ w){M:Nat->Prop}(hm:Mv GE M Γ w Γ' w')(hM:∀b,M b->¬F b/\b≠x.mb/\b≠x.kb/\v.ownBlock≠some b):Sd lo x J F s K kids v Γ' w' where
 j:=hY.side h.j hm λb hb=>(hM b hb).1
 k:=h.k.mv hm λhb=>(hM _ hb).2.1 rfl
 kf:=h.kf
 hd:=h.hd.mv hm λhb=>(hM _ hb).2.2.1 rfl
 ho:=h.ho.mv hm λhb=>(hM _ hb).2.2.1 rfl
 hf:=h.hf
 hm:=h.hm
 row:=h.row.mv hm λb hb hM'=>(hM b hM').2.2.2 hb
 rf:=h.rf
 lw:=vaw h.lw hm.size
abbrev P3(x:Cx)(ts:List ae)(size n i:Int)(l:List aa)(y:aa):List PVal:=(xL x ts size n i l [(11,.eptr (ac y))] []).tmps
abbrev HP(x:Cx)(ts:List ae)(size n i:Int)(l:List aa):List PVal:=(xL x ts size n i l [] []).tmps
abbrev z9:List PVal:=[.int .i64 0,.int .i64 0,.str [],.slice [],.slice [],.slice [],.slice []]
def Qn(y:aa):List (Nat×Nat×PVal):=[(1,43,.agg (ac y)),(3,45,.slice [z9])]
theorem OF:DS (P3 x ts size n i l y) (Qn y):=vB (by kernel_rfl)
theorem RQ:Qp tV eV (bP uU) 4 5 6 7 42 44 45 46 47 43 3 [42,43,44,45,46,47] (bw uU 4) (bw uU 5) (bw uU 6) (bw uU 7):=
 ⟨by kernel_rfl,by kernel_rfl,by kernel_rfl,by kernel_rfl,by kernel_rfl,by kernel_rfl,by kernel_rfl,by kernel_rfl,by kernel_rfl,by kernel_rfl,by kernel_rfl,by kernel_rfl,by kernel_rfl,by kernel_rfl,by kernel_rfl,by kernel_rfl,by kernel_rfl⟩
theorem Cv{α:Type}{l r o:List α}(h:app l r=some o):l.length+r.length<=ct/\o=l++r:=by
 unfold app at h
 split at h
 ·cases h;exact⟨by assumption,rfl⟩
 ·cases h
theorem BK(l:List aa)(y:aa):pk ac (l++[y])=pk ac l++ac y:=by simp[pk]
theorem nJ{D:List Nat}{a0 a:Array Value}{d:Nat}{u:Value}(hD:D.contains d=true)(h:∀t,D.contains t=false->a[t]? =a0[t]?):∀t,D.contains t=false->(a.setIfInBounds d u)[t]? =a0[t]?:=λt ht=>by
 rw[vav (λe=>by rw[e,ht]at hD;cases hD)];exact h t ht
def I9(x:Cx)(ts:List ae)(size n i:Int)(l:List aa)(y:aa)(v:Value)(k:Nat)(a0:Array Value)(L:Nat->Prop)(a:Act)(Γ:aw)(w:World):Prop:=
 mC (P3 x ts size n i l y) (Qn y) L a.tmps Γ w/\(L 0->a.tmps[42]? =some v)/\(L 2->a.tmps[44]? =some (.int .i64 (k:Int)))/\∀t,[42,43,44,45,46,47].contains t=false->a.tmps[t]? =a0[t]?
def UM(tm:List PVal)(D:List Nat):Bool:=D.all λt=>match tm[t]? with
 |some .undef=>true
 |_=>false
theorem Ls{tm:List PVal}{D:List Nat}{a0:Array Value}(h:Fr Γ w a0 tm)(hs:a.size=a0.size)(h1:∀t,D.contains t=false->a[t]? =a0[t]?)(hD:UM tm D=true):Fr Γ w a tm:=
 ⟨by rw[hs,h.sz],λt p u hp hu=>by
  cases ht:D.contains t with
  |false=>rw[h1 t ht]at hu;exact h.tm t p u hp hu
  | true =>
   have:=vap.1 hD t (by simpa using ht)
   rw[hp]at this
   split at this
   ·rename_i hq;cases hq;exact .undef u
   ·cases this⟩
theorem Wz(hY:Yv lo x.l step J)(hs:Sd lo x J F s K kids v Γ w)(hap:app kids [y]=some ks)(hfr:Fr Γ w a (P3 x ts size n i l y)):uU.wpIn Fence.wide nn Pg (λe a' w'=>e=.normal/\a'.defers=ds/\∃Γ' v',Mv GE (λb=>b=x.kb\/v.ownBlock=some b) Γ w Γ' w'/\(∀b,v'.ownBlock=some b->v.ownBlock=some b\/w.heap.size<=b)/\Sd lo x J F s K ks v' Γ' w'/\Fr Γ' w' a'.tmps (HP x ts size n i l)) ⟨a,ds⟩ w:=by
 obtain⟨hlen,rfl⟩:=Cv hap
 have hB:=hY.base hs.j
 have hsz:a.size=62:=hfr.sz
 have hraw:a[3]? =some x.kp:=hfr.raw (u:=x.kp) (by kernel_rfl)
 have key:(Code.region (wh uU) (bP uU) true).wpIn Fence.wide nn Pg (λe a' w'=>e=.normal/\a'.defers=ds/\∃Γ' v',Mv GE (λb=>b=x.kb\/v.ownBlock=some b) Γ w Γ' w'/\(∀b,v'.ownBlock=some b->v.ownBlock=some b\/w.heap.size<=b)/\Sd lo x J F s K (kids++[y]) v' Γ' w'/\Fr Γ' w' a'.tmps (HP x ts size n i l)) ⟨a,ds⟩ w:=by
  refine M8 (T:=tV) (e:=eV) (cs:=pk ac kids) (ps:=ac y) (k:=kids.length) (v:=v) (kb:=x.kb) mixed (by kernel_rfl) (by kernel_rfl) KQ (by kernel_rfl) (by kernel_rfl) RQ hB hs.row (aZ.flat_len kids) hs.hd hs.ho (λh=>(hs.rf _ h).2.2.1 rfl) (by simpa using hlen) (aZ.hc y) (aZ.ho y) (I9 x ts size n i l y v kids.length a) ?_ ?_ (by rw[hsz];decide) (by rw[hsz];decide) ?_ ?_
  ·rintro L ⟨a1,ds'⟩ Γ1 w1 j o hmv ⟨hP,h0,h2,hD⟩ rfl ho j4 j5 j6 j7 hnl hed
   have hj:j<8:=by
    have h1:=(vaf.1 ho).1
    have h2:(bP uU).size=8:=by kernel_rfl
    omega
   have hrow1:=hs.row.mv hmv λb _=>id
   have hd1:=hs.hd.mv hmv id
   rcases(show j=0\/j=1\/j=2\/j=3 by omega)with rfl|rfl|rfl|rfl
   ·obtain rfl:bw uU 0=o:=vax ((show(bP uU)[0]? =some (bw uU 0) by kernel_rfl).symm.trans ho)
    have hop:(bw uU 0).op=.load tV (.tmp 3):=by kernel_rfl
    have hk:(Act.mk a1 ds').eval (.tmp 3)=x.kp:=aJ ((hD 3 rfl).trans hraw)
    refine cy (by kernel_rfl) (v:=v) (w':=w1) (by simp[execOp,hop,hk,hd1.load (P:=Pg) (T:=tV) (by kernel_rfl)]) ⟨Γ1,.refl hmv.base,aR _ _ _,?_⟩
    rw[show(bw uU 0).dst=some 42 by kernel_rfl]
    have hs1:a1.size=62:=hP.fr.sz
    refine⟨hP.other (by kernel_rfl) (by simp[Qn]),λ_=>by show(a1.setIfInBounds 42 v)[42]? =_;simp[hs1],λhx=>?_,nJ rfl hD⟩
    show(a1.setIfInBounds 42 v)[44]? =_
    rw[vav (by decide)]
    exact h2 (hx.resolve_right (by decide))
   ·obtain rfl:bw uU 1=o:=vax ((show(bP uU)[1]? =some (bw uU 1) by kernel_rfl).symm.trans ho)
    have e1:io Pg (bw uU 1).op 0 (opv GE (kr (P3 x ts size n i l y) [])) []=(aO Pg eV (ac y)).map (λp=>(p,[])):=by kernel_rfl
    refine Oper.wpIn_mono (λa' w' hq=>?_) (iR (OF (x:=x) (ts:=ts) (size:=size) (n:=n) (i:=i) (l:=l)) hmv.base hP (o:=bw uU 1) (i:=1) (d:=43) (p:=.agg (ac y)) (by simp[Qn]) (by kernel_rfl) (by kernel_rfl) (by kernel_rfl) [] (by simp) hed (by rw[e1,al];rfl))
    obtain⟨Γ',hm',hd',hP',u,hu⟩:=hq
    refine⟨Γ',hm',hd',hP',λhx=>?_,λhx=>?_,?_⟩
    ·rw[hu,vav (by decide)];exact h0 (hx.resolve_right (by decide))
    ·rw[hu,vav (by decide)];exact h2 (hx.resolve_right (by decide))
    ·rw[hu];exact nJ rfl hD
   ·obtain rfl:bw uU 2=o:=vax ((show(bP uU)[2]? =some (bw uU 2) by kernel_rfl).symm.trans ho)
    have hop:(bw uU 2).op=.call {callee:=.builtin .len,args:=#[.tmp 42],argTypes:=#[tV]}:=by kernel_rfl
    have hv:(Act.mk a1 ds').eval (.tmp 42)=v:=aJ (h0 (gu (j:=0) (by kernel_rfl) hed))
    have hrun:(execOp (Act.mk a1 ds').eval (bw uU 2)).run Pg w1=.ok (.value (.int .i64 (kids.length:Int))) w1:=by
     rcases hs.row.form with⟨rfl,hz⟩|⟨g,cap,rfl⟩
     ·simp[execOp,hop,resolve,invoke,builtin,hv,Builtin.len_,run_underlying KQ.u,goInt,hz]
     ·simp[execOp,hop,resolve,invoke,builtin,hv,Builtin.len_,run_underlying KQ.u,goInt]
    refine cy (by kernel_rfl) hrun ⟨Γ1,.refl hmv.base,aR _ _ _,?_⟩
    rw[show(bw uU 2).dst=some 44 by kernel_rfl]
    have hs1:a1.size=62:=hP.fr.sz
    refine⟨hP.other (by kernel_rfl) (by simp[Qn]),λhx=>?_,λ_=>by show(a1.setIfInBounds 44 _)[44]? =_;simp[hs1],nJ rfl hD⟩
    show(a1.setIfInBounds 44 _)[42]? =_
    rw[vav (by decide)]
    exact h0 (hx.resolve_right (by decide))
   ·obtain rfl:bw uU 3=o:=vax ((show(bP uU)[3]? =some (bw uU 3) by kernel_rfl).symm.trans ho)
    refine Oper.wpIn_mono (λa' w' hq=>?_) (iR (OF (x:=x) (ts:=ts) (size:=size) (n:=n) (i:=i) (l:=l)) hmv.base hP (o:=bw uU 3) (i:=3) (d:=45) (p:=.slice [z9]) (by simp[Qn]) (by kernel_rfl) (by kernel_rfl) (by kernel_rfl) [] (by simp) hed (by kernel_rfl))
    obtain⟨Γ',hm',hd',hP',u,hu⟩:=hq
    refine⟨Γ',hm',hd',hP',λhx=>?_,λhx=>?_,?_⟩
    ·rw[hu,vav (by decide)];exact h0 (hx.resolve_right (by decide))
    ·rw[hu,vav (by decide)];exact h2 (hx.resolve_right (by decide))
    ·rw[hu];exact nJ rfl hD
  ·rintro L a1 Γ1 w1 hmv ⟨hP,h0,h2,hD⟩ hall
   have hs:(bP uU).size=8:=by kernel_rfl
   have hL:∀j,j<4->L j:=λj hj=>hall j (by omega) (by omega) (by omega) (by omega) (by omega)
   obtain⟨u,e1,e2⟩:=hP.at' (1,43,.agg (ac y)) (by simp[Qn]) (hL 1 (by decide))
   obtain⟨q,e3,e4⟩:=hP.at' (3,45,.slice [z9]) (by simp[Qn]) (hL 3 (by decide))
   exact⟨z9,u,q,h0 (hL 0 (by decide)),h2 (hL 2 (by decide)),e3,e4,by kernel_rfl,by decide,e1,e2,(hD 3 rfl).trans hraw,by rw[hP.fr.sz,hsz];rfl,hD⟩
  ·intro Γ1 w1 hmv
   exact⟨⟨hfr.mv hmv.le,λy _ h=>h.elim⟩,λh=>h.elim,λh=>h.elim,λ_ _=>rfl⟩
  ·rintro a1 Γ1 w1 v' hd hmv hrow' hh' ho' hne' hown' hsz' hD
   have hM:∀b,(b=x.kb\/v.ownBlock=some b)->¬F b/\b≠x.mb:=λb hb=>by
    rcases hb with rfl|hb
    ·exact⟨hs.hf,hs.hm⟩
    ·exact⟨(hs.rf b hb).1,(hs.rf b hb).2.2.2⟩
   have hlow:=hY.low hs.j
   refine⟨rfl,hd,Γ1,v',hmv,hown',⟨hY.side hs.j hmv λb hb=>(hM b hb).1,hs.k.mv hmv λhb=>(hM _ hb).2 rfl,hs.kf,hh',ho',hs.hf,hs.hm,?_,λb hb=>?_,vaw hs.lw hmv.size⟩,?_⟩
   ·rw[BK,vat];exact hrow'
   ·have hbk:b≠x.kb:=λe=>hne' (e▸hb)
    rcases hown' b hb with h|h
    ·exact hs.rf b h
    ·have hlo:=hs.lw
     refine⟨λhf=>by have:=hlow b hf;omega,by omega,hbk,λe=>by have:=hs.k.off.2.1;omega⟩
   ·exact Ls (D:=[42,43,44,45,46,47]) ((hfr.forget (tm':=HP x ts size n i l) (by kernel_rfl)).mv hmv.le) hsz' hD (by kernel_rfl)
 rw[<-QU]at key
 exact key
theorem UA:List.range (bP mV).size=[0,1,2,3,4,5]:=by kernel_rfl
theorem Uq(hY:Yv lo x.l step J)(hs:Sd lo x J F s K (kids++[y]) v Γ w)(hfr:Fr Γ w a (HP x ts size n i l))(hlen:kids.length+1<=ct):mV.wpIn Fence.wide nn Pg (λe a' w'=>e=.normal/\a'.defers=ds/\∃Γ' v',Mv GE (λb=>b=x.kb) Γ w Γ' w'/\(∀b,v'.ownBlock=some b->v.ownBlock=some b)/\Sd lo x J F s K kids v' Γ' w'/\Fr Γ' w' a'.tmps (HP x ts size n i l)) ⟨a,ds⟩ w:=by
 have hB:=hY.base hs.j
 have hkl:(kids++[y]).length=kids.length+1:=by simp
 rcases hs.row.form with⟨rfl,h0⟩|⟨g,cap,rfl⟩
 ·rw[hkl]at h0;cases h0
 rw[hkl]at hs
 have hrow:=hs.row
 rw[hkl,BK]at hrow
 have hcut:=hrow.cut (aZ.flat_len kids) (aZ.hc y)
 have hcc:=hcut.form
 have hcap:kids.length+1<=cap:=by
  obtain⟨xs,hown,_⟩:=hrow.row
  rcases hown.2 with⟨hx,_⟩|⟨g',cap',cur,hx,_,_,hnc,_⟩
  ·cases hx
  ·cases hx;exact hnc
 have key:(Code.region (wh mV) (bP mV) false).wpIn Fence.wide nn Pg (λe a' w'=>e=.normal/\a'.defers=ds/\∃Γ' v',Mv GE (λb=>b=x.kb) Γ w Γ' w'/\(∀b,v'.ownBlock=some b->(Value.slice (some ⟨g,0,none⟩) (kids.length+1) cap).ownBlock=some b)/\Sd lo x J F s K kids v' Γ' w'/\Fr Γ' w' a'.tmps (HP x ts size n i l)) ⟨a,ds⟩ w:=by
  refine wpIn_region ?_
  rw[UA]
  have g0:Fr Γ w (a.setIfInBounds 56 (.slice (some ⟨g,0,none⟩) (kids.length+1) cap)) ((HP x ts size n i l).set 56 (.val (.slice (some ⟨g,0,none⟩) (kids.length+1) cap))):=hfr.set (.val _)
  have hk:∀{a':Array Value} {tm:List PVal},Fr Γ w a' tm->tm[3]? =some (.val x.kp)->(Act.mk a' ds).eval (.tmp 3)=x.kp:=λh hq=>aJ (h.raw hq)
  have hld:=hs.hd.load (P:=Pg) (T:=tV) (by kernel_rfl)
  refine bG (o:=bw mV 0) (by kernel_rfl) (by kernel_rfl) (cy (by kernel_rfl) (v:=.slice (some ⟨g,0,none⟩) (kids.length+1) cap) (w':=w) (by simp[execOp,show(bw mV 0).op=.load tV (.tmp 3) by kernel_rfl,hk hfr (by kernel_rfl),hld]) ?_)
  rw[show(bw mV 0).dst=some 56 by kernel_rfl]
  have g1:=g0.set (d:=57) (p:=.val (.slice (some ⟨g,0,none⟩) (kids.length+1) cap)) (.val _)
  refine bG (o:=bw mV 1) (by kernel_rfl) (by kernel_rfl) (cy (a:=a.setIfInBounds 56 _) (by kernel_rfl) (v:=.slice (some ⟨g,0,none⟩) (kids.length+1) cap) (w':=w) (by simp[execOp,show(bw mV 1).op=.load tV (.tmp 3) by kernel_rfl,hk g0 (by kernel_rfl),hld]) ?_)
  rw[show(bw mV 1).dst=some 57 by kernel_rfl]
  have e57:(Act.mk ((a.setIfInBounds 56 (.slice (some ⟨g,0,none⟩) (kids.length+1) cap)).setIfInBounds 57 (.slice (some ⟨g,0,none⟩) (kids.length+1) cap)) ds).eval (.tmp 57)=.slice (some ⟨g,0,none⟩) (kids.length+1) cap:=aJ (g1.raw (by kernel_rfl))
  refine bG (o:=bw mV 2) (by kernel_rfl) (by kernel_rfl) (cy (a:=(a.setIfInBounds 56 _).setIfInBounds 57 _) (by kernel_rfl) (v:=.int .i64 ((kids.length+1:Nat):Int)) (w':=w) (by simp[execOp,show(bw mV 2).op=.call {callee:=.builtin .len,args:=#[.tmp 57],argTypes:=#[tV]} by kernel_rfl,resolve,invoke,builtin,e57,Builtin.len_,run_underlying KQ.u,goInt]) ?_)
  rw[show(bw mV 2).dst=some 58 by kernel_rfl]
  have g2:=g1.set (d:=58) (p:=.int .i64 ((kids.length+1:Nat):Int)) (.int _ _)
  refine bG (o:=bw mV 3) (by kernel_rfl) (by kernel_rfl) (g2.opS hB (d:=59) (p:=.int .i64 (cc (((kids.length+1:Nat):Int) - 1))) (by kernel_rfl) (by kernel_rfl) (by kernel_rfl) (by kernel_rfl) λa3 Γ3 w3 hm3 g3=>?_)
  have hs3:Sd lo x J F s K (kids++[y]) (.slice (some ⟨g,0,none⟩) (kids.length+1) cap) Γ3 w3:=hs.mv hY hm3 λb h=>h.elim
  have hw:cc (((kids.length+1:Nat):Int) - 1)=(kids.length:Int):=by rw[bE (by omega) (by unfold ct at hlen;omega)];omega
  rw[hw]at g3
  have e56:(Act.mk a3 ds).eval (.tmp 56)=.slice (some ⟨g,0,none⟩) (kids.length+1) cap:=aJ (g3.raw (by kernel_rfl))
  have e59:(Act.mk a3 ds).eval (.tmp 59)=.int .i64 (kids.length:Int):=by
   have:=g3.ev (t:=59) (p:=.int .i64 (kids.length:Int)) (by kernel_rfl) ds
   generalize (Act.mk a3 ds).eval (.tmp 59)=q at this
   cases this;rfl
  have hsb:(Instr.sliceBounds true (kids.length+1) cap none (some (.int .i64 (kids.length:Int))) none).run Pg w3=.ok (0,kids.length,cap) w3:=
   cM (Γ:=Γ3) (bs:=[]) (lo:=none) (hi:=some (.int .i64 (kids.length:Int))) rfl (by simp[vH]) (λp h=>by cases h) (λ_=>rfl) (λp h=>by cases h;exact⟨_,rfl,.int _ _⟩) (λh=>by cases h) (vaQ _) (vca _) hcap
  obtain⟨i0,z0,q1,q2,q3,q4,q5,q6⟩:=KQ.get
  refine bG (o:=bw mV 4) (by kernel_rfl) (by kernel_rfl) (cy (by kernel_rfl) (v:=.slice (some ⟨g,0,none⟩) kids.length cap) (w':=w3) (by
   simp[execOp,show(bw mV 4).op=.slice tV (.tmp 56) none (some (.tmp 59)) none by kernel_rfl,e56,e59,Instr.sliceAt,Instr.slice,run_underlying KQ.u,hsb,run_sizeOf w3 q1,Addr.add]) ?_)
  rw[show(bw mV 4).dst=some 60 by kernel_rfl]
  have g4:=g3.set (d:=60) (p:=.val (.slice (some ⟨g,0,none⟩) kids.length cap)) (.val _)
  have e60:(Act.mk (a3.setIfInBounds 60 (.slice (some ⟨g,0,none⟩) kids.length cap)) ds).eval (.tmp 60)=.slice (some ⟨g,0,none⟩) kids.length cap:=aJ (g4.raw (by kernel_rfl))
  have e3:(Act.mk (a3.setIfInBounds 60 (.slice (some ⟨g,0,none⟩) kids.length cap)) ds).eval (.tmp 3)=x.kp:=aJ (g4.raw (by kernel_rfl))
  obtain⟨w5,hrun,hm5,hh5⟩:=hs3.hd.store (P:=Pg) (T:=tV) (u:=.slice (some ⟨g,0,none⟩) kids.length cap) hm3.base (by kernel_rfl) (by kernel_rfl) rfl hs3.ho
  refine bG (o:=bw mV 5) (by kernel_rfl) (by kernel_rfl) (jS (a:=a3.setIfInBounds 60 _) (by kernel_rfl) (w':=w5) (by simp[execOp,show(bw mV 5).op=.store tV (.tmp 3) (.tmp 60) by kernel_rfl,e3,e60,hrun]) ?_)
  rw[show(bw mV 5).dst=none by kernel_rfl]
  have hrow3:=hs3.row
  rw[hkl,BK]at hrow3
  have hcut3:=hrow3.cut (aZ.flat_len kids) (aZ.hc y)
  have hgk:g≠x.kb:=(hs.rf g rfl).2.2.1
  refine⟨rfl,rfl,Γ3,.slice (some ⟨g,0,none⟩) kids.length cap,(hm3.mono (M:=λb=>b=x.kb) (λb h=>h.elim)).trans hm5 (λb h=>.inl h),λb hb=>hb,⟨hY.side hs3.j hm5 λb hb=>by
   have hb:b=x.kb:=hb
   rw[hb];exact hs.hf,hs3.k.mv hm5 λe=>hs.hm e.symm,hs.kf,hh5,⟨hs3.ho.1,vaE hs3.ho.2.1 hm5.size,hs3.ho.2.2⟩,hs.hf,hs.hm,hcut3.mv hm5 λb hb hM=>?_,λb hb=>hs.rf b hb,vaw hs3.lw hm5.size⟩,?_⟩
  ·have hM:b=x.kb:=hM
   simp[Value.ownBlock]at hb
   exact hgk (hb.trans hM)
  ·exact((g4.mv hm5.le).forget (tm':=HP x ts size n i l) (by kernel_rfl))
 rw[<-PA]at key
 exact key
end
def RL(x:Cx)(F:Nat->Prop)(v:Value):Nat->Prop:=λb=>F b\/b=x.mb\/b=x.kb\/v.ownBlock=some b
section
variable{S:Type}{lo:Nat}{x:Cx}{step:S->List aa->Option (Bool×S)}{J:(Nat->Prop)->Bool->S->aw->World->Prop}{F F1:Nat->Prop}{s s1:S}{K K1:fe}{kids:List aa}{v v1:Value}
variable{t:ae}{ts:List ae}{size n i:Int}{l:List aa}{a:Array Value}{Γ Γ1 Γ':aw}{w w1 w':World}{ds:List Deferred}{nn:Nat}{R:ae->Int->fe->Option (List aa×fe)}
structure HX(lo:Nat)(x:Cx)(J:(Nat->Prop)->Bool->S->aw->World->Prop)(F:Nat->Prop)(v:Value)(kids:List aa)(r:Bool×S×fe)(Γ:aw)(w:World)(Γ':aw)(w':World):Prop where
 mv:Mv GE (RL x F v) Γ w Γ' w'
 ex:∃F' v',(∀b,F' b->F b\/w.heap.size<=b)/\(∀b,v'.ownBlock=some b->v.ownBlock=some b\/w.heap.size<=b)/\(r.1=true->Sd lo x J F' r.2.1 r.2.2 kids v' Γ' w')/\(r.1=false->J F' false r.2.1 Γ' w'/\KM x.mb r.2.2 Γ' w')
theorem HX.pre(hmv:Mv GE (RL x F v) Γ w Γ1 w1)(hF:∀b,F1 b->F b\/w.heap.size<=b)(hv:∀b,v1.ownBlock=some b->v.ownBlock=some b\/w.heap.size<=b){r:Bool×S×fe}(h:HX lo x J F1 v1 kids r Γ1 w1 Γ' w'):HX lo x J F v kids r Γ w Γ' w':=by
 obtain⟨F',v',h1,h2,h3,h4⟩:=h.ex
 refine⟨hmv.trans h.mv λb hb=>?_,F',v',λb hb=>?_,λb hb=>?_,h3,h4⟩
 ·rcases hb with hb|hb|hb|hb
  ·exact(hF b hb).imp .inl id
  ·exact .inl (.inr (.inl hb))
  ·exact .inl (.inr (.inr (.inl hb)))
  ·exact(hv b hb).imp (λh=>.inr (.inr (.inr h))) id
 ·exact(h1 b hb).elim (hF b) λh=>.inr (vaw hmv.size h)
 ·exact(h2 b hb).elim (hv b) λh=>.inr (vaw hmv.size h)
theorem HX.post(hY:Yv lo x.l step J){r:Bool×S×fe}(h:HX lo x J F v kids r Γ w Γ1 w1)(hm:Mv GE no Γ1 w1 Γ' w'):HX lo x J F v kids r Γ w Γ' w':=by
 obtain⟨F',v',h1,h2,h3,h4⟩:=h.ex
 exact⟨h.mv.trans hm λb h=>h.elim,F',v',h1,h2,λhr=>(h3 hr).mv hY hm λb h=>h.elim,λhr=>⟨hY.side (h4 hr).1 hm λb h=>h.elim,(h4 hr).2.mv hm id⟩⟩
structure LG(x:Cx)(c2 c4 c5:Value)(Γ:aw)(w:World):Prop where
 y:VR Γ [] w (.eptr [yv x.l]) c2
 sp:VR Γ [] w (.eptr x.sp) c4
 me:VR Γ [] w (.eptr [.val x.fv]) c5
 fv:x.fv=.func (.func QQ) #[] #[c2,x.kp,c4,c5]
theorem LG.mv{c2 c4 c5:Value}(h:LG x c2 c4 c5 Γ w)(hle:Γ.Le w Γ' w'):LG x c2 c4 c5 Γ' w':=⟨h.y.mono hle (.refl _),h.sp.mono hle (.refl _),h.me.mono hle (.refl _),h.fv⟩
abbrev Hj:Int:=1099511627776
def RM(lo:Nat)(x:Cx)(c2 c4 c5:Value)(R:ae->Int->fe->Option (List aa×fe))(step:S->List aa->Option (Bool×S))(J:(Nat->Prop)->Bool->S->aw->World->Prop)(ts:List ae):Prop:=
 ∀size kids s K r F v Γ w t0 n,Fe R step ts size kids (s,K)=some r->-Hj<=size->size<=Hj->(ts.length:Int)<=Hj->Sd lo x J F s K kids v Γ w->LG x c2 c4 c5 Γ w->VR Γ [] w (sl af ts) t0->
  CallsIn Fence.wide n Pg QQ #[t0,.int .i64 size,c2,x.kp,c4,c5] w λe w'=>e=.returned (.bool r.1)/\∃Γ',HX lo x J F v kids r Γ w Γ' w'
theorem ua{F:Fence}{P:Program}{ops:Array Oper}{Q:Exit->Act->World->Prop}{i j:Nat}{b:Bool}{rest:List Nat}{o:Oper}{a:Act}(ho:ops[i]? =some o)(hg:o.guard=some (j,b))(hy:yielded ops a.tmps j=some b)(h:o.wpIn F nn P a w (wpOpsIn F nn P ops Q rest) Q):wpOpsIn F nn P ops Q (i::rest) a w:=by
 unfold wpOpsIn
 simp only[ho,Region.wanted,hg,hy]
 simpa using h
theorem WG:List.range (bP BL).size=[0,1,2,3,4,5,6,7]:=by kernel_rfl
abbrev RF(x:Cx)(ts:List ae)(size:Int):List PVal:=(BE x ts size [] []).tmps
theorem Ut(hY:Yv lo x.l step J)(hz:(size !=0)=false){q:Bool×S}(hq:step s kids=some q)(hs:Sd lo x J F s K kids v Γ w)(hfr:Fr Γ w a (RF x ts size)):(Code.seq BL .ret).wpIn Fence.wide nn Pg (λe a' w'=>e=.ret/\a'.defers=ds/\∃Γ',HX lo x J F v kids (q.1,q.2,K) Γ w Γ' w'/\Fr Γ' w' a'.tmps (ON q.1).tmps) ⟨a,ds⟩ w:=by
 refine wpIn_seq ?_
 have key:(Code.region (wh BL) (bP BL) false).wpIn Fence.wide nn Pg (λe a' w'=>e=.normal/\a'.defers=ds/\∃Γ',HX lo x J F v kids (q.1,q.2,K) Γ w Γ' w'/\Fr Γ' w' a'.tmps (ON q.1).tmps) ⟨a,ds⟩ w:=by
  refine wpIn_region ?_
  rw[WG]
  refine bG (o:=bw BL 0) (by kernel_rfl) (by kernel_rfl) (hfr.opS (hY.base hs.j) (d:=15) (p:=.int .i64 size) (by kernel_rfl) (by kernel_rfl) (by kernel_rfl) (by kernel_rfl) λa0 Γ0 w0 m0 g0=>?_)
  have s0:=hs.mv hY m0 λb h=>h.elim
  refine bG (o:=bw BL 1) (by kernel_rfl) (by kernel_rfl) (g0.opS m0.base (d:=16) (p:=.bool (size !=0)) (by kernel_rfl) (by kernel_rfl) (by kernel_rfl) (by kernel_rfl) λa1 Γ1 w1 m1 g1=>?_)
  have s1:=s0.mv hY m1 λb h=>h.elim
  refine bG (o:=bw BL 2) (by kernel_rfl) (by kernel_rfl) (g1.opS m1.base (d:=17) (p:=.bool (size !=0)) (by kernel_rfl) (by kernel_rfl) (by kernel_rfl) (by kernel_rfl) λa2 Γ2 w2 m2 g2=>?_)
  have s2:=s1.mv hY m2 λb h=>h.elim
  rw[hz]at g2
  have hyl:∀{a':Array Value} {tm:List PVal} {Γ:aw} {w:World},Fr Γ w a' tm->tm[17]? =some (.bool false)->yielded (bP BL) a' 2=some false:=λ{a' tm Γ w} h ht=>by
   obtain⟨u,h1,h2⟩:=h.at ht
   cases h2
   have e:((bP BL)[2]?).bind (·.dst)=some 17:=by kernel_rfl
   simp[yielded,e,h1]
  refine ua (o:=bw BL 3) (by kernel_rfl) (by kernel_rfl) (hyl g2 (by kernel_rfl)) (g2.opS m2.base (d:=18) (p:=yv x.l) (by kernel_rfl) (by kernel_rfl) (by kernel_rfl) (by kernel_rfl) λa3 Γ3 w3 m3 g3=>?_)
  have s3:=s2.mv hY m3 λb h=>h.elim
  have e3:(Act.mk a3 ds).eval (.tmp 3)=x.kp:=aJ (g3.raw (by kernel_rfl))
  refine ua (o:=bw BL 4) (by kernel_rfl) (by kernel_rfl) (hyl g3 (by kernel_rfl)) (cy (by kernel_rfl) (v:=v) (w':=w3) (by simp[execOp,show(bw BL 4).op=.load tV (.tmp 3) by kernel_rfl,e3,s3.hd.load (P:=Pg) (T:=tV) (by kernel_rfl)]) ?_)
  rw[show(bw BL 4).dst=some 19 by kernel_rfl]
  have g4:=g3.set (d:=19) (p:=.val v) (.val v)
  have e18:(Act.mk (a3.setIfInBounds 19 v) ds).eval (.tmp 18)=.func (.yield x.l) #[] #[]:=aJ (g4.raw (by kernel_rfl))
  have e19:(Act.mk (a3.setIfInBounds 19 v) ds).eval (.tmp 19)=v:=aJ (g4.raw (by kernel_rfl))
  have hop:(bw BL 5).op=.call {callee:=.value (.tmp 18),args:=#[.tmp 19],argTypes:=Jm (bw BL 5)}:=by kernel_rfl
  have hyd:=hY.yield (nn - 1) s3.j s3.row (λb hb=>⟨(s3.rf b hb).1,(s3.rf b hb).2.1⟩) hq
  refine ua (o:=bw BL 5) (by kernel_rfl) (by kernel_rfl) (hyl g4 (by kernel_rfl)) (Kz (a:=Act.mk (a3.setIfInBounds 19 v) ds) hop e18 (by
   have e:(#[.tmp 19]:Array Operand).map (Act.mk (a3.setIfInBounds 19 v) ds).eval=#[v]:=by simp[e19]
   rw[e];exact hyd) ?_)
  rintro e w5 ⟨Γ5,F5,rfl,m5,hF5,hJ5⟩
  refine⟨_,rfl,?_⟩
  rw[show(bw BL 5).dst=some 20 by kernel_rfl]
  have g5:=(g4.mv m5.le).set (d:=20) (p:=.bool q.1) (.bool q.1)
  have mall:Mv GE no Γ w Γ3 w3:=((m0.trans m1 (λb h=>.inl h)).trans m2 (λb h=>.inl h)).trans m3 (λb h=>.inl h)
  have mF:Mv GE (RL x F v) Γ w Γ5 w5:=(mall.mono (M:=RL x F v) λb h=>h.elim).trans m5 λb hb=>.inl (.inl hb)
  have hF0:∀b,F5 b->F b\/w.heap.size<=b:=λb hb=>(hF5 b hb).imp id λh=>vaw mall.size h
  have P5:HX lo x J F v kids (q.1,q.2,K) Γ w Γ5 w5:=by
   have hk5:KM x.mb K Γ5 w5:=s3.k.mv m5 s3.kf
   refine⟨mF,F5,v,hF0,λb hb=>.inl hb,λhr=>?_,λhr=>?_⟩
   ·have hr:q.1=true:=hr
    rw[hr]at hJ5
    have nw:∀{b},b<w3.heap.size->¬F b->¬F5 b:=λhb hf h=>(hF5 _ h).elim hf λh'=>by omega
    exact⟨hJ5,hk5,nw s3.k.off.2.1 s3.kf,s3.hd.mv m5 s3.hf,s3.ho.mv m5 s3.hf,nw s3.ho.2.1 s3.hf,s3.hm,s3.row.mv m5 λb hb=>(s3.rf b hb).1,λb hb=>⟨nw (s3.row.off b hb).2.1 (s3.rf b hb).1,(s3.rf b hb).2⟩,vaw s3.lw m5.size⟩
   ·have hr:q.1=false:=hr
    rw[hr]at hJ5
    exact⟨hJ5,hk5⟩
  refine bG (o:=bw BL 6) (by kernel_rfl) (by kernel_rfl) (g5.opS m5.base (d:=21) (p:=.bool q.1) (by kernel_rfl) (by kernel_rfl) (by kernel_rfl) (by kernel_rfl) λa6 Γ6 w6 m6 g6=>?_)
  refine bG (o:=bw BL 7) (by kernel_rfl) (by kernel_rfl) (g6.opS m6.base (d:=8) (p:=.bool q.1) (by kernel_rfl) (by kernel_rfl) (by kernel_rfl) (by kernel_rfl) λa7 Γ7 w7 m7 g7=>?_)
  exact⟨rfl,rfl,Γ7,(P5.post hY m6).post hY m7,g7.forget (tm':=(ON q.1).tmps) (by kernel_rfl)⟩
 rw[<-QS]at key
 refine wpIn_mono key ?_
 rintro e a' w' ⟨rfl,hd,h⟩
 exact wpIn_ret ⟨rfl,hd,h⟩
end
section
variable{S:Type}{lo:Nat}{x:Cx}{step:S->List aa->Option (Bool×S)}{J:(Nat->Prop)->Bool->S->aw->World->Prop}{F F1:Nat->Prop}{s s1:S}{K K1:fe}{kids:List aa}{v v1:Value}
variable{t:ae}{ts:List ae}{size n i:Int}{l:List aa}{a:Array Value}{Γ Γ1 Γ':aw}{w w1 w':World}{ds:List Deferred}{nn:Nat}{R:ae->Int->fe->Option (List aa×fe)}{c2 c4 c5:Value}
def qA(x:Cx)(t:ae)(ts:List ae)(size n:Int)(b:Bool):List (Nat×Nat×PVal):=
 [(0,48,.val x.fv),(1,49,sl af (t::ts)),(2,50,sl af ts),(3,51,.int .i64 size),(4,52,.int .i64 n),(5,53,.int .i64 (cc (size - n))),(6,54,.bool b),(7,55,.bool (!b))]
theorem Lx(b:Bool):DS (HP x (t::ts) size n i l) (qA x t ts size n b):=vB (by kernel_rfl)
def S0(lo:Nat)(x:Cx)(J:(Nat->Prop)->Bool->S->aw->World->Prop)(t:ae)(ts:List ae)(size n i:Int)(l:List aa)(F:Nat->Prop)(v:Value)(kids:List aa)(r:Bool×S×fe)(Γ0:aw)(w0:World)(ds:List Deferred)(L:Nat->Prop)(a:Act)(w:World):Prop:=
 a.defers=ds/\∃Γ,(¬L 6->Mv GE no Γ0 w0 Γ w)/\(L 6->HX lo x J F v kids r Γ0 w0 Γ w)/\dO GE Γ w/\mC (HP x (t::ts) size n i l) (qA x t ts size n r.1) L a.tmps Γ w
theorem S0.pure(hY:Yv lo x.l step J){r:Bool×S×fe}{Γ0:aw}{w0:World}{L:Nat->Prop}{Q:Exit->Act->World->Prop}{a:Act}(h:S0 lo x J t ts size n i l F v kids r Γ0 w0 ds L a w){o:Oper}{j d:Nat}{p:PVal}(hj:j≠6)(hx:(j,d,p)∈qA x t ts size n r.1)(hdst:o.dst=some d)(hd:co o=true)(hm:au o.op=false)
  (need:List (Nat×Nat×PVal)) (hn:∀y∈need,y∈qA x t ts size n r.1/\(EA o).contains y.1=true) (hed:∀e∈o.after.toList,Region.binds .any e=true->L e.on) (hp:io Pg o.op 0 (opv GE (kr (HP x (t::ts) size n i l) need)) []=some (p,[])):
  o.wpIn Fence.wide nn Pg a w (S0 lo x J t ts size n i l F v kids r Γ0 w0 ds λk=>L k\/k=j) Q:=by
 obtain⟨a,ds'⟩:=a
 obtain⟨rfl,Γ,h1,h2,h3,h5⟩:=h
 refine Oper.wpIn_mono (λa' w' hq=>?_) (iR (Lx r.1) h3 h5 hx hdst hd hm need hn hed hp)
 obtain⟨Γ',hm',hd',hP,_⟩:=hq
 exact⟨hd',Γ',λh=>(h1 λh'=>h (.inl h')).trans hm' (λb h=>.inl h),λh=>(h2 (h.resolve_right λe=>hj e.symm)).post hY hm',hm'.base,hP⟩
theorem UL:SV (t::ts) (some 1) none=some ts:=by
 unfold SV bd
 simp
theorem Uo(hY:Yv lo x.l step J)(hV:RM lo x c2 c4 c5 R step J ts)(hc:LG x c2 c4 c5 Γ w){r:Bool×S×fe}(hr:Fe R step ts (size - n) kids (s,K)=some r)(h1: -Hj<=size)(h2:size<=Hj)(h3:1<=n)(h4:n<=size)(h5:(ts.length:Int)<=Hj)(hs:Sd lo x J F s K kids v Γ w)
  (hfr:Fr Γ w a (HP x (t::ts) size n i l)):
  hU.wpIn Fence.wide nn Pg (λe a' w'=>e=.normal/\a'.defers=ds/\∃Γ',HX lo x J F v kids r Γ w Γ' w'/\Fr Γ' w' a'.tmps ((HP x (t::ts) size n i l).set 55 (.bool (!r.1)))) ⟨a,ds⟩ w:=by
 have hB:=hY.base hs.j
 have hl:Hj=1099511627776:=rfl
 have hw:cc (size - n)=size - n:=bE (by omega) (by omega)
 have key:(Code.region (wh hU) (bP hU) true).wpIn Fence.wide nn Pg (λe a' w'=>e=.normal/\a'.defers=ds/\∃Γ',HX lo x J F v kids r Γ w Γ' w'/\Fr Γ' w' a'.tmps ((HP x (t::ts) size n i l).set 55 (.bool (!r.1)))) ⟨a,ds⟩ w:=by
  refine CH mixed (by kernel_rfl) (by kernel_rfl) (S0 lo x J t ts size n i l F v kids r Γ w ds) ?_ ?_ ?_
  ·intro L a1 w1 j o hI ho hnl hed
   have hj:j<8:=by
    have h1:=(vaf.1 ho).1
    have h2:(bP hU).size=8:=by kernel_rfl
    omega
   rcases(show j=0\/j=1\/j=2\/j=3\/j=4\/j=5\/j=6\/j=7 by omega)with rfl|rfl|rfl|rfl|rfl|rfl|rfl|rfl
   ·obtain rfl:bw hU 0=o:=vax ((show(bP hU)[0]? =some (bw hU 0) by kernel_rfl).symm.trans ho)
    exact hI.pure hY (d:=48) (p:=.val x.fv) (by decide) (by simp[qA]) (by kernel_rfl) (by kernel_rfl) (by kernel_rfl) [] (by simp) hed (by kernel_rfl)
   ·obtain rfl:bw hU 1=o:=vax ((show(bP hU)[1]? =some (bw hU 1) by kernel_rfl).symm.trans ho)
    exact hI.pure hY (d:=49) (p:=sl af (t::ts)) (by decide) (by simp[qA]) (by kernel_rfl) (by kernel_rfl) (by kernel_rfl) [] (by simp) hed (by kernel_rfl)
   ·obtain rfl:bw hU 2=o:=vax ((show(bP hU)[2]? =some (bw hU 2) by kernel_rfl).symm.trans ho)
    refine hI.pure hY (d:=50) (p:=sl af ts) (by decide) (by simp[qA]) (by kernel_rfl) (by kernel_rfl) (by kernel_rfl) [(1,49,sl af (t::ts))] (by intro y hy;obtain rfl:=vbg.1 hy;exact⟨by simp[qA],by kernel_rfl⟩) hed ?_
    have e1:io Pg (bw hU 2).op 0 (opv GE (kr (HP x (t::ts) size n i l) [(1,49,sl af (t::ts))])) []=(mi Pg 38 (sl af (t::ts)) ((some 1).map (PVal.int .i64)) ((none:Option Int).map (PVal.int .i64)) none).map (λp=>(p,[])):=by kernel_rfl
    rw[e1,fK.sc UL];rfl
   ·obtain rfl:bw hU 3=o:=vax ((show(bP hU)[3]? =some (bw hU 3) by kernel_rfl).symm.trans ho)
    exact hI.pure hY (d:=51) (p:=.int .i64 size) (by decide) (by simp[qA]) (by kernel_rfl) (by kernel_rfl) (by kernel_rfl) [] (by simp) hed (by kernel_rfl)
   ·obtain rfl:bw hU 4=o:=vax ((show(bP hU)[4]? =some (bw hU 4) by kernel_rfl).symm.trans ho)
    exact hI.pure hY (d:=52) (p:=.int .i64 n) (by decide) (by simp[qA]) (by kernel_rfl) (by kernel_rfl) (by kernel_rfl) [] (by simp) hed (by kernel_rfl)
   ·obtain rfl:bw hU 5=o:=vax ((show(bP hU)[5]? =some (bw hU 5) by kernel_rfl).symm.trans ho)
    exact hI.pure hY (d:=53) (p:=.int .i64 (cc (size - n))) (by decide) (by simp[qA]) (by kernel_rfl) (by kernel_rfl) (by kernel_rfl) [(3,51,.int .i64 size),(4,52,.int .i64 n)] (by
     intro y hy
     rcases vaB.1 hy with rfl|hy
     ·exact⟨by simp[qA],by kernel_rfl⟩
     ·obtain rfl:=vbg.1 hy;exact⟨by simp[qA],by kernel_rfl⟩) hed (by kernel_rfl)
   ·obtain rfl:bw hU 6=o:=vax ((show(bP hU)[6]? =some (bw hU 6) by kernel_rfl).symm.trans ho)
    obtain⟨a1,ds'⟩:=a1
    obtain⟨rfl,Γ1,q1,q2,q3,q5⟩:=hI
    have hm1:=q1 hnl
    obtain⟨u0,u1,u2⟩:=q5.at' (0,48,.val x.fv) (by simp[qA]) (gu (j:=0) (by kernel_rfl) hed)
    cases u2
    obtain⟨u3,u4,u5⟩:=q5.at' (2,50,sl af ts) (by simp[qA]) (gu (j:=2) (by kernel_rfl) hed)
    obtain⟨u6,u7,u8⟩:=q5.at' (5,53,.int .i64 (cc (size - n))) (by simp[qA]) (gu (j:=5) (by kernel_rfl) hed)
    rw[hw]at u8
    cases u8
    have hop:(bw hU 6).op=.call {callee:=.value (.tmp 48),args:=#[.tmp 50,.tmp 53],argTypes:=Jm (bw hU 6)}:=by kernel_rfl
    have e48:(Act.mk a1 ds').eval (.tmp 48)=.func (.func QQ) #[] #[c2,x.kp,c4,c5]:=(aJ u1).trans hc.fv
    have e50:(Act.mk a1 ds').eval (.tmp 50)=u3:=aJ u4
    have e53:(Act.mk a1 ds').eval (.tmp 53)=.int .i64 (size - n):=aJ u7
    have hcall:=hV (size - n) kids s K r F v Γ1 w1 u3 (nn - 1) hr (by omega) (by omega) h5 (hs.mv hY hm1 λb h=>h.elim) (hc.mv hm1.le) u5
    refine zB hop e48 call147 (by
     have e:(#[]++(#[.tmp 50,.tmp 53]:Array Operand).map (Act.mk a1 ds').eval++#[c2,x.kp,c4,c5])=#[u3,.int .i64 (size - n),c2,x.kp,c4,c5]:=by simp[e50,e53]
     rw[e]
     exact hcall) ?_
    rintro e w2 ⟨rfl,Γ2,hP⟩
    refine⟨_,rfl,aR _ _ _,Γ2,λh=>absurd (.inr rfl) h,λ_=>hP.pre (hm1.mono λb h=>h.elim) (λb h=>.inl h) (λb h=>.inl h),hP.mv.base,?_⟩
    rw[show(bw hU 6).dst=some 54 by kernel_rfl]
    exact(q5.mv hP.mv.le).put (Lx r.1) (i:=6) (d:=54) (p:=.bool r.1) (by simp[qA]) (.bool _)
   ·obtain rfl:bw hU 7=o:=vax ((show(bP hU)[7]? =some (bw hU 7) by kernel_rfl).symm.trans ho)
    exact hI.pure hY (d:=55) (p:=.bool (!r.1)) (by decide) (by simp[qA]) (by kernel_rfl) (by kernel_rfl) (by kernel_rfl) [(6,54,.bool r.1)] (by intro y hy;obtain rfl:=vbg.1 hy;exact⟨by simp[qA],by kernel_rfl⟩) hed (by kernel_rfl)
  ·rintro L a1 w1 ⟨hd,Γ1,q1,q2,q3,q5⟩ hall
   have hsz:(bP hU).size=8:=by kernel_rfl
   exact⟨rfl,hd,Γ1,q2 (hall 6 (by omega)),q5.fr.add (q5.at' (7,55,.bool (!r.1)) (by simp[qA]) (hall 7 (by omega)))⟩
  ·have hm0:Mv GE no Γ w Γ {w with drawn:=w.drawn+1}:=Mv.drawn hB 1
   exact⟨rfl,Γ,λ_=>hm0,λh=>h.elim,hm0.base,⟨hfr.mv hm0.le,λy _ h=>h.elim⟩⟩
 rw[<-Pz]at key
 exact key
end
section
variable{S:Type}{lo:Nat}{x:Cx}{step:S->List aa->Option (Bool×S)}{J:(Nat->Prop)->Bool->S->aw->World->Prop}{F F1 F2:Nat->Prop}{s s1:S}{K K1:fe}{kids:List aa}{v v1 v2:Value}
variable{t:ae}{ts:List ae}{size n i:Int}{l:List aa}{a:Array Value}{Γ Γ1 Γ2 Γ':aw}{w w1 w2 w':World}{ds:List Deferred}{nn:Nat}{R:ae->Int->fe->Option (List aa×fe)}{c2 c4 c5:Value}
structure GF(x:Cx)(F:Nat->Prop)(v:Value)(Γ:aw)(w:World)(F1:Nat->Prop)(v1:Value)(Γ1:aw)(w1:World):Prop where
 mv:Mv GE (RL x F v) Γ w Γ1 w1
 f:∀b,F1 b->F b\/w.heap.size<=b
 v:∀b,v1.ownBlock=some b->v.ownBlock=some b\/w.heap.size<=b
theorem GF.trans(h:GF x F v Γ w F1 v1 Γ1 w1)(h':GF x F1 v1 Γ1 w1 F2 v2 Γ2 w2):GF x F v Γ w F2 v2 Γ2 w2:=by
 refine⟨h.mv.trans h'.mv λb hb=>?_,λb hb=>?_,λb hb=>?_⟩
 ·rcases hb with hb|hb|hb|hb
  ·exact(h.f b hb).imp .inl id
  ·exact .inl (.inr (.inl hb))
  ·exact .inl (.inr (.inr (.inl hb)))
  ·exact(h.v b hb).imp (λh=>.inr (.inr (.inr h))) id
 ·exact(h'.f b hb).elim (h.f b) λhx=>.inr (vaw h.mv.size hx)
 ·exact(h'.v b hb).elim (h.v b) λhx=>.inr (vaw h.mv.size hx)
theorem GF.of(hm:Mv GE no Γ w Γ1 w1):GF x F v Γ w F v Γ1 w1:=⟨hm.mono λb h=>h.elim,λ_ h=>.inl h,λ_ h=>.inl h⟩
theorem GF.pst(h:GF x F v Γ w F1 v1 Γ1 w1){r:Bool×S×fe}(hp:HX lo x J F1 v1 kids r Γ1 w1 Γ' w'):HX lo x J F v kids r Γ w Γ' w':=hp.pre h.mv h.f h.v
theorem Sd.map(hY:Yv lo x.l step J)(h:Sd lo x J F s K kids v Γ w)(hm:Mv GE (λb=>b=x.mb) Γ w Γ' w')(hk:KM x.mb K1 Γ' w'):Sd lo x J F s K1 kids v Γ' w' where
 j:=hY.side h.j hm λb hb=>by
  have hb:b=x.mb:=hb
  rw[hb];exact h.kf
 k:=hk
 kf:=h.kf
 hd:=h.hd.mv hm h.hm
 ho:=h.ho.mv hm h.hm
 hf:=h.hf
 hm:=h.hm
 row:=h.row.mv hm λb hb=>(h.rf b hb).2.2.2
 rf:=h.rf
 lw:=vaw h.lw hm.size
theorem Fr.res{b:Bool}(h:Fr Γ w a (ON b).tmps)(hB:dO GE Γ w):(results f147 a).run Pg w=.ok (.bool b) w:=by
 obtain⟨v,h1,h2,_⟩:=qq (h.sr (P:=Pg) hB 0) (fn:=f147) (r:=.bool b) (by kernel_rfl)
 cases h2
 exact h1
theorem OD{k j:Nat}(h:(j:Int)<size - k):(P1 size k).drop j=((j:Int)+1)::(P1 size k).drop (j+1):=by
 have hl:j<(P1 size k).length:=by unfold P1;simp;omega
 rw[vaU hl]
 congr 1
 simp[P1]
theorem P2{k j:Nat}(h:size - k<=(j:Int)):(P1 size k).drop j=[]:=vbe (by unfold P1;simp;omega)
abbrev OM(lo:Nat)(x:Cx)(J:(Nat->Prop)->Bool->S->aw->World->Prop)(F:Nat->Prop)(v:Value)(kids:List aa)(r:Bool×S×fe)(Γ:aw)(w:World):Exit->Act->World->Prop:=
 bodyPost Pg f147 λe w'=>e=.returned (.bool r.1)/\∃Γ',HX lo x J F v kids r Γ w Γ' w'
theorem P6{r:Bool×S×fe}{b:Bool}(hb:b=r.1)(hp:HX lo x J F v kids r Γ w Γ' w')(h:Fr Γ' w' a (ON b).tmps):OM lo x J F v kids r Γ w .ret ⟨a,[]⟩ w':=by
 subst hb
 exact⟨rfl,.bool r.1,h.res hp.mv.base,rfl,Γ',hp⟩
theorem JP(x:Cx)(ts:List ae)(size:Int){L:List (Nat×PVal)}(h:Id 0 L):dR 0 (BE x ts size L []).tmps:=Nh x ts size h []
theorem Ub(l:List aa)(n i:Int):Id 0 [(9,.int .i64 n),(36,sl ac l),(37,.int .i64 (l.length:Int)),(38,.int .i64 i)]:=⟨vzz,bq cR l,vzz,vzz,vzz⟩
theorem Ua(l:List aa)(y:aa)(n i:Int):Id 0 [(9,.int .i64 n),(11,.eptr (ac y)),(36,sl ac l),(37,.int .i64 (l.length:Int)),(38,.int .i64 i)]:=⟨vzz,(show dR 0 (ac y)from cR y),bq cR l,vzz,vzz,vzz⟩
theorem Nx(hY:Yv lo x.l step J)(hV:RM lo x c2 c4 c5 R step J ts)(h1: -Hj<=size)(h2:size<=Hj)(h5:(ts.length:Int)<=Hj)(h3:1<=n)(h4:n<=size){q r:Bool×S×fe}(hll:l.length<4611686018427387904){Γ0:aw}{w0:World}{F0:Nat->Prop}{v0:Value}
  (hq:CR (λs v=>(app kids [v]).bind λks=>Fe R step ts (size - n) ks s) l (s,K)=some q) (hr0:q.1=false->r=(false,q.2)) (hR0:GF x F0 v0 Γ0 w0 F v Γ w) (hc:LG x c2 c4 c5 Γ w) (hs:Sd lo x J F s K kids v Γ w) (hfr:Fr Γ w a (HP x (t::ts) size n 0 l)):
  (Code.block 2 (.loop iM)).wpIn Fence.wide nn Pg (λe a' w'=>(e=.normal/\a'.defers=[]/\q.1=true/\∃Γ' F' v',GF x F0 v0 Γ0 w0 F' v' Γ' w'/\LG x c2 c4 c5 Γ' w'/\Sd lo x J F' q.2.1 q.2.2 kids v' Γ' w'/\Fr Γ' w' a'.tmps (MR x (t::ts) size n))\/(e=.ret/\OM lo x J F0 v0 kids r Γ0 w0 .ret a' w')) ⟨a,[]⟩ w:=by
 have hl:Hj=1099511627776:=rfl
 refine wpIn_block (wpIn_loop_ghost (λk a' w'=>a'.defers=[]/\∃(i:Nat) (sK:S×fe) (F':Nat->Prop) (v':Value) (Γ':aw),k=l.length - i/\i<=l.length/\CR (λs v=>(app kids [v]).bind λks=>Fe R step ts (size - n) ks s) (l.drop i) sK=some q/\
  GF x F0 v0 Γ0 w0 F' v' Γ' w'/\LG x c2 c4 c5 Γ' w'/\Sd lo x J F' sK.1 sK.2 kids v' Γ' w'/\Fr Γ' w' a'.tmps (HP x (t::ts) size n (i:Int) l)) l.length ⟨rfl,0,(s,K),F,v,Γ,rfl,vaQ _,hq,hR0,hc,hs,hfr⟩ ?_)
 rintro k ⟨a1,ds1⟩ w1 ⟨hd1,i,⟨s1,K1⟩,F1,v1,Γ1,rfl,hi,hf1,hR1,hc1,hs1,g1⟩
 simp only at hd1;subst hd1
 rw[Sk]
 refine wpIn_seq (wpIn_mono (g1.piece0 (k:=0) (Wx x (t::ts) size n (i:Int) l) hR1.mv.base (JP x _ _ (aI vzz<|aI (bq cR l)<|aI vzz<|aI vzz<|aI vzz vzz)) []) ?_)
 rintro e ⟨a2,ds2⟩ w2 ⟨rfl,rfl,Γ2,m2,g2⟩
 refine wpIn_seq (wpIn_cond (g2.evb (t:=39) (x:=decide ((i:Int)<(l.length:Int))) (by kernel_rfl) []) ?_)
 by_cases hlt:i<l.length
 ·rw[vb4 (by omega)]
  refine wpIn_skip ?_
  have hdrop:l.drop i=l[i]::l.drop (i+1):=vaU hlt
  rw[hdrop,CR]at hf1
  obtain⟨r1,hr0',hf2⟩:=zA hf1
  obtain⟨ks,hks,hr1⟩:=zA hr0'
  clear hf1 hr0'
  have hf1:=hf2
  clear hf2
  have hx:ed l (i:Int)=some l[i]:=aQ _ _ hlt
  generalize hyy:l[i]=y at *
  have g2':=g2.forget (tm':=HP x (t::ts) size n (i:Int) l) (by kernel_rfl)
  refine wpIn_seq (wpIn_block ?_)
  rw[Si]
  refine wpIn_seq (wpIn_mono (g2'.piece0 (k:=0) (Wy x (t::ts) size n (i:Int) l y hx) m2.base (Nh x _ _ (Ua l y n (i:Int)) _) []) ?_)
  rintro e ⟨a3,ds3⟩ w3 ⟨rfl,rfl,Γ3,m3,g3⟩
  have m23:Mv GE no Γ1 w1 Γ3 w3:=m2.trans m3 λb h=>.inl h
  have hs3:=hs1.mv hY m23 λb h=>h.elim
  refine wpIn_seq (wpIn_mono (Wz hY hs3 hks g3) ?_)
  rintro e ⟨a4,ds4⟩ w4 ⟨rfl,rfl,Γ4,v4,m4,hv4,hs4,g4⟩
  have R4:GF x F1 v1 Γ3 w3 F1 v4 Γ4 w4:=⟨m4.mono λb hb=>.inl (hb.elim (λh=>.inr (.inr (.inl h))) λh=>.inr (.inr (.inr h))),λb h=>.inl h,hv4⟩
  have R04:GF x F0 v0 Γ0 w0 F1 v4 Γ4 w4:=(hR1.trans (.of m23)).trans R4
  have hc4:LG x c2 c4 c5 Γ4 w4:=(hc1.mv m23.le).mv m4.le
  refine wpIn_seq (wpIn_seq (wpIn_mono (Uo hY hV hc4 hr1 h1 h2 h3 h4 h5 hs4 g4) ?_))
  rintro e ⟨a5,ds5⟩ w5 ⟨rfl,rfl,Γ5,P5,g5⟩
  refine wpIn_cond (g5.evb (t:=55) (x:=!r1.1) (by kernel_rfl) []) ?_
  obtain⟨b1,s5,K5⟩:=r1
  cases b1 with
  |false=>
   obtain rfl:(false,(s5,K5))=q:=vax hf1
   have hr0:=hr0 rfl
   subst hr0
   refine wpIn_mono ((g5.forget (tm':=RF x (t::ts) size) (by kernel_rfl)).piece0 (k:=0) (Up x (t::ts) size) P5.mv.base (pb (aI vzz vzz)) []) ?_
   rintro e ⟨a6,ds6⟩ w6 ⟨rfl,rfl,Γ6,m6,g6⟩
   refine .inr ⟨rfl,P6 rfl ((R04.pst (kids:=ks) P5).post hY m6|>λp=>?_) g6⟩
   obtain⟨F',v',q1,q2,q3,q4⟩:=p.ex
   exact⟨p.mv,F',v',q1,q2,λh=>(by cases h),q4⟩
  |true=>
   refine wpIn_skip ?_
   obtain⟨F5,v5,q1,q2,q3,q4⟩:=P5.ex
   have hs5:=q3 rfl
   obtain⟨hlen,rfl⟩:=Cv hks
   have R05:GF x F0 v0 Γ0 w0 F5 v5 Γ5 w5:=R04.trans ⟨P5.mv,q1,q2⟩
   refine wpIn_mono (Uq hY hs5 (g5.forget (tm':=HP x (t::ts) size n (i:Int) l) (by kernel_rfl)) (by simpa using hlen)) ?_
   rintro e ⟨a6,ds6⟩ w6 ⟨rfl,rfl,Γ6,v6,m6,hv6,hs6,g6⟩
   have R06:GF x F0 v0 Γ0 w0 F5 v6 Γ6 w6:=R05.trans ⟨m6.mono λb hb=>.inl (.inr (.inr (.inl hb))),λb h=>.inl h,λb h=>.inl (hv6 b h)⟩
   have hc6:LG x c2 c4 c5 Γ6 w6:=(hc4.mv P5.mv.le).mv m6.le
   refine wpIn_mono (g6.piece0 (k:=0) (Ur x (t::ts) size n (i:Int) l) m6.base (JP x _ _ (Ub _ _ _)) []) ?_
   rintro e ⟨a7,ds7⟩ w7 ⟨rfl,rfl,Γ7,m7,g7⟩
   have ew:cc ((i:Int)+1)=((i+1:Nat):Int):=by rw[bE (by omega) (by omega)];omega
   rw[ew]at g7
   exact⟨l.length - (i+1),by omega,rfl,i+1,(s5,K5),F5,v6,Γ7,rfl,hlt,hf1,R06.trans (.of m7),hc6.mv m7.le,hs6.mv hY m7 λb h=>h.elim,g7⟩
 ·rw[decide_eq_false (by omega)]
  refine wpIn_exit ?_
  rw[vbe (by omega),CR]at hf1
  cases hf1
  exact .inl ⟨rfl,rfl,rfl,Γ2,F1,v1,hR1.trans (.of m2),hc1.mv m2.le,hs1.mv hY m2 λb h=>h.elim,g2.forget (tm':=MR x (t::ts) size n) (by kernel_rfl)⟩
theorem Gr(hY:Yv lo x.l step J)(hR:M2 x.m R)(hV:∀t' ts',ts=t'::ts'->RM lo x c2 c4 c5 R step J ts')(hlong:∀t n K r,R t n K=some r->r.1.length<4611686018427387904):RM lo x c2 c4 c5 R step J ts:=by
 intro size kids s K r F v Γ w t0 n hv h1 h2 h5 hs hc ht0
 have hl:Hj=1099511627776:=rfl
 refine callsIn_of_wp func147 (c:=O5) rfl vzz ?_
 have hB:=hY.base hs.j
 have h0:Fr Γ w (#[t0,.int .i64 size,c2,x.kp,c4,c5]++Array.replicate 56 undef) (RF x ts size):=by
  refine⟨by kernel_rfl,λk p u hp hu=>?_⟩
  have htm:RF x ts size=[sl af ts,.int .i64 size,.eptr [yv x.l],.val x.kp,.eptr x.sp,.eptr [.val x.fv]]++List.replicate 56 .undef:=by kernel_rfl
  rw[htm]at hp
  by_cases hk:k<6
  ·rw[vac (by simpa using hk)]at hp
   rw[vaR (by simpa using hk)]at hu
   match k,hk with
   |0,_=>simp at hp hu;subst hp;subst hu;exact ht0
   |1,_=>simp at hp hu;subst hp;subst hu;exact .int _ _
   |2,_=>simp at hp hu;subst hp;subst hu;exact hc.y
   |3,_=>simp at hp hu;subst hp;subst hu;exact .val _
   |4,_=>simp at hp hu;subst hp;subst hu;exact hc.sp
   |5,_=>simp at hp hu;subst hp;subst hu;exact hc.me
  ·rw[vad (by simpa using hk),vaW]at hp
   split at hp<;>cases hp
   exact .undef u
 show O5.wpIn Fence.wide n Pg (OM lo x J F v kids r Γ w) ⟨_,[]⟩ w
 rw[QD]
 refine wpIn_seq (wpIn_mono (h0.piece0 (k:=0) (Wq x ts size) hB (JP x ts size (L:=[]) trivial) []) ?_)
 rintro e ⟨a1,ds1⟩ w1 ⟨rfl,rfl,Γ1,m1,g1⟩
 refine wpIn_seq (wpIn_seq (wpIn_mono (g1.piece0 (k:=0) (Wr x ts size) m1.base (JP x ts size (L:=[(14,.bool ((ts.length:Int)==0))]) ⟨vzz,vzz⟩) []) ?_))
 rintro e ⟨a2,ds2⟩ w2 ⟨rfl,rfl,Γ2,m2,g2⟩
 have m12:Mv GE no Γ w Γ2 w2:=m1.trans m2 λb h=>.inl h
 have hs2:=hs.mv hY m12 λb h=>h.elim
 have hc2:=hc.mv m12.le
 have g2':=g2.forget (tm':=RF x ts size) (by kernel_rfl)
 refine wpIn_cond (g2.evb (t:=14) (x:=(ts.length:Int)==0) (by kernel_rfl) []) ?_
 cases ts with
 | nil =>
  have e0:((([]:List ae).length:Int)==0)=true:=rfl
  rw[e0]
  simp only[Fe]at hv
  rcases Nu hv with⟨c1,hv⟩|⟨c1,hv⟩
  ·cases hv
   refine wpIn_mono (g2'.piece0 (k:=0) (Ws x [] size c1) m2.base (pb (aI vzz vzz)) []) ?_
   rintro e ⟨a3,ds3⟩ w3 ⟨rfl,rfl,Γ3,m3,g3⟩
   have m13:Mv GE no Γ w Γ3 w3:=m12.trans m3 λb h=>.inl h
   exact P6 rfl ⟨m13.mono λb h=>h.elim,F,v,λb h=>.inl h,λb h=>.inl h,λ_=>hs2.mv hY m3 λb h=>h.elim,λh=>(by cases h)⟩ g3
  ·obtain⟨q,hq,hv⟩:=zA hv
   cases hv
   refine wpIn_mono (Ut hY c1 hq hs2 g2') ?_
   rintro e ⟨a3,ds3⟩ w3 ⟨rfl,rfl,Γ3,hP,g3⟩
   exact P6 rfl ((GF.of m12).pst hP) g3
 | cons t ts =>
  have e0:(((t::ts).length:Int)==0)=false:=by
   rw[beq_eq_false_iff_ne];simp only[vaT];omega
  rw[e0]
  have hV:=hV t ts rfl
  have h5':(ts.length:Int)<=Hj:=by simp only[vaT]at h5;omega
  simp only[Fe]at hv
  refine wpIn_skip ?_
  refine wpIn_seq (wpIn_seq (wpIn_mono (g2'.piece0 (k:=0) (Wt x (t::ts) size) m2.base (JP x (t::ts) size (L:=[(9,.int .i64 1)]) ⟨vzz,vzz⟩) []) ?_))
  rintro e ⟨a3,ds3⟩ w3 ⟨rfl,rfl,Γ3,m3,g3⟩
  have m13:Mv GE no Γ w Γ3 w3:=m12.trans m3 λb h=>.inl h
  refine wpIn_block (wpIn_loop_ghost (λk a' w'=>a'.defers=[]/\∃(j:Nat) (sK:S×fe) (F':Nat->Prop) (v':Value) (Γ':aw),k=(size - ts.length).toNat - j/\j<=(size - ts.length).toNat/\
   CR (λs n=>(R t n s.2).bind λq=>CR (λs v=>(app kids [v]).bind λks=>Fe R step ts (size - n) ks s) q.1 (s.1,q.2)) ((P1 size ts.length).drop j) sK=some r/\
   GF x F v Γ w F' v' Γ' w'/\LG x c2 c4 c5 Γ' w'/\Sd lo x J F' sK.1 sK.2 kids v' Γ' w'/\Fr Γ' w' a'.tmps (MR x (t::ts) size ((j:Int)+1))) (size - ts.length).toNat ⟨rfl,0,(s,K),F,v,Γ3,rfl,vaQ _,hv,.of m13,hc.mv m13.le,hs.mv hY m13 λb h=>h.elim,g3⟩ ?_)
  rintro k ⟨a4,ds4⟩ w4 ⟨hd4,j,⟨s4,K4⟩,F4,v4,Γ4,rfl,hj,hf4,hR4,hc4,hs4,g4⟩
  simp only at hd4;subst hd4
  rw[Sj]
  refine wpIn_seq (wpIn_seq (wpIn_mono (g4.piece0 (k:=0) (Wu x (t::ts) size ((j:Int)+1)) hR4.mv.base (JP x (t::ts) size (L:=[(9,.int .i64 ((j:Int)+1)),(28,.bool (decide ((j:Int)+1<=cc (cc (size - ((t::ts).length:Int))+1))))]) ⟨vzz,vzz,vzz⟩) []) ?_))
  rintro e ⟨a5,ds5⟩ w5 ⟨rfl,rfl,Γ5,m5,g5⟩
  refine wpIn_cond (g5.evb (t:=28) (x:=decide ((j:Int)+1<=cc (cc (size - ((t::ts).length:Int))+1))) (by kernel_rfl) []) ?_
  have ew:cc (cc (size - ((t::ts).length:Int))+1)=size - ts.length:=by
   have e1:((t::ts).length:Int)=(ts.length:Int)+1:=by simp
   have e2:cc (size - ((t::ts).length:Int))=size - ((t::ts).length:Int):=bE (by omega) (by omega)
   rw[e2,bE (by omega) (by omega)];omega
  rw[ew]
  by_cases hlt:(j:Int)<size - ts.length
  ·rw[vb4 (by omega)]
   refine wpIn_skip ?_
   rw[OD hlt,CR]at hf4
   obtain⟨q,hq,hf4⟩:=zA hf4
   obtain⟨qs,hqs,hq⟩:=zA hq
   have hs5:=hs4.mv hY m5 λb h=>h.elim
   refine wpIn_seq (wpIn_block (wpIn_seq (wpIn_mono (Ww (x:=x) (t:=t) (ts:=ts) (size:=size) (n:=(j:Int)+1) (hR t _ K4 qs hqs) m5.base hs5.k (g5.forget (tm':=MR x (t::ts) size ((j:Int)+1)) (by kernel_rfl))) ?_)))
   rintro e ⟨a6,ds6⟩ w6 ⟨rfl,rfl,Γ6,m6,k6,g6⟩
   have hs6:=hs5.map hY m6 k6
   have R6:GF x F v Γ w F4 v4 Γ6 w6:=(hR4.trans (.of m5)).trans ⟨m6.mono λb hb=>.inl (.inr (.inl hb)),λb h=>.inl h,λb h=>.inl h⟩
   have hc6:LG x c2 c4 c5 Γ6 w6:=(hc4.mv m5.le).mv m6.le
   refine wpIn_mono (Nx (r:=r) hY hV h1 h2 h5' (by omega) (by omega) (hlong t _ K4 qs hqs) hq (λhq1=>?_) R6 hc6 hs6 g6) ?_
   ·rw[hq1]at hf4
    exact(vax hf4).symm
   rintro e ⟨a7,ds7⟩ w7 (⟨rfl,rfl,hq1,Γ7,F7,v7,R7,hc7,hs7,g7⟩|⟨rfl,hx⟩)
   ·rw[hq1]at hf4
    refine wpIn_mono (g7.piece0 (k:=0) (Wv x (t::ts) size ((j:Int)+1)) R7.mv.base (JP x (t::ts) size (L:=[(9,.int .i64 (cc ((j:Int)+1+1)))]) ⟨vzz,vzz⟩) []) ?_
    rintro e ⟨a8,ds8⟩ w8 ⟨rfl,rfl,Γ8,m8,g8⟩
    have ew:cc ((j:Int)+1+1)=((j+1:Nat):Int)+1:=by rw[bE (by omega) (by omega)];omega
    rw[ew]at g8
    exact⟨(size - ts.length).toNat - (j+1),by omega,rfl,j+1,q.2,F7,v7,Γ8,rfl,by omega,hf4,R7.trans (.of m8),hc7.mv m8.le,hs7.mv hY m8 λb h=>h.elim,g8⟩
   ·exact hx
  ·rw[decide_eq_false (by omega)]
   refine wpIn_exit ?_
   rw[P2 (by omega),CR]at hf4
   cases hf4
   refine wpIn_mono ((g5.forget (tm':=RF x (t::ts) size) (by kernel_rfl)).piece0 (k:=0) (Us x (t::ts) size) m5.base (pb (aI vzz vzz)) []) ?_
   rintro e ⟨a6,ds6⟩ w6 ⟨rfl,rfl,Γ6,m6,g6⟩
   have m56:Mv GE no Γ4 w4 Γ6 w6:=m5.trans m6 λb h=>.inl h
   have R6:GF x F v Γ w F4 v4 Γ6 w6:=hR4.trans (.of m56)
   exact P6 rfl ⟨R6.mv,F4,v4,R6.f,R6.v,λ_=>hs4.mv hY m56 λb h=>h.elim,λh=>(by cases h)⟩ g6
theorem LD(hY:Yv lo x.l step J)(hR:M2 x.m R)(hlong:∀t n K r,R t n K=some r->r.1.length<4611686018427387904):∀ts:List ae,RM lo x c2 c4 c5 R step J ts
 |[]=>Gr hY hR (λt ts h=>by cases h) hlong
 |t::ts=>Gr hY hR (λt' ts' h=>by cases h;exact LD hY hR hlong ts) hlong
end
section
variable{P:Program}{GE:List (Nat×List PVal)}{Γ Γ':aw}{w w':World}{b k:Nat}
theorem Mv.freeze(hB:dO GE Γ w)(ho:ni GE Γ w b){c:Array Value}{t:TypeId}{fr:Nat×Nat}(hb:w.heap[b]? =some (.cells c t fr))(hk:k<=c.size):Mv GE (λx=>x=b) Γ w (Γ.put b k) w:=by
 have hle:Γ.Le w (Γ.put b k) w:=λx n hx _=>⟨n,(Γ.put_other λe=>by rw[e,ho.1]at hx;cases hx).trans hx,vak _,λ_ _=>rfl⟩
 refine⟨hB.world hle (λx n hx=>?_) (vak _) λg cs hg=>rfl,⟨rfl,rfl,rfl,vak _,vak _,λx _ hx=>⟨rfl,Γ.put_other hx⟩,hle⟩⟩
 by_cases hxb:x=b
 ·subst hxb
  rw[Γ.put_same]at hx;cases hx
  exact⟨c,t,fr,hb,hk⟩
 ·rw[Γ.put_other hxb]at hx
  exact hB.wi x n hx
theorem Mv.alloc{M:Nat->Prop}(hB:dO GE Γ w)(o:Obj):Mv GE M Γ w Γ (w.alloc o):=Mv.mono (M1:=no) (Mv.raw hB rfl rfl rfl (by simp[World.size_alloc]) (vak _) (λb hb _=>dI w _ hb) λb hb=>hb.elim) λb hb=>hb.elim
theorem ni.new(hB:dO GE Γ w)(o:Obj):ni GE Γ (w.alloc o) w.heap.size:=by
 refine⟨?_,by simp[World.size_alloc],λg cs hg hx=>?_⟩
 ·cases hΓ:Γ w.heap.size with
  |none=>rfl
  |some m=>exact absurd (hB.lt hΓ) (vby _)
 ·exact absurd (hx▸(hB.gx g cs hg).1) (vby _)
theorem vC.new(v:Value)(t:TypeId)(w:World):vC (w.alloc (.cells #[v] t)) w.heap.size v:=⟨t,db w _⟩
theorem vw{t:TypeId}{z:Value}(hz:(zeroValue t).run P w=.ok z w):(Instr.alloc t true (.tuple #[])).run P w=.ok (.pointer (some ⟨w.heap.size,0,none⟩)) (w.alloc (.cells z.cells t)):=by
 simp[Instr.alloc,hz,newVar,newRow]
theorem vC.eptr{v:Value}(h:vC w b v)(hg:Γ b=some 1):VR Γ [] w (.eptr [.val v]) (.pointer (some ⟨b,0,none⟩)):=by
 obtain⟨t,h⟩:=h
 refine .eptr _ b 0 1 (λ_=>v) hg (by simp) (λk p hp=>?_) λk p hp=>?_
 all_goals
  have hk:k=0:=by have:=ag hp;simp at this;exact this
  subst hk
 ·rw[cell_of_row w b _ _ t _ h];rfl
 ·simp at hp;subst hp;exact .val v
end
abbrev OR:Nat:=206
abbrev Th:Nat:=146
noncomputable def Qa:Code:=f146.body.getD .skip
abbrev Vy:Code:=aW Qa [false]
abbrev RD:Code:=aW Qa [true,false]
abbrev Qh:Code:=aW Qa [true,true,false]
abbrev L4:Code:=aW Qa [true,true,true,false]
abbrev J1:Code:=aW Qa [true,true,true,true]
theorem QB:Qa=.seq Vy (.seq (.region (wh RD) (bP RD) false) (.seq (.region (wh Qh) (bP Qh) false) (.seq (.region (wh L4) (bP L4) false) (.region (wh J1) (bP J1) false)))):=by kernel_rfl
abbrev pE(m:aB)(mb:Nat):List PVal:=aX m++[.val (.map (some mb))]
abbrev RE(l:Nat)(m:aB)(mb:Nat)(ts:List ae)(size:Int)(L:List (Nat×PVal))(H:List aq):ax:=bT 12 ((0,yv l)::(1,.eptr (pE m mb))::(2,.eptr [sl af ts])::(3,.eptr [.int .i64 size])::L) H []
theorem pW(m:aB)(mb:Nat):dR 0 (pE m mb):=kL.2 ⟨rm m,vzz,vzz⟩
section
variable{S:Type}{lo:Nat}{step:S->List aa->Option (Bool×S)}{J:(Nat->Prop)->Bool->S->aw->World->Prop}{F:Nat->Prop}{s:S}{K:fe}
variable{l:Nat}{m:aB}{mb:Nat}{ts:List ae}{size:Int}{a:Array Value}{Γ Γ1 Γ2 Γ':aw}{w w1 w2 w':World}{ds:List Deferred}{nn:Nat}{R:ae->Int->fe->Option (List aa×fe)}
theorem WB(l:Nat)(m:aB)(mb:Nat)(ts:List ae)(size:Int):cN Pg GE 0 Vy (EX .normal (RE l m mb ts size [(4,.eptr [yv l])] [.dead])) (RE l m mb ts size [] []):=by
 have z:=se (rfl:bu (yv l)=some [yv l])<|eF .normal (RE l m mb ts size [(4,.eptr [yv l])] [.dead])
 exact cJ (A:=[]) mixed z (by kernel_rfl)
theorem L8(hY:Yv lo l step J)(hR:M2 m R)(hlong:∀t n K r,R t n K=some r->r.1.length<4611686018427387904){r:Bool×S×fe}(hr:Fe R step ts size [] (s,K)=some r)(h1: -Hj<=size)(h2:size<=Hj)(h5:(ts.length:Int)<=Hj)
  (hj:J F true s Γ w) (hk:KM mb K Γ w) (hkf:¬F mb) (hlo:lo<=w.heap.size) {cs cl cn:Value} (hs:VR Γ [] w (.eptr (pE m mb)) cs) (hl:VR Γ [] w (.eptr [sl af ts]) cl) (hn:VR Γ [] w (.eptr [.int .i64 size]) cn):
  CallsIn Fence.wide nn Pg Th #[.func (.yield l) #[] #[],cs,cl,cn] w λe w'=>(∃u,e=.returned u)/\∃Γ' F',Mv GE (λb=>F b\/b=mb) Γ w Γ' w'/\(∀b,F' b->F b\/w.heap.size<=b)/\J F' r.1 r.2.1 Γ' w'/\KM mb r.2.2 Γ' w':=by
 refine callsIn_of_wp func146 (c:=Qa) rfl vzz ?_
 have hB:=hY.base hj
 have hlow:=hY.low hj
 have h0:Fr Γ w (#[.func (.yield l) #[] #[],cs,cl,cn]++Array.replicate 8 undef) (RE l m mb ts size [] []).tmps:=by
  refine⟨by kernel_rfl,λk p u hp hu=>?_⟩
  have htm:(RE l m mb ts size [] []).tmps=[yv l,.eptr (pE m mb),.eptr [sl af ts],.eptr [.int .i64 size]]++List.replicate 8 .undef:=by kernel_rfl
  rw[htm]at hp
  by_cases hk:k<4
  ·rw[vac (by simpa using hk)]at hp
   rw[vaR (by simpa using hk)]at hu
   match k,hk with
   |0,_=>simp at hp hu;subst hp;subst hu;exact .val _
   |1,_=>simp at hp hu;subst hp;subst hu;exact hs
   |2,_=>simp at hp hu;subst hp;subst hu;exact hl
   |3,_=>simp at hp hu;subst hp;subst hu;exact hn
  ·rw[vad (by simpa using hk),vaW]at hp
   split at hp<;>cases hp
   exact .undef u
 show Qa.wpIn Fence.wide nn Pg _ ⟨_,[]⟩ w
 rw[QB]
 refine wpIn_seq (wpIn_mono (h0.piece0 (k:=0) (WB l m mb ts size) hB (pb ⟨vzz,pW m mb,⟨bq dw ts,vzz⟩,⟨vzz,vzz⟩,⟨vzz,vzz⟩,vzz⟩) []) ?_)
 rintro e ⟨a1,ds1⟩ w1 ⟨rfl,rfl,Γ1,m1,g1⟩
 have z31:(zeroValue tV).run Pg w1=.ok (.slice none 0 0) w1:=Tryz.zeroValue31 w1
 refine wpIn_seq (wpIn_region ?_)
 rw[show List.range (bP RD).size=[0] by kernel_rfl]
 refine bG (o:=bw RD 0) (by kernel_rfl) (by kernel_rfl) (cy (by kernel_rfl) (by simp only[execOp,show(bw RD 0).op=.alloc tV by kernel_rfl,Sem.run_bind,vw z31];rfl) ?_)
 rw[show(bw RD 0).dst=some 5 by kernel_rfl]
 have m2:Mv GE no Γ1 w1 Γ1 (w1.alloc (.cells #[.slice none 0 0] tV)):=.alloc m1.base _
 have hd2:vC (w1.alloc (.cells #[.slice none 0 0] tV)) w1.heap.size (.slice none 0 0):=.new _ _ w1
 have of2:ni GE Γ1 (w1.alloc (.cells #[.slice none 0 0] tV)) w1.heap.size:=.new m1.base _
 have g2:=(g1.mv m2.le).set (d:=5) (p:=.val (.pointer (some ⟨w1.heap.size,0,none⟩))) (.val _)
 have sz2:(w1.alloc (.cells #[.slice none 0 0] tV)).heap.size=w1.heap.size+1:=World.size_alloc _ _
 generalize hw2:w1.alloc (.cells #[.slice none 0 0] tV)=w2 at m2 hd2 of2 g2 sz2
 show(Code.seq (.region (wh Qh) (bP Qh) false) (.seq (.region (wh L4) (bP L4) false) (.region (wh J1) (bP J1) false))).wpIn Fence.wide nn Pg _ ⟨a1.setIfInBounds 5 (.pointer (some ⟨w1.heap.size,0,none⟩)),[]⟩ (w1.alloc (.cells #[.slice none 0 0] tV))
 rw[hw2]
 have z206:(zeroValue OR).run Pg w2=.ok .nilFunc w2:=Tryz.zeroValue206 w2
 refine wpIn_seq (wpIn_region ?_)
 rw[show List.range (bP Qh).size=[0] by kernel_rfl]
 refine bG (o:=bw Qh 0) (by kernel_rfl) (by kernel_rfl) (cy (by kernel_rfl) (by simp only[execOp,show(bw Qh 0).op=.alloc OR by kernel_rfl,Sem.run_bind,vw z206];rfl) ?_)
 rw[show(bw Qh 0).dst=some 6 by kernel_rfl]
 have m3:Mv GE no Γ1 w2 Γ1 (w2.alloc (.cells #[.nilFunc] OR)):=.alloc m2.base _
 have hd3:vC (w2.alloc (.cells #[.nilFunc] OR)) w2.heap.size .nilFunc:=.new _ _ w2
 have of3:ni GE Γ1 (w2.alloc (.cells #[.nilFunc] OR)) w2.heap.size:=.new m2.base _
 have g3:=(g2.mv m3.le).set (d:=6) (p:=.val (.pointer (some ⟨w2.heap.size,0,none⟩))) (.val _)
 have sz3:(w2.alloc (.cells #[.nilFunc] OR)).heap.size=w2.heap.size+1:=World.size_alloc _ _
 show(Code.seq (.region (wh L4) (bP L4) false) (.region (wh J1) (bP J1) false)).wpIn Fence.wide nn Pg _ ⟨(a1.setIfInBounds 5 (.pointer (some ⟨w1.heap.size,0,none⟩))).setIfInBounds 6 (.pointer (some ⟨w2.heap.size,0,none⟩)),[]⟩ (w2.alloc (.cells #[.nilFunc] OR))
 generalize hw3:w2.alloc (.cells #[.nilFunc] OR)=w3 at m3 hd3 of3 g3 sz3
 generalize (a1.setIfInBounds 5 (.pointer (some ⟨w1.heap.size,0,none⟩))).setIfInBounds 6 (.pointer (some ⟨w2.heap.size,0,none⟩))=a3 at g3
 obtain⟨c2,ec2,vc2⟩:=g3.get (t:=4) (p:=.eptr [yv l]) (by kernel_rfl)
 obtain⟨c4,ec4,vc4⟩:=g3.get (t:=1) (p:=.eptr (pE m mb)) (by kernel_rfl)
 have e5:=g3.raw (t:=5) (u:=.pointer (some ⟨w1.heap.size,0,none⟩)) (by kernel_rfl)
 have e6:=g3.raw (t:=6) (u:=.pointer (some ⟨w2.heap.size,0,none⟩)) (by kernel_rfl)
 refine wpIn_seq (wpIn_region ?_)
 rw[show List.range (bP L4).size=[0,1] by kernel_rfl]
 have q4:(Act.mk a3 []).eval (.tmp 4)=c2:=aJ ec2
 have q1:(Act.mk a3 []).eval (.tmp 1)=c4:=aJ ec4
 have q5:(Act.mk a3 []).eval (.tmp 5)=.pointer (some ⟨w1.heap.size,0,none⟩):=aJ e5
 have q6:(Act.mk a3 []).eval (.tmp 6)=.pointer (some ⟨w2.heap.size,0,none⟩):=aJ e6
 refine bG (o:=bw L4 0) (by kernel_rfl) (by kernel_rfl) (cy (by kernel_rfl) (v:=.func (.func QQ) #[] #[c2,.pointer (some ⟨w1.heap.size,0,none⟩),c4,.pointer (some ⟨w2.heap.size,0,none⟩)]) (w':=w3) (by
  simp[execOp,show(bw L4 0).op=.makeFunc (.func QQ) #[] #[.tmp 4,.tmp 5,.tmp 1,.tmp 6] by kernel_rfl,Instr.makeFunc,q4,q5,q1,q6]) ?_)
 rw[show(bw L4 0).dst=some 7 by kernel_rfl]
 generalize hfv:(Value.func (.func QQ) #[] #[c2,.pointer (some ⟨w1.heap.size,0,none⟩),c4,.pointer (some ⟨w2.heap.size,0,none⟩)])=fv
 have g4:=g3.set (d:=7) (p:=.val fv) (.val fv)
 have q7:(Act.mk (a3.setIfInBounds 7 fv) []).eval (.tmp 7)=fv:=aJ (g4.raw (by kernel_rfl))
 have q6':(Act.mk (a3.setIfInBounds 7 fv) []).eval (.tmp 6)=.pointer (some ⟨w2.heap.size,0,none⟩):=aJ (g4.raw (by kernel_rfl))
 obtain⟨w5,hrun5,m5,hd5⟩:=hd3.store (P:=Pg) (T:=OR) (u:=fv) m3.base (by kernel_rfl) (by kernel_rfl) (by rw[<-hfv];rfl) of3
 refine bG (o:=bw L4 1) (by kernel_rfl) (by kernel_rfl) (jS (a:=a3.setIfInBounds 7 fv) (by kernel_rfl) (w':=w5) (by simp[execOp,show(bw L4 1).op=.store OR (.tmp 6) (.tmp 7) by kernel_rfl,q6',q7,hrun5]) ?_)
 rw[show(bw L4 1).dst=none by kernel_rfl]
 have of5:ni GE Γ1 w5 w2.heap.size:=⟨of3.1,vaE of3.2.1 m5.size,of3.2.2⟩
 obtain⟨t5,hh5⟩:=id hd5
 have m6:=Mv.freeze (k:=1) m5.base of5 hh5 (by simp)
 have vc5:VR (Γ1.put w2.heap.size 1) [] w5 (.eptr [.val fv]) (.pointer (some ⟨w2.heap.size,0,none⟩)):=hd5.eptr (Γ1.put_same _ _)
 have m36:Mv GE (λb=>b=w2.heap.size) Γ1 w3 (Γ1.put w2.heap.size 1) w5:=m5.trans m6 λb h=>.inl h
 have m16:Mv GE no Γ w (Γ1.put w2.heap.size 1) w5:=(((m1.trans m2 λb h=>.inl h).trans m3 λb h=>.inl h)).trans m36 λb h=>by
  have h:b=w2.heap.size:=h
  have:=m1.size
  exact .inr (by omega)
 have g5:Fr (Γ1.put w2.heap.size 1) w5 (a3.setIfInBounds 7 fv) (((RE l m mb ts size [(4,.eptr [yv l])] []).tmps).set 6 (.eptr [.val fv])):=by
  have g5:=((g4.mv m5.le).mv m6.le).add (d:=6) (p:=.eptr [.val fv]) ⟨_,g4.raw (t:=6) (u:=.pointer (some ⟨w2.heap.size,0,none⟩)) (by kernel_rfl),vc5⟩
  exact g5.forget (by kernel_rfl)
 generalize Γ1.put w2.heap.size 1=Γ5 at m6 vc5 m36 m16 g5
 have hkb:¬w1.heap.size=w2.heap.size:=by omega
 have hd6:vC w5 w1.heap.size (.slice none 0 0):=(hd2.mv m3 id).mv m36 hkb
 have of6:ni GE Γ5 w5 w1.heap.size:=(of2.mv m3 id).mv m36 hkb
 let x:Cx:=⟨l,w1.heap.size,mb,m,fv⟩
 have hsd:Sd lo x J F s K [] (.slice none 0 0) Γ5 w5:=⟨hY.side hj m16 λb h=>h.elim,hk.mv m16 id,hkf,hd6,of6,λh=>by
  have h:F w1.heap.size:=h
  have:=hlow _ h;have:=m1.size;omega,λh=>by
  have h:w1.heap.size=mb:=h
  have:=hk.off.2.1;have:=m1.size;omega,fk.nil,λb hb=>by simp[Value.ownBlock]at hb,vaw hlo m16.size⟩
 have hcap:LG x c2 c4 (.pointer (some ⟨w2.heap.size,0,none⟩)) Γ5 w5:=⟨vc2.mono m36.le (.refl _),vc4.mono m36.le (.refl _),vc5,hfv.symm⟩
 show(Code.region (wh J1) (bP J1) false).wpIn Fence.wide nn Pg _ ⟨a3.setIfInBounds 7 fv,[]⟩ w5
 refine wpIn_region ?_
 rw[show List.range (bP J1).size=[0,1,2,3] by kernel_rfl]
 refine bG (o:=bw J1 0) (by kernel_rfl) (by kernel_rfl) (g5.opS m16.base (d:=8) (p:=.val fv) (by kernel_rfl) (by kernel_rfl) (by kernel_rfl) (by kernel_rfl) λa6 Γ6 w6 n6 g6=>?_)
 refine bG (o:=bw J1 1) (by kernel_rfl) (by kernel_rfl) (g6.opS n6.base (d:=9) (p:=sl af ts) (by kernel_rfl) (by kernel_rfl) (by kernel_rfl) (by kernel_rfl) λa7 Γ7 w7 n7 g7=>?_)
 refine bG (o:=bw J1 2) (by kernel_rfl) (by kernel_rfl) (g7.opS n7.base (d:=10) (p:=.int .i64 size) (by kernel_rfl) (by kernel_rfl) (by kernel_rfl) (by kernel_rfl) λa8 Γ8 w8 n8 g8=>?_)
 have n58:Mv GE no Γ5 w5 Γ8 w8:=(n6.trans n7 λb h=>.inl h).trans n8 λb h=>.inl h
 have q8:(Act.mk a8 []).eval (.tmp 8)=.func (.func QQ) #[] #[c2,x.kp,c4,.pointer (some ⟨w2.heap.size,0,none⟩)]:=(aJ (g8.raw (u:=fv) (by kernel_rfl))).trans hfv.symm
 obtain⟨t9,e9,v9⟩:=g8.get (t:=9) (p:=sl af ts) (by kernel_rfl)
 obtain⟨t10,e10,v10⟩:=g8.get (t:=10) (p:=.int .i64 size) (by kernel_rfl)
 cases v10
 have q9:(Act.mk a8 []).eval (.tmp 9)=t9:=aJ e9
 have q10:(Act.mk a8 []).eval (.tmp 10)=.int .i64 size:=aJ e10
 have hcall:=LD (x:=x) (lo:=lo) (c2:=c2) (c4:=c4) (c5:=.pointer (some ⟨w2.heap.size,0,none⟩)) (step:=step) (J:=J) hY hR hlong ts size [] s K r F (.slice none 0 0) Γ8 w8 t9 (nn - 1) hr h1 h2 h5 (hsd.mv hY n58 λb h=>h.elim) (hcap.mv n58.le) v9
 have hop:(bw J1 3).op=.call {callee:=.value (.tmp 8),args:=#[.tmp 9,.tmp 10],argTypes:=Jm (bw J1 3)}:=by kernel_rfl
 refine bG (o:=bw J1 3) (by kernel_rfl) (by kernel_rfl) (zB hop q8 call147 (by
  have e:(#[]++(#[.tmp 9,.tmp 10]:Array Operand).map (Act.mk a8 []).eval++#[c2,x.kp,c4,.pointer (some ⟨w2.heap.size,0,none⟩)])=#[t9,.int .i64 size,c2,x.kp,c4,.pointer (some ⟨w2.heap.size,0,none⟩)]:=by simp[q9,q10]
  rw[e];exact hcall) ?_)
 rintro e w9 ⟨rfl,Γ9,hP⟩
 refine⟨_,rfl,?_⟩
 have mAll:Mv GE no Γ w Γ8 w8:=m16.trans n58 λb h=>.inl h
 obtain⟨F',v',p1,p2,p3,p4⟩:=hP.ex
 have mF:Mv GE (λb=>F b\/b=mb) Γ w Γ9 w9:=(mAll.mono (M:=λb=>F b\/b=mb) λb h=>h.elim).trans hP.mv λb hb=>by
  rcases hb with hb|hb|hb|hb
  ·exact .inl (.inl hb)
  ·exact .inl (.inr hb)
  ·have hb:b=w1.heap.size:=hb
   exact .inr (by have:=m1.size;omega)
  ·simp[Value.ownBlock]at hb
 have hJK:J F' r.1 r.2.1 Γ9 w9/\KM mb r.2.2 Γ9 w9:=by
  obtain⟨b,s',K'⟩:=r
  cases b with
  |true=>exact⟨(p3 rfl).j,(p3 rfl).k⟩
  |false=>exact p4 rfl
 have g9:=(g8.mv hP.mv.le).set (d:=11) (p:=.bool r.1) (.bool r.1)
 obtain⟨u,e1,_⟩:=qq (g9.sr (P:=Pg) hP.mv.base 0) (fn:=f146) (r:=.tuple []) (by kernel_rfl)
 exact⟨rfl,u,e1,⟨_,rfl⟩,Γ9,F',mF,λb hb=>(p1 b hb).imp id λh=>vaw mAll.size h,hJK.1,hJK.2⟩
end
end Go.Proofs.YtjddnhkahpfhdaaGreatDoor
