/- PROVED: a part of the proof. Conditions: none. -/
import Derived.Test.YtbaamopmfmpfaaaGreatDoorPkB21
noncomputable section
namespace Go.Proofs.YtbaamopmfmpfaaaGreatDoor
open Go
set_option linter.unusedVariables false
set_option linter.unusedSimpArgs false
theorem P0:Gd=some true:=by kernel_rfl
theorem qaJ(t:ae)(h:gi (ag t)<=1048576):fC (s9 t) (fun r=>(!r)=true\/(ch t<=160/\wT t<=160)):=by
 unfold s9
 refine ax (qg2 [t] 150 (by rw[KE];unfold Bp;omega) (by omega) (by omega)) fun r hr=>aq ?_
 by_cases hc:r<=150
 ·have h1:=hr.2 hc
  simp only[dw,uQ]at h1
  exact .inr ⟨by omega,by omega⟩
 ·exact .inl (by simp;omega)
theorem qiU(l:List af)(h:l.length<9223372036854775808):fC (JS l) (fun _=>True):=by
 unfold JS Im
 refine ax (Bk l h (fun i (_:Unit)=>i) (fun _ _=>True) (Q:=fun _=>True) (fun i hi s _=>?_) (fun s _=>?_) () trivial) fun o _=>by cases o<;>exact aq trivial
 ·show fC (nE l (i:Int)) _
  unfold nE Il
  rw[vad (by simp;omega)]
  refine ax (R:=fun _=>True) (aU (fun _=>aq trivial) fun _=>cW (bp l i hi) (aq trivial)) fun o _=>aU (fun _=>aq trivial) fun _=>aq ⟨(),rfl,trivial⟩
 ·show fC (nE l (l.length:Int)) _
  unfold nE
  rw[vae (by simp)]
  exact aq trivial
theorem qfD(x:aJ)(ha:ch x.A<=bm)(hb:ch x.B<=bm)(pa:Io (fun p=>nP p<=bm) x.A)(pb:Io (fun p=>nP p<=bm) x.B):fC (AI x) (fun r=>(!r)=true\/(Dv x.A/\Dv x.B)):=by
 unfold AI
 refine ax (OO x.A ha pa) fun r hr=>aU (fun h=>?_) (fun _=>aq (.inl rfl))
 refine ax (OO x.B hb pb) fun r' hr'=>aq ?_
 by_cases h':r'=0
 ·exact .inr ⟨hr (by simpa using h),hr' (by simpa using h')⟩
 ·exact .inl (by simpa using h')
structure qdf(m:aG)(x:aJ)(used:List af):Prop where
 la:ch x.A<=160
 lb:ch x.B<=160
 wa:wT x.A<=160
 wb:wT x.B<=160
 ea:Dv x.A
 eb:Dv x.B
theorem V2(x:aJ):gi (az x)=gi (ag x.A)+gi (ag x.B)+1:=by
 unfold az;simp only[eH,gi,pm];omega
abbrev qfe(m:aG)(x:aJ)(used:List af):Prop:=gi (aB m)+(gi (az x)+(pm (sl cS used)+0))<=1048576
theorem qcM{t:ae}(h:gi (ag t)<=1048576):ch t<=bm/\Io (fun p=>nP p<=bm) t:=⟨by have:=qai t;unfold bm;omega,Th (fun p hp=>vaI hp (by decide)) t (ZP 1048576 t h)⟩
theorem qfh(m:aG)(x:aJ)(used:List af)(h:qfe m x used):fC (nN used m x) (fun o=>o=true\/qdf m x used):=by
 have hp:=V2 x
 have hl:=qag used
 have hu:pm (sl cS used)=ce (used.map cS)+1:=by simp only[pm,sl]
 unfold qfe at h
 have ga:=qcM (t:=x.A) (by omega)
 have gb:=qcM (t:=x.B) (by omega)
 unfold nN
 refine ax (qfI m (by unfold Bp;omega)) fun _ _=>aU (fun _=>aq (.inl rfl)) fun _=>ax (qaJ x.A (by omega)) fun r1 h1=>aU (fun _=>aq (.inl rfl)) fun n1=>ax (qaJ x.B (by omega)) fun r2 h2=>aU (fun _=>aq (.inl rfl)) fun n2=>ax (qiU used (by omega)) fun _ _=>aU (fun _=>aq (.inl rfl)) fun _=>ax (qfD x ga.1 gb.1 ga.2 gb.2) fun r3 h3=>aq ?_
 have h1:=h1.resolve_left n1
 have h2:=h2.resolve_left n2
 rcases h3 with h3|h3
 ·exact .inl h3
 ·exact .inr ⟨h1.1,h2.1,h1.2,h2.2,h3.1,h3.2⟩
theorem qdf.f{m:aG}{x:aJ}{used:List af}(h:qdf m x used)(hf:qfe m x used)(hs:lR x.A x.B=true):Au x.A x.B used 1048576/\Au x.B x.A used 1048576:=by
 have hp:=V2 x
 have hl:=qag used
 have hu:pm (sl cS used)=ce (used.map cS)+1:=by simp only[pm,sl]
 unfold qfe at hf
 have n1:=XI x.A
 have n2:=XI x.B
 have:=h.la;have:=h.lb
 have e:=(KY _ _).1 hs
 exact⟨⟨e,h.la,h.lb,h.wa,h.wb,JU _ _ (by omega),JU _ _ (by omega),by omega,by omega,h.ea,h.eb⟩,⟨e.symm,h.lb,h.la,h.wb,h.wa,JU _ _ (by omega),JU _ _ (by omega),by omega,by omega,h.eb,h.ea⟩⟩
theorem Q8{α:Type}(c:α->List PVal)(h:∀x,2<=gi (c x)):∀(l:List α),2 * l.length<=ce (l.map c)
 |[]=>by simp
 |x::l=>by have:=Q8 c h l;have:=h x;simp only[vay,ce,vaP];omega
theorem qhf{m:aG}(h:gi (aB m)<=1048576):qcp m 524288:=by
 have hp:=Ra m
 have hd:=tn cN (fun x=>by rw[KF];omega) m.Datas
 refine⟨by omega,fun d hd'=>?_,by decide⟩
 have h1:=yf (vaq.2 ⟨d,hd',rfl⟩:cN d∈m.Datas.map cN)
 have h2:=KF d
 have h3:=Q8 bH (fun x=>by unfold bH;simp only[gi,pm];omega) d.Preds
 omega
theorem qar{m:aG}{a b:ae}{used:List af}{L D:Nat}(hm:qcp m D)(tag:Int)(hl:ch a<=bm)(h:lR a b=true->Au a b used L):kg m a b tag used=some (if lR a b=true then(FU m tag a b used,0)else(RC,12)):=by
 unfold kg
 rw[qb1 a b hl]
 simp only[vaa]
 cases hs:lR a b with
 |false=>rfl
 |true=>
  rw[vae (by simp),qd6 hm tag (h hs)]
  rfl
theorem qaA{m:aG}{a b:ae}{used:List af}{L D:Nat}(hm:qcp m D)(tag:Int)(hl:ch a<=bm)(h:lR a b=true->Au a b used L):JI m a b tag used=some (if lR a b=true then(FU m tag a b used,0)else(RC,12)):=by
 cases hs:lR a b with
 |true=>exact qej hm tag (h hs)
 |false=>
  refine eP (F:=Gb) (fun _=>0) (fun x=>x=(m,a,b,tag,used)) (fun x=>(RC,12)) (fun R x hx ih=>?_) (m,a,b,tag,used) rfl (eg (by decide))
  rw[hx]
  show wB (fun m a a2 tag used=>R (m,a,a2,tag,used)) m a b tag used=some (RC,12)
  unfold wB
  rw[Ue a b hl,hs]
  rfl
def qg7(m:aG)(a b:ae)(used:List af):ai×Int:=if lR a b=true then(AJ (fo [FU m 0 a b used,FU m 0 b a used]),0)else(RC,12)
theorem Ud(a b:ae):lR b a=lR a b:=by
 rw[vbQ,KY,KY]
 exact eq_comm
theorem VW{m:aG}(hm:qcp m 524288){a b:ae}{used:List af}{L L':Nat}(h:Au a b used L)(h':Au b a used L'):wG [FU m 0 a b used,FU m 0 b a used]+2<=bm:=by
 have h1:=(qep hm 0 h).2
 have h2:=(qep hm 0 h').2
 have:=h.la;have:=h.lb;have:=h.wa;have:=h.wb
 unfold bm
 simp only[wG]
 omega
theorem qbM{m:aG}{a b:ae}{used:List af}{L L':Nat}(hm:qcp m 524288)(hl:ch a<=bm)(hl':ch b<=bm)(h:lR a b=true->Au a b used L/\Au b a used L'):uc m a b used=some (qg7 m a b used):=by
 unfold uc qg7
 rw[qar hm 0 hl (fun hs=>(h hs).1)]
 simp only[vaa]
 cases hs:lR a b with
 |false=>rfl
 |true=>
  rw[vad rfl,vae (by simp),qar hm 0 hl' (fun _=>(h hs).2),Ud,hs]
  simp only[vaa,if_true]
  rw[Vc _ (by have:=VW hm (h hs).1 (h hs).2;omega)]
  rfl
theorem qb3{m:aG}{a b:ae}{used:List af}{L L':Nat}(hm:qcp m 524288)(hl:ch a<=bm)(hl':ch b<=bm)(h:lR a b=true->Au a b used L/\Au b a used L'):Ga m a b used=some (qg7 m a b used):=by
 unfold Ga qg7
 rw[qaA hm 0 hl (fun hs=>(h hs).1)]
 simp only[vaa]
 cases hs:lR a b with
 |false=>rfl
 |true=>
  rw[vad rfl,vae (by simp),qaA hm 0 hl' (fun _=>(h hs).2),Ud,hs]
  simp only[vaa,if_true]
  rw[vae (by simp),Mq _ (by have:=VW hm (h hs).1 (h hs).2;omega)]
  rfl
theorem KD(m:aG)(x:aJ)(used:List af)(h:gi (aB m)+(gi (az x)+(pm (sl cS used)+0))<=1048576):sZ m x used=some true:=by
 obtain⟨o,e,ho⟩:=qfh m x used h
 have e:nZ used m x=some o:=e
 have hp:=V2 x
 have hm:qcp m 524288:=qhf (by omega)
 unfold sZ
 rw[e]
 simp only[vaa]
 by_cases hc:o=true
 ·rw[vad hc,P0];rfl
 ·have hL:=ho.resolve_left hc
  have hf:lR x.A x.B=true->Au x.A x.B used 1048576/\Au x.B x.A used 1048576:=fun hs=>hL.f h hs
  have l1:ch x.A<=bm:=by have:=hL.la;unfold bm;omega
  have l2:ch x.B<=bm:=by have:=hL.lb;unfold bm;omega
  have w1:=pF x.A
  have w2:=pF x.B
  have w3:=hL.wa
  have w4:=hL.wb
  have hb:bm=1073741824:=rfl
  rw[vae hc,qbM hm l1 l2 hf,qb3 hm l1 l2 hf]
  simp only[vaa]
  have hn:nC (qg7 m x.A x.B used).1<=bm:=by
   unfold qg7
   cases hs:lR x.A x.B with
   |true=>
    have h1:=VW hm (hf hs).1 (hf hs).2
    have h2:=qdA [FU m 0 x.A x.B used,FU m 0 x.B x.A used]
    show nC (AJ (fo [FU m 0 x.A x.B used,FU m 0 x.B x.A used]))<=bm
    omega
   |false=>show nC RC<=bm;decide
  generalize qg7 m x.A x.B used=z at hn
  unfold n7
  rw[IA,Rv _ hn]
  simp only[vaa]
  rw[vae (by simp),vae (by simp),KB,Rk]
  simp only[vaa,beq_self_eq_true,vbP,va5,if_false]
  have hj:∃s,jA used=some s:=by
   unfold jA
   by_cases hu:0<used.length
   ·rw[vad (by simp;omega),show cz used (0:Int)=some used[0]from bp used 0 hu]
    exact⟨_,rfl⟩
   ·rw[vae (by simp only[van];omega)]
    exact⟨_,rfl⟩
  obtain⟨s,hs⟩:=hj
  rw[hs]
  simp only[vaa]
  rw[XO _ _ _ l1 (by omega),Rm _ _ _ l1 (by omega)]
  simp only[vaa]
  have h3:=U7 x.A s (Dh x.B.Pred x.Tag)
  have h4:nC (Dh x.B.Pred x.Tag)=nP x.B.Pred+1:=by simp[nC,wG]
  have h5:nC (AM x.A s (Dh x.B.Pred x.Tag))<=bm:=by omega
  rw[Rv _ h5]
  simp only[vaa,if_true]
  rw[P0]
  rfl
end Go.Proofs.YtbaamopmfmpfaaaGreatDoor
