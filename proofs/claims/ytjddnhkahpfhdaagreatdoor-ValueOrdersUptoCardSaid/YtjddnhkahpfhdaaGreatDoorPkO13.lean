/- PROVED: a part of the proof. Conditions: none. -/
import Derived.Test.YtjddnhkahpfhdaaGreatDoorPkO12
import Derived.Test.YtjddnhkahpfhdaaGreatDoorPkO9
import Derived.Test.YtjddnhkahpfhdaaGreatDoorPkO11
import Derived.Shelf.SlSortCmp.NoneTotal
set_option linter.unusedSimpArgs false
set_option linter.unusedVariables false
noncomputable section
namespace Go.Proofs.YtjddnhkahpfhdaaGreatDoor
open Go Go.RowKit Go.Proofs.Tryz
set_option linter.unusedVariables false
set_option linter.unusedSimpArgs false
set_option maxRecDepth 100000
abbrev Vp:Nat:=98
abbrev Vo:Nat:=124
noncomputable def P9:Code:=f98.body.getD .skip
abbrev Rz:Code:=aW P9 [true,true,false,true,true,true]
abbrev QH:Code:=aW Rz [true,true,false,true]
abbrev cT:Code:=aW QH [true,true]
abbrev MP:Code:=aW cT [true,true,true]
abbrev dB:Code:=WF MP
abbrev ef:Code:=aW dB [true,false]
abbrev Ez:Code:=aW dB [true,true,false]
abbrev GV:Code:=aW dB [true,true,true,false]
theorem Se:dB=.block 3 (.seq (.region (wh ef) (bP ef) true) (.seq (.region (wh Ez) (bP Ez) false) (.seq (.region (wh GV) (bP GV) false) (.cond (.tmp 62) (.exit 2) .skip)))):=by kernel_rfl
theorem Rb:Oq MP=.region (wh (Oq MP)) (bP (Oq MP)) false:=by kernel_rfl
def H9(name:ai)(s:List aa×Int)(kids:List aa):Option (Bool×(List aa×Int)):=(JK kids).bind λks=>(app s.1 [(⟨3,0,name,ks,[],[],[]⟩:aa)]).bind λo=>some (!(cc (s.2+1)==2000),(o,cc (s.2+1)))
abbrev Mz(sp:List PVal)(ccons:List aP)(d:aS)(c:aP)(size len i k:Int)(ob nb:Nat)(L:List (Nat×PVal)):List PVal:=
 (bT 65 ([(2,.int .i64 size),(3,.eptr sp),(4,.eptr (aC d)),(7,.val (.pointer (some ⟨ob,0,none⟩))),(8,.int .i64 k),(9,.eptr (aT c)),(13,.val (.pointer (some ⟨nb,0,none⟩)))]++L++[(16,sl aT ccons),(17,.int .i64 len),(18,.int .i64 i)]) [] []).tmps
def Jl(c:aP)(ks:List aa)(kv:Value):List (Nat×Nat×PVal):=
 [(1,50,.eptr ((aT c).drop 0)),(2,51,.str c.Name),(3,52,.val kv),(4,53,sl ac ks),(5,54,.agg (ac ⟨3,0,c.Name,ks,[],[],[]⟩)),(7,56,.slice [z9])]
abbrev dC:List Nat:=[49,50,51,52,53,54,55,56,57,58]
theorem Qw:Qp tV eV (bP ef) 8 9 10 11 49 55 56 57 58 54 7 dC (bw ef 8) (bw ef 9) (bw ef 10) (bw ef 11):=
 ⟨by kernel_rfl,by kernel_rfl,by kernel_rfl,by kernel_rfl,by kernel_rfl,by kernel_rfl,by kernel_rfl,by kernel_rfl,by kernel_rfl,by kernel_rfl,by kernel_rfl,by kernel_rfl,by kernel_rfl,by kernel_rfl,by kernel_rfl,by kernel_rfl,by kernel_rfl⟩
theorem JN{l:List aa}{kv:Value}{Γ:aw}{w:World}(hB:dO GE Γ w)(h:fk Pg GE eV Γ w (pk ac l) l.length kv)(hl:l.length<=ct):Calls Pg Vo #[kv] w λe w'=>∃v Γ',e=.returned v/\Mv GE no Γ w Γ' w'/\VR Γ' [] w' (sl ac l) v:=by
 obtain⟨xs,hown,hxl,hx1,hxv⟩:=h.row
 have hC:=JJ
 have hx:(kv=.slice none 0 0/\l.length=0)\/∃a c,kv=.slice (some a) l.length c/\∀(j:Nat) u,xs[j]? =some u->w.cell? (a.add j)=some u:=by
  rcases h.form with⟨rfl,h0⟩|⟨g,cap,rfl⟩
  ·exact .inl ⟨rfl,h0⟩
  ·exact .inr ⟨_,cap,rfl,hown.cells (g:=g) rfl⟩
 refine(hC.2 w kv l.length xs hx hown.1 hx1 hl).mono λe w' he=>?_
 obtain⟨v',rfl,hown',hbel,hdr⟩:=he
 have m1:Mv GE no Γ w Γ w':=Mv.raw hB hbel.os hbel.tape hbel.output hbel.size (jy hdr) (λb hb _=>hbel.block b hb) λb hb=>hb.elim
 rcases hown'.2 with⟨rfl,h0⟩|⟨g,cap,cur,rfl,hge,hg,hnc,hcm,hcs,htake⟩
 ·have hl0:l=[]:=vaj h0
  subst hl0
  exact⟨_,Γ,rfl,m1,.sliceNil⟩
 ·have hoff:ni GE Γ w' g:=by
   refine⟨?_,nW hg,λq cs hq e=>?_⟩
   ·cases hΓ:Γ g with
    |none=>rfl
    |some m=>exact absurd (hB.lt hΓ) (vcC.2 hge)
   ·exact absurd (e▸(hB.gx q cs hq).1) (vcC.2 hge)
  have m2:=Mv.freeze (k:=l.length * Pg.cellsOf eV) m1.base hoff hg (by rw[hcs];exact vaJ _ hnc)
  have m3:Mv GE no Γ w (Γ.put g (l.length * Pg.cellsOf eV)) w':=m1.trans m2 λb hb=>by
   have hb:b=g:=hb
   exact .inr (hb▸hge)
  refine⟨_,_,rfl,m3,?_⟩
  have hlm:(l.map ac).length=l.length:=by simp
  have hk:0<Pg.cellsOf eV:=aZ.hp
  have:=kw (Γ:=Γ.put g (l.length * Pg.cellsOf eV)) (bs:=[]) (w:=w') (es:=l.map ac) (cap:=cap) (size:=Pg.cellsOf eV) hg (Γ.put_same _ _) (by rw[hlm];exact vak _) hk (by rw[hlm];exact hnc) (λi x hx=>by
   obtain⟨y,_,rfl⟩:=vai.1 (var hx)
   exact aZ.hc y) (λi x k q hx hq=>by
   have hil:i<l.length:=by have:=ag hx;omega
   have hkl:k<Pg.cellsOf eV:=by
    obtain⟨y,_,rfl⟩:=vai.1 (var hx)
    have:=ag hq;rw[aZ.hc y]at this;exact this
   have hlt:=tX hil hkl
   have hpos:(pk ac l)[i * Pg.cellsOf eV+k]? =some q:=by
    unfold pk
    exact ru (λx hx=>by obtain⟨y,_,rfl⟩:=vai.1 hx;exact aZ.hc y) hx hq
   have hxi:i * Pg.cellsOf eV+k<xs.length:=by rw[hown.1];exact hlt
   refine⟨xs[i * Pg.cellsOf eV+k],?_,(hxv _ q _ hpos (vaa hxi)).mono m3.le (.refl _)⟩
   have h1:(cur.toList.take (l.length * Pg.cellsOf eV))[i * Pg.cellsOf eV+k]? =xs[i * Pg.cellsOf eV+k]?:=by rw[htake]
   rw[vau hlt,vaa hxi]at h1
   simpa using h1)
  rw[hlm]at this
  exact this
section
variable{Fc:Fence}[hF:OkF Fc]{sp:List PVal}{ccons:List aP}{d:aS}{c:aP}{size len i k:Int}{ob nb:Nat}{a:Array Value}{Γ Γ':aw}{w w':World}{ds:List Deferred}{nn:Nat}{s:List aa×Int}{kids:List aa}{kv v:Value}
theorem Ag(ks:List aa):DS (Mz sp ccons d c size len i k ob nb [(14,.val kv)]) (Jl c ks kv):=vB (by kernel_rfl)
theorem GP{o:Oper}{g:FuncId}{args:Array Operand}{tys:Array TypeId}{next:Act->World->Prop}{Q:Exit->Act->World->Prop}(ho:o.op=.call {callee:=.value (.func g),args:=args,argTypes:=tys})(hd:co o=true)(hc:∀vs w,(callFunc g vs).run Pg w=.ok (.enter g vs) w){R:Ending->World->Prop}
  (h:Calls Pg g (args.map (Act.mk a ds).eval) w R) (hR:∀e w',R e w'->∃v,e=.returned v/\next ((Act.mk a ds).put o.dst v) w'):o.wpIn Fc nn Pg ⟨a,ds⟩ w next Q:=by
 refine hF.h hd ?_
 have hrun:(execOp (Act.mk a ds).eval o).run Pg w=.ok (.enter g (args.map (Act.mk a ds).eval)) w:=by
  simp only[execOp,ho]
  simp[resolve,Act.eval,Deferred.ofValue,invoke,hc]
 unfold Oper.wp
 rw[hrun,Oper.upon_enter]
 refine h.mono λe w' he=>?_
 obtain⟨v,rfl,hx⟩:=hR e w' he
 exact hx
def IC(sp:List PVal)(ccons:List aP)(d:aS)(c:aP)(size len i k:Int)(ob nb:Nat)(ks:List aa)(kv v:Value)(n:Nat)(a0:Array Value)(L:Nat->Prop)(a:Act)(Γ:aw)(w:World):Prop:=
 mC (Mz sp ccons d c size len i k ob nb [(14,.val kv)]) (Jl c ks kv) L a.tmps Γ w/\(L 0->a.tmps[49]? =some v)/\(L 6->a.tmps[55]? =some (.int .i64 (n:Int)))/\∀t,dC.contains t=false->a.tmps[t]? =a0[t]?
theorem Ug(hB:dO GE Γ w)(hfr:Fr Γ w a (Mz sp ccons d c size len i k ob nb [(14,.val kv)]))(hk:fk Pg GE eV Γ w (pk ac kids) kids.length kv)(hkl:kids.length<=ct){o:List aa}(ho:app s.1 [(⟨3,0,c.Name,kids,[],[],[]⟩:aa)]=some o)
  (hrow:fk Pg GE eV Γ w (pk ac s.1) s.1.length v) (hh:vC w ob v) (hof:ni GE Γ w ob) (hne:v.ownBlock≠some ob):
  (Code.region (wh ef) (bP ef) true).wpIn Fc nn Pg (λe a' w'=>e=.normal/\a'.defers=ds/\∃Γ' v',Mv GE (λb=>b=ob\/v.ownBlock=some b) Γ w Γ' w'/\fk Pg GE eV Γ' w' (pk ac o) o.length v'/\vC w' ob v'/\ni GE Γ' w' ob/\v'.ownBlock≠some ob/\(∀b,v'.ownBlock=some b->v.ownBlock=some b\/w.heap.size<=b)/\
   Fr Γ' w' a'.tmps (Mz sp ccons d c size len i k ob nb [])) ⟨a,ds⟩ w:=by
 obtain⟨hlen,rfl⟩:=Cv ho
 have hsz:a.size=65:=hfr.sz
 have hraw:a[7]? =some (.pointer (some ⟨ob,0,none⟩)):=hfr.raw (u:=.pointer (some ⟨ob,0,none⟩)) (by kernel_rfl)
 refine M8 (T:=tV) (e:=eV) (cs:=pk ac s.1) (ps:=ac ⟨3,0,c.Name,kids,[],[],[]⟩) (k:=s.1.length) (v:=v) (kb:=ob) mixed (by kernel_rfl) (by kernel_rfl) KQ (by kernel_rfl) (by kernel_rfl) Qw hB hrow (aZ.flat_len s.1) hh hof hne (by simpa using hlen) (aZ.hc _) (aZ.ho _) (IC sp ccons d c size len i k ob nb kids kv v s.1.length a) ?_ ?_ (by rw[hsz];decide) (by rw[hsz];decide) ?_ ?_
 ·rintro L ⟨a1,ds'⟩ Γ1 w1 j o hmv ⟨hP,h0,h6,hD⟩ rfl ho j8 j9 j10 j11 hnl hed
  have hj:j<12:=by
   have h1:=(vaf.1 ho).1
   have h2:(bP ef).size=12:=by kernel_rfl
   omega
  have hd1:=hh.mv hmv id
  have conv:∀{dd:Nat} {a':Act} {w':World},49≠dd->dd≠55->dC.contains dd=true->(∃Γ',Mv GE no Γ1 w1 Γ' w'/\a'.defers=ds'/\mC (Mz sp ccons d c size len i k ob nb [(14,.val kv)]) (Jl c kids kv) (λq=>L q\/q=j) a'.tmps Γ' w'/\∃u,a'.tmps=a1.setIfInBounds dd u)->j≠0->j≠6->
    ∃Γ',Mv GE no Γ1 w1 Γ' w'/\a'.defers=ds'/\IC sp ccons d c size len i k ob nb kids kv v s.1.length a (λq=>L q\/q=j) a' Γ' w':=by
   rintro dd a' w' n1 n2 n3 ⟨Γ',m',hd',hP',u,hu⟩ hj0 hj6
   refine⟨Γ',m',hd',hP',λhx=>?_,λhx=>?_,?_⟩
   ·rw[hu,vav (Ne.symm n1)];exact h0 (hx.resolve_right λe=>hj0 e.symm)
   ·rw[hu,vav n2];exact h6 (hx.resolve_right λe=>hj6 e.symm)
   ·rw[hu];exact nJ n3 hD
  rcases(show j=0\/j=1\/j=2\/j=3\/j=4\/j=5\/j=6\/j=7 by omega)with rfl|rfl|rfl|rfl|rfl|rfl|rfl|rfl
  ·obtain rfl:bw ef 0=o:=vax ((show(bP ef)[0]? =some (bw ef 0) by kernel_rfl).symm.trans ho)
   have hop:(bw ef 0).op=.load tV (.tmp 7):=by kernel_rfl
   have hkp:(Act.mk a1 ds').eval (.tmp 7)=.pointer (some ⟨ob,0,none⟩):=aJ ((hD 7 rfl).trans hraw)
   refine cy (by kernel_rfl) (v:=v) (w':=w1) (by simp[execOp,hop,hkp,hd1.load (P:=Pg) (T:=tV) (by kernel_rfl)]) ⟨Γ1,.refl hmv.base,aR _ _ _,?_⟩
   rw[show(bw ef 0).dst=some 49 by kernel_rfl]
   have hs1:a1.size=65:=hP.fr.sz
   refine⟨hP.other (by kernel_rfl) (by simp[Jl]),λ_=>by show(a1.setIfInBounds 49 v)[49]? =_;simp[hs1],λhx=>?_,nJ rfl hD⟩
   show(a1.setIfInBounds 49 v)[55]? =_
   rw[vav (by decide)]
   exact h6 (hx.resolve_right (by decide))
  ·obtain rfl:bw ef 1=o:=vax ((show(bP ef)[1]? =some (bw ef 1) by kernel_rfl).symm.trans ho)
   have e1:io Pg (bw ef 1).op 0 (opv GE (kr (Mz sp ccons d c size len i k ob nb [(14,.val kv)]) [])) []=(aE Pg 76 (.eptr (aT c)) 0).map (λp=>(p,[])):=by kernel_rfl
   exact Oper.wpIn_mono (λa' w' hq=>conv (dd:=50) (by decide) (by decide) rfl hq (by decide) (by decide)) (iR (Ag kids) hmv.base hP (o:=bw ef 1) (i:=1) (d:=50) (p:=.eptr ((aT c).drop 0)) (by simp[Jl]) (by kernel_rfl) (by kernel_rfl) (by kernel_rfl) [] (by simp) hed (by rw[e1,mU];rfl))
  ·obtain rfl:bw ef 2=o:=vax ((show(bP ef)[2]? =some (bw ef 2) by kernel_rfl).symm.trans ho)
   have e1:io Pg (bw ef 2).op 0 (opv GE (kr (Mz sp ccons d c size len i k ob nb [(14,.val kv)]) [(1,50,.eptr ((aT c).drop 0))])) []=(aO Pg 9 ((aT c).drop 0)).map (λp=>(p,[])):=by kernel_rfl
   exact Oper.wpIn_mono (λa' w' hq=>conv (dd:=51) (by decide) (by decide) rfl hq (by decide) (by decide)) (iR (Ag kids) hmv.base hP (o:=bw ef 2) (i:=2) (d:=51) (p:=.str c.Name) (by simp[Jl]) (by kernel_rfl) (by kernel_rfl) (by kernel_rfl) [(1,50,.eptr ((aT c).drop 0))] (by intro y hy;obtain rfl:=vbg.1 hy;exact⟨by simp[Jl],by kernel_rfl⟩) hed (by rw[e1,px];rfl))
  ·obtain rfl:bw ef 3=o:=vax ((show(bP ef)[3]? =some (bw ef 3) by kernel_rfl).symm.trans ho)
   exact Oper.wpIn_mono (λa' w' hq=>conv (dd:=52) (by decide) (by decide) rfl hq (by decide) (by decide)) (iR (Ag kids) hmv.base hP (o:=bw ef 3) (i:=3) (d:=52) (p:=.val kv) (by simp[Jl]) (by kernel_rfl) (by kernel_rfl) (by kernel_rfl) [] (by simp) hed (by kernel_rfl))
  ·obtain rfl:bw ef 4=o:=vax ((show(bP ef)[4]? =some (bw ef 4) by kernel_rfl).symm.trans ho)
   obtain⟨u,u1,u2⟩:=hP.at' (3,52,.val kv) (by simp[Jl]) (gu (j:=3) (by kernel_rfl) hed)
   cases u2
   have e52:(Act.mk a1 ds').eval (.tmp 52)=kv:=aJ u1
   have hop:(bw ef 4).op=.call {callee:=.value (.func Vo),args:=#[.tmp 52],argTypes:=Jm (bw ef 4)}:=by kernel_rfl
   have hcl:=JN hmv.base (hk.mv hmv λb _=>id) hkl
   refine GP hop (by kernel_rfl) call124 (by
    have e:(#[.tmp 52]:Array Operand).map (Act.mk a1 ds').eval=#[kv]:=by simp[e52]
    rw[e];exact hcl) ?_
   rintro e w2 ⟨v2,Γ2,rfl,m2,hv2⟩
   refine⟨v2,rfl,conv (dd:=53) (by decide) (by decide) rfl ⟨Γ2,m2,aR _ _ _,?_,v2,by rw[show(bw ef 4).dst=some 53 by kernel_rfl];rfl⟩ (by decide) (by decide)⟩
   rw[show(bw ef 4).dst=some 53 by kernel_rfl]
   exact(hP.mv m2.le).put (Ag kids) (i:=4) (d:=53) (p:=sl ac kids) (by simp[Jl]) hv2
  ·obtain rfl:bw ef 5=o:=vax ((show(bP ef)[5]? =some (bw ef 5) by kernel_rfl).symm.trans ho)
   have e1:io Pg (bw ef 5).op 0 (opv GE (kr (Mz sp ccons d c size len i k ob nb [(14,.val kv)]) [(2,51,.str c.Name),(4,53,sl ac kids)])) []=(dy Pg eV [(0,.int .i64 3),(2,.str c.Name),(3,sl ac kids)]).map (λp=>(p,[])):=by kernel_rfl
   exact Oper.wpIn_mono (λa' w' hq=>conv (dd:=54) (by decide) (by decide) rfl hq (by decide) (by decide)) (iR (Ag kids) hmv.base hP (o:=bw ef 5) (i:=5) (d:=54) (p:=.agg (ac ⟨3,0,c.Name,kids,[],[],[]⟩)) (by simp[Jl]) (by kernel_rfl) (by kernel_rfl) (by kernel_rfl) [(2,51,.str c.Name),(4,53,sl ac kids)] (by
    intro y hy
    rcases vaB.1 hy with rfl|hy
    ·exact⟨by simp[Jl],by kernel_rfl⟩
    ·obtain rfl:=vbg.1 hy;exact⟨by simp[Jl],by kernel_rfl⟩) hed (by rw[e1,rN];rfl))
  ·obtain rfl:bw ef 6=o:=vax ((show(bP ef)[6]? =some (bw ef 6) by kernel_rfl).symm.trans ho)
   have hop:(bw ef 6).op=.call {callee:=.builtin .len,args:=#[.tmp 49],argTypes:=#[tV]}:=by kernel_rfl
   have hv:(Act.mk a1 ds').eval (.tmp 49)=v:=aJ (h0 (gu (j:=0) (by kernel_rfl) hed))
   have hrun:(execOp (Act.mk a1 ds').eval (bw ef 6)).run Pg w1=.ok (.value (.int .i64 (s.1.length:Int))) w1:=by
    rcases hrow.form with⟨rfl,hz⟩|⟨g,cap,rfl⟩
    ·simp[execOp,hop,resolve,invoke,builtin,hv,Builtin.len_,run_underlying KQ.u,goInt,hz]
    ·simp[execOp,hop,resolve,invoke,builtin,hv,Builtin.len_,run_underlying KQ.u,goInt]
   refine cy (by kernel_rfl) hrun ⟨Γ1,.refl hmv.base,aR _ _ _,?_⟩
   rw[show(bw ef 6).dst=some 55 by kernel_rfl]
   have hs1:a1.size=65:=hP.fr.sz
   refine⟨hP.other (by kernel_rfl) (by simp[Jl]),λhx=>?_,λ_=>by show(a1.setIfInBounds 55 _)[55]? =_;simp[hs1],nJ rfl hD⟩
   show(a1.setIfInBounds 55 _)[49]? =_
   rw[vav (by decide)]
   exact h0 (hx.resolve_right (by decide))
  ·obtain rfl:bw ef 7=o:=vax ((show(bP ef)[7]? =some (bw ef 7) by kernel_rfl).symm.trans ho)
   exact Oper.wpIn_mono (λa' w' hq=>conv (dd:=56) (by decide) (by decide) rfl hq (by decide) (by decide)) (iR (Ag kids) hmv.base hP (o:=bw ef 7) (i:=7) (d:=56) (p:=.slice [z9]) (by simp[Jl]) (by kernel_rfl) (by kernel_rfl) (by kernel_rfl) [] (by simp) hed (by kernel_rfl))
 ·rintro L a1 Γ1 w1 hmv ⟨hP,h0,h6,hD⟩ hall
  have hs:(bP ef).size=12:=by kernel_rfl
  have hL:∀j,j<8->L j:=λj hj=>hall j (by omega) (by omega) (by omega) (by omega) (by omega)
  obtain⟨u,e1,e2⟩:=hP.at' (5,54,.agg (ac ⟨3,0,c.Name,kids,[],[],[]⟩)) (by simp[Jl]) (hL 5 (by decide))
  obtain⟨q,e3,e4⟩:=hP.at' (7,56,.slice [z9]) (by simp[Jl]) (hL 7 (by decide))
  exact⟨z9,u,q,h0 (hL 0 (by decide)),h6 (hL 6 (by decide)),e3,e4,by kernel_rfl,by decide,e1,e2,(hD 7 rfl).trans hraw,by rw[hP.fr.sz,hsz];rfl,hD⟩
 ·intro Γ1 w1 hmv
  exact⟨⟨hfr.mv hmv.le,λy _ h=>h.elim⟩,λh=>h.elim,λh=>h.elim,λ_ _=>rfl⟩
 ·rintro a1 Γ1 w1 v' hd hmv hrow' hh' ho' hne' hown' hsz' hD
  refine⟨rfl,hd,Γ1,v',hmv,?_,hh',ho',hne',hown',Ls (D:=dC) ((hfr.forget (tm':=Mz sp ccons d c size len i k ob nb []) (by kernel_rfl)).mv hmv.le) hsz' hD (by kernel_rfl)⟩
  rw[BK,vat];exact hrow'
end
open Go Go.RowKit
theorem Mv.putObj{Γ:aw}{w:World}{l:Nat}(hB:dO GE Γ w)(ho:ni GE Γ w l)(o:Obj):Mv GE (λb=>b=l) Γ w Γ (w.putObj l o):=
 Mv.raw hB rfl rfl rfl (by simp) (vak _) (λb _ hb=>World.putObj_heap_other hb) λb hb=>.inl (hb▸ho)
theorem ni.keep{Γ:aw}{w w':World}{b:Nat}(h:ni GE Γ w b)(hs:w.heap.size<=w'.heap.size):ni GE Γ w' b:=⟨h.1,vaE h.2.1 hs,h.2.2⟩
section
variable{Fc:Fence}[hF:OkF Fc]{sp:List PVal}{ccons:List aP}{d:aS}{c:aP}{size len i k:Int}{ob nb:Nat}{a:Array Value}{Γ Γ':aw}{w w':World}{ds:List Deferred}{nn:Nat}{s:List aa×Int}{kids:List aa}{kv v:Value}
theorem JA{name:ai}{r:Bool×(List aa×Int)}(h:H9 name s kids=some r):kids.length<=ct/\app s.1 [(⟨3,0,name,kids,[],[],[]⟩:aa)]=some r.2.1/\r.1=(!(cc (s.2+1)==2000))/\r.2.2=cc (s.2+1):=by
 unfold H9 at h
 obtain⟨ks,h1,h'⟩:=zA h
 obtain⟨o,h2,h''⟩:=zA h'
 obtain⟨h3,h4⟩:=Ih h1
 have h5:=vax h''
 rw[h4]at h2
 rw[<-h5]
 exact⟨h3,h2,rfl,rfl⟩
theorem QO(hB:dO GE Γ w)(hfr:Fr Γ w a (Mz sp ccons d c size len i k ob nb [(14,.val kv)]))(hk:fk Pg GE eV Γ w (pk ac kids) kids.length kv){r:Bool×(List aa×Int)}(hr:H9 c.Name s kids=some r)
  (hrow:fk Pg GE eV Γ w (pk ac s.1) s.1.length v) (hh:vC w ob v) (hof:ni GE Γ w ob) (hne:v.ownBlock≠some ob) (hn:vC w nb (.int .i64 s.2)) (hon:ni GE Γ w nb) (hnv:v.ownBlock≠some nb) (hon':ob≠nb):
  dB.wpIn Fc nn Pg (λe a' w'=>((e=.normal/\r.1=true)\/(e=.exit 2/\r.1=false))/\∃Γ' v',Mv GE (λb=>b=ob\/b=nb\/v.ownBlock=some b) Γ w Γ' w'/\fk Pg GE eV Γ' w' (pk ac r.2.1) r.2.1.length v'/\vC w' ob v'/\ni GE Γ' w' ob/\v'.ownBlock≠some ob/\v'.ownBlock≠some nb/\(∀b,v'.ownBlock=some b->v.ownBlock=some b\/w.heap.size<=b)/\
   vC w' nb (.int .i64 r.2.2)/\ni GE Γ' w' nb) ⟨a,ds⟩ w:=by
 obtain⟨q1,q2,q3,q4⟩:=JA hr
 rw[Se]
 refine wpIn_block (wpIn_seq (wpIn_mono (Ug hB hfr hk q1 q2 hrow hh hof hne) ?_))
 rintro e ⟨a1,ds1⟩ w1 ⟨rfl,rfl,Γ1,v1,m1,row1,hh1,of1,ne1,own1,g1⟩
 have hn1:vC w1 nb (.int .i64 s.2):=hn.mv m1 λh=>h.elim (λe=>hon' e.symm) hnv
 have on1:ni GE Γ1 w1 nb:=hon.mv m1 λh=>h.elim (λe=>hon' e.symm) hnv
 have nv1:v1.ownBlock≠some nb:=λh=>(own1 nb h).elim hnv λh=>by have:=hon.2.1;omega
 refine wpIn_seq (wpIn_region ?_)
 rw[show List.range (bP Ez).size=[0,1,2] by kernel_rfl]
 have e13:∀{a':Array Value} {tm:List PVal} {Γ:aw} {w:World},Fr Γ w a' tm->tm[13]? =some (.val (.pointer (some ⟨nb,0,none⟩)))->(Act.mk a' ds1).eval (.tmp 13)=.pointer (some ⟨nb,0,none⟩):=λh hq=>aJ (h.raw hq)
 refine bK (o:=bw Ez 0) (by kernel_rfl) (by kernel_rfl) (cy (by kernel_rfl) (v:=.int .i64 s.2) (w':=w1) (by simp[execOp,show(bw Ez 0).op=.load 3 (.tmp 13) by kernel_rfl,e13 g1 (by kernel_rfl),hn1.load (P:=Pg) (T:=3) (by kernel_rfl)]) ?_)
 rw[show(bw Ez 0).dst=some 59 by kernel_rfl]
 have g2:=g1.set (d:=59) (p:=.int .i64 s.2) (.int _ _)
 refine bK (o:=bw Ez 1) (by kernel_rfl) (by kernel_rfl) (g2.opS m1.base (d:=60) (p:=.int .i64 (cc (s.2+1))) (by kernel_rfl) (by kernel_rfl) (by kernel_rfl) (by kernel_rfl) λa3 Γ3 w3 m3 g3=>?_)
 have e60:(Act.mk a3 ds1).eval (.tmp 60)=.int .i64 (cc (s.2+1)):=by
  have:=g3.ev (t:=60) (p:=.int .i64 (cc (s.2+1))) (by kernel_rfl) ds1
  generalize (Act.mk a3 ds1).eval (.tmp 60)=q at this
  cases this;rfl
 obtain⟨w4,hrun4,m4,hn4⟩:=(hn1.mv m3 id).store (P:=Pg) (T:=3) (u:=.int .i64 (cc (s.2+1))) m3.base (by kernel_rfl) (by kernel_rfl) rfl (on1.mv m3 id)
 refine bK (o:=bw Ez 2) (by kernel_rfl) (by kernel_rfl) (jS (a:=a3) (by kernel_rfl) (w':=w4) (by simp[execOp,show(bw Ez 2).op=.store 3 (.tmp 13) (.tmp 60) by kernel_rfl,e13 g3 (by kernel_rfl),e60,hrun4]) ?_)
 rw[show(bw Ez 2).dst=none by kernel_rfl]
 show(Code.seq (.region (wh GV) (bP GV) false) (.cond (.tmp 62) (.exit 2) .skip)).wpIn Fc nn Pg _ ⟨a3,ds1⟩ w4
 have on4:ni GE Γ3 w4 nb:=(on1.mv m3 id).keep m4.size
 have g4:=g3.mv m4.le
 refine wpIn_seq (wpIn_region ?_)
 rw[show List.range (bP GV).size=[0,1] by kernel_rfl]
 refine bK (o:=bw GV 0) (by kernel_rfl) (by kernel_rfl) (cy (a:=a3) (by kernel_rfl) (v:=.int .i64 (cc (s.2+1))) (w':=w4) (by simp[execOp,show(bw GV 0).op=.load 3 (.tmp 13) by kernel_rfl,e13 g4 (by kernel_rfl),hn4.load (P:=Pg) (T:=3) (by kernel_rfl)]) ?_)
 rw[show(bw GV 0).dst=some 61 by kernel_rfl]
 have g5:=g4.set (d:=61) (p:=.int .i64 (cc (s.2+1))) (.int _ _)
 refine bK (o:=bw GV 1) (by kernel_rfl) (by kernel_rfl) (g5.opS m4.base (d:=62) (p:=.bool (cc (s.2+1)==2000)) (by kernel_rfl) (by kernel_rfl) (by kernel_rfl) (by kernel_rfl) λa6 Γ6 w6 m6 g6=>?_)
 have m36:Mv GE (λb=>b=nb) Γ1 w1 Γ6 w6:=((m3.mono (M:=λb=>b=nb) λb h=>h.elim).trans m4 λb h=>.inl h).trans m6 λb h=>h.elim
 have mAll:Mv GE (λb=>b=ob\/b=nb\/v.ownBlock=some b) Γ w Γ6 w6:=(m1.mono (M:=λb=>b=ob\/b=nb\/v.ownBlock=some b) λb h=>.inl (h.imp id .inr)).trans m36 λb h=>.inl (.inr (.inl h))
 have fin:∃Γ' v',Mv GE (λb=>b=ob\/b=nb\/v.ownBlock=some b) Γ w Γ' w6/\fk Pg GE eV Γ' w6 (pk ac r.2.1) r.2.1.length v'/\vC w6 ob v'/\ni GE Γ' w6 ob/\v'.ownBlock≠some ob/\v'.ownBlock≠some nb/\(∀b,v'.ownBlock=some b->v.ownBlock=some b\/w.heap.size<=b)/\
   vC w6 nb (.int .i64 r.2.2)/\ni GE Γ' w6 nb:=by
  refine⟨Γ6,v1,mAll,row1.mv m36 λb hb hM=>?_,hh1.mv m36 hon',of1.mv m36 hon',ne1,nv1,own1,?_,on4.mv m6 id⟩
  ·have hM:b=nb:=hM
   exact nv1 (hM▸hb)
  ·rw[q4];exact hn4.mv m6 id
 refine wpIn_cond (g6.evb (t:=62) (x:=cc (s.2+1)==2000) (by kernel_rfl) ds1) ?_
 cases hc:(cc (s.2+1)==2000)with
 |true=>
  refine wpIn_exit ⟨.inr ⟨rfl,by rw[q3,hc];rfl⟩,fin⟩
 |false=>
  exact wpIn_skip ⟨.inl ⟨rfl,by rw[q3,hc];rfl⟩,fin⟩
end
abbrev mj(fn:FuncId)(a:Array Value)(D:Nat)(b:Bool):Loop:={state:=if b then .ready else .done,pending:=if b then none else some (.exit 2),fn:=fn,tmps:=a,params:=#[48],assign:=Oq MP,body:=dB,defers:=D}
section
variable{sp:List PVal}{ccons:List aP}{d:aS}{c:aP}{size len i k:Int}{ob nb l D:Nat}{a:Array Value}{fn:FuncId}
def FC(ob nb l D:Nat)(v:Value):Nat->Prop:=λb=>b=ob\/b=nb\/b=l\/b=D\/v.ownBlock=some b
structure JC(sp:List PVal)(ccons:List aP)(d:aS)(c:aP)(size len i k:Int)(ob nb l D:Nat)(a:Array Value)(fn:FuncId)(F:Nat->Prop)(b:Bool)(s:List aa×Int)(Γ:aw)(w:World):Prop where
 base:dO GE Γ w
 fr:Fr Γ w a (Mz sp ccons d c size len i k ob nb [])
 ex:∃v,F=FC ob nb l D v/\vC w ob v/\fk Pg GE eV Γ w (pk ac s.1) s.1.length v/\v.ownBlock≠some ob/\v.ownBlock≠some nb/\v.ownBlock≠some l/\v.ownBlock≠some D
 oo:ni GE Γ w ob
 on:ni GE Γ w nb
 ol:ni GE Γ w l
 oD:ni GE Γ w D
 hn:vC w nb (.int .i64 s.2)
 rl:w.heap[l]? =some (.loop (mj fn a D b))
 rD:w.heap[D]? =some (.deferred (some []))
 ds:ob≠nb/\ob≠l/\ob≠D/\nb≠l/\nb≠D/\l≠D
theorem RJ:Yv 0 l (H9 c.Name) (JC sp ccons d c size len i k ob nb l D a fn) where
 base:=λh=>h.base
 low:=λ{F b s Γ w} h x hx=>by
  obtain⟨v,rfl,_,hr,_⟩:=h.ex
  rcases hx with rfl|rfl|rfl|rfl|hx
  ·exact h.oo.2.1
  ·exact h.on.2.1
  ·exact h.ol.2.1
  ·exact h.oD.2.1
  ·exact(hr.off _ hx).2.1
 side:=λ{F b s Γ w M Γ' w'} h hm hM=>by
  obtain⟨v,rfl,h1,h2,h3⟩:=h.ex
  have nM:∀x,FC ob nb l D v x->¬M x:=λx hx hx'=>hM x hx' hx
  exact{
   base:=hm.base
   fr:=h.fr.mv hm.le
   ex:=⟨v,rfl,h1.mv hm (nM _ (.inl rfl)),h2.mv hm λx hx=>nM x (.inr (.inr (.inr (.inr hx)))),h3⟩
   oo:=h.oo.mv hm (nM _ (.inl rfl))
   on:=h.on.mv hm (nM _ (.inr (.inl rfl)))
   ol:=h.ol.mv hm (nM _ (.inr (.inr (.inl rfl))))
   oD:=h.oD.mv hm (nM _ (.inr (.inr (.inr (.inl rfl)))))
   hn:=h.hn.mv hm (nM _ (.inr (.inl rfl)))
   rl:=(hm.keep h.ol.2.1 (nM _ (.inr (.inr (.inl rfl))))).trans h.rl
   rD:=(hm.keep h.oD.2.1 (nM _ (.inr (.inr (.inr (.inl rfl)))))).trans h.rD
   ds:=h.ds}
 yield:=λ{F s Γ w kids kv r} n h hk hkF hr=>by
  obtain⟨v,rfl,h1,h2,h3,h4,h5,h6⟩:=h.ex
  obtain⟨d1,d2,d3,d4,d5,d6⟩:=h.ds
  refine⟨_,_,_,_,run_yield h.rl rfl,?_⟩
  have hz:(((#[48]:Array Tmp).zip #[kv]).foldl (λtmps (t,a)=>tmps.setIfInBounds t a) a)=a.setIfInBounds 48 kv:=by simp
  show RoundIn Fence.wide n Pg l fn (((#[48]:Array Tmp).zip #[kv]).foldl (λtmps (t,a)=>tmps.setIfInBounds t a) a) (Oq MP) dB w _
  rw[hz]
  have g0:=h.fr.set (d:=48) (p:=.val kv) (.val kv)
  refine roundIn_of_wpIn vzz ?_
  rw[Rb]
  refine wpIn_region ?_
  rw[show List.range (bP (Oq MP)).size=[0] by kernel_rfl]
  refine bK (o:=bw (Oq MP) 0) (by kernel_rfl) (by kernel_rfl) (g0.opS h.base (d:=14) (p:=.val kv) (by kernel_rfl) (by kernel_rfl) (by kernel_rfl) (by kernel_rfl) λa1 Γ1 w1 m1 g1=>?_)
  have hl1:w1.heap[l]? =some (.loop (mj fn a D true)):=(m1.keep h.ol.2.1 id).trans h.rl
  refine⟨_,run_beginRound hl1 rfl,?_⟩
  have m2:=Mv.putObj m1.base (h.ol.mv m1 id) (.loop {mj fn a D true with state:=.busy})
  have hl2:(w1.putObj l (.loop {mj fn a D true with state:=.busy})).heap[l]? =some (.loop {mj fn a D true with state:=.busy}):=World.putObj_heap_same (nW hl1)
  have ol2:ni GE Γ1 (w1.putObj l (.loop {mj fn a D true with state:=.busy})) l:=(h.ol.mv m1 id).keep m2.size
  generalize w1.putObj l (.loop {mj fn a D true with state:=.busy})=w2 at m2 hl2 ol2
  have m12:Mv GE (λb=>b=l) Γ w Γ1 w2:=(m1.mono (M:=λb=>b=l) λb h=>h.elim).trans m2 λb h=>.inl h
  have g2:=(g1.mv m2.le).forget (tm':=Mz sp ccons d c size len i k ob nb [(14,.val kv)]) (by kernel_rfl)
  have kl:∀b,kv.ownBlock=some b->¬b=l:=λb hb e=>(hkF b hb).1 (.inr (.inr (.inl e)))
  refine wpIn_mono (QO (ds:=[]) m2.base g2 (hk.mv m12 λb hb=>kl b hb) hr (h2.mv m12 λb hb e=>h5 (by have e:b=l:=e;rw[<-e];exact hb)) (h1.mv m12 d2) (h.oo.mv m12 d2) h3 (h.hn.mv m12 d4) (h.on.mv m12 d4) h4 d1) ?_
  rintro e ⟨a3,ds3⟩ w3 ⟨he,Γ3,v3,m3,row3,hh3,of3,ne3,nn3,own3,hn3,on3⟩
  have hlM:¬(l=ob\/l=nb\/v.ownBlock=some l):=λh=>h.elim (λe=>d2 e.symm) λh=>h.elim (λe=>d4 e.symm) h5
  have hl3:=(m3.keep ol2.2.1 hlM).trans hl2
  have ol3:=ol2.mv m3 hlM
  have hDM:¬(D=ob\/D=nb\/v.ownBlock=some D):=λh=>h.elim (λe=>d3 e.symm) λh=>h.elim (λe=>d5 e.symm) h6
  have oD2:=h.oD.mv m12 λe=>d6 e.symm
  have rD2:=(m12.keep h.oD.2.1 λe=>d6 e.symm).trans h.rD
  have oD3:=oD2.mv m3 hDM
  have rD3:=(m3.keep oD2.2.1 hDM).trans rD2
  have vl3:v3.ownBlock≠some l:=λhx=>(own3 l hx).elim h5 λhx=>by have:=ol2.2.1;omega
  have vD3:v3.ownBlock≠some D:=λhx=>(own3 D hx).elim h6 λhx=>by have:=oD2.2.1;omega
  have fin:∀b:Bool,∃Γ' F',Mv GE (FC ob nb l D v) Γ w Γ' (w3.putObj l (.loop (mj fn a D b)))/\(∀b,F' b->FC ob nb l D v b\/w.heap.size<=b)/\JC sp ccons d c size len i k ob nb l D a fn F' b r.2 Γ' (w3.putObj l (.loop (mj fn a D b))):=λb=>by
   have m4:=Mv.putObj m3.base ol3 (.loop (mj fn a D b))
   have hl4:(w3.putObj l (.loop (mj fn a D b))).heap[l]? =some (.loop (mj fn a D b)):=World.putObj_heap_same (nW hl3)
   have mAll:Mv GE (FC ob nb l D v) Γ w Γ3 (w3.putObj l (.loop (mj fn a D b))):=((m12.mono (M:=FC ob nb l D v) λb h=>.inl (.inr (.inr (.inl h)))).trans m3 λb h=>.inl (h.elim .inl λh=>h.elim (λh=>.inr (.inl h)) λh=>.inr (.inr (.inr (.inr h))))).trans m4 λb h=>.inl (.inr (.inr (.inl h)))
   refine⟨Γ3,FC ob nb l D v3,mAll,λx hx=>?_,{
    base:=m4.base
    fr:=h.fr.mv mAll.le
    ex:=⟨v3,rfl,hh3.mv m4 d2,row3.mv m4 λx hx e=>vl3 (by have e:x=l:=e;rw[<-e];exact hx),ne3,nn3,vl3,vD3⟩
    oo:=of3.mv m4 d2
    on:=on3.mv m4 d4
    ol:=ol3.keep m4.size
    oD:=oD3.mv m4 λe=>d6 e.symm
    hn:=hn3.mv m4 d4
    rl:=hl4
    rD:=(m4.keep oD3.2.1 λe=>d6 e.symm).trans rD3
    ds:=h.ds}⟩
   rcases hx with hx|hx|hx|hx|hx
   ·exact .inl (.inl hx)
   ·exact .inl (.inr (.inl hx))
   ·exact .inl (.inr (.inr (.inl hx)))
   ·exact .inl (.inr (.inr (.inr (.inl hx))))
   ·exact(own3 x hx).imp (λh=>.inr (.inr (.inr (.inr h)))) λhx=>vaw m12.size hx
  rcases he with⟨rfl,hb⟩|⟨rfl,hb⟩
  ·obtain⟨Γ',F',q1,q2,q3⟩:=fin true
   refine⟨_,_,run_endRound none hl3,Γ',F',by rw[hb];rfl,q1,q2,?_⟩
   rw[hb];exact q3
  ·obtain⟨Γ',F',q1,q2,q3⟩:=fin false
   refine⟨_,_,run_endRound (some (.exit 2)) hl3,Γ',F',by rw[hb];rfl,q1,q2,?_⟩
   rw[hb];exact q3
end
abbrev Wp:Nat:=123
noncomputable def Wh:Code:=f123.body.getD .skip
abbrev QW(m:aB)(mb:Nat)(l:List ae)(size:Int):PVal:=.func (.func Th) [] [.eptr (pE m mb),.eptr [sl af l],.eptr [.int .i64 size]]
theorem Nf(m:aB)(mb:Nat)(l:List ae)(size:Int):(QW m mb l size).cl 0:=⟨vzz,pW m mb,⟨bq dw l,vzz⟩,⟨vzz,vzz⟩,vzz⟩
theorem NF(m:aB)(mb:Nat)(l:List ae)(size:Int):CC Pg GE Wp [.agg (pE m mb),sl af l,.int .i64 size] (QW m mb l size) []:=by
 have z:=se (rfl:bu (.agg (pE m mb))=some (pE m mb))<|se (rfl:bu (sl af l)=some [sl af l])<|se (rfl:bu (.int .i64 size)=some [.int .i64 size])<|en (aI (rP (QW m mb l size)) (Nf m mb l size))
 have hc:dR 0 [.agg (pE m mb),sl af l,.int .i64 size]:=⟨pW m mb,bq dw l,vzz,vzz⟩
 exact C.evp (A:=[]) mixed call123 func123 (c:=Wh) rfl hc z (by kernel_rfl)
abbrev Vk:Code:=aW P9 [false]
abbrev RB:Code:=aW P9 [true,false]
abbrev T3:Code:=aW P9 [true,true,false,false]
abbrev Vl:Code:=aW Rz [false]
abbrev T4:Code:=aW QH [false]
abbrev RA:Code:=aW QH [true,false]
abbrev O6:Code:=aW cT [false]
abbrev T5:Code:=aW cT [true,false]
abbrev R0:Code:=aW Rz [true,true,true]
abbrev CA:Code:=aW P9 [true,true,true,false]
theorem QA:P9=.seq Vk (.seq (.region (wh RB) (bP RB) false) (.seq (.seq T3 (.block 0 (.loop Rz))) (.seq (.region (wh CA) (bP CA) false) .ret))):=by kernel_rfl
theorem QJ:Rz=.seq Vl (.seq (.cond (.tmp 19) .skip (.exit 0)) (.seq (.block 1 QH) R0)):=by kernel_rfl
theorem QI:QH=.seq T4 (.seq RA (.seq (.region (wh O6) (bP O6) false) (.seq T5 (.block 2 (.rangeFunc (.tmp 47) #[48] (Oq MP) dB))))):=by kernel_rfl
abbrev AH(m:aB)(mb:Nat)(d:aS)(size j:Int)(ob:Nat)(L:List (Nat×PVal)):List PVal:=
 (bT 65 ([(2,.int .i64 size),(3,.eptr (pE m mb)),(4,.eptr (aC d)),(7,.val (.pointer (some ⟨ob,0,none⟩)))]++L++[(16,sl aT d.Cons),(17,.int .i64 (d.Cons.length:Int)),(18,.int .i64 j)]) [] []).tmps
theorem GS(m:aB)(mb:Nat)(d:aS)(size j:Int)(ob:Nat):dR 0 (AH m mb d size j ob []):=pb ⟨vzz,pW m mb,(show dR 0 (aC d)from gF d),vzz,bq lu d.Cons,vzz,vzz,vzz⟩
section
variable(m:aB)(mb:Nat)(d:aS)(c:aP)(size j:Int)(ob nb:Nat)
theorem Wi:cN Pg GE 0 Vk (EX .normal (bT 65 [(2,.int .i64 size),(3,.eptr (pE m mb)),(4,.eptr (aC d))] [.dead,.dead] [])) (bT 65 [(0,.agg (pE m mb)),(1,.agg (aC d)),(2,.int .i64 size)] [] []):=by
 have z:=se (rfl:bu (.agg (pE m mb))=some (pE m mb))<|se (rfl:bu (.agg (aC d))=some (aC d))<|eF .normal (bT 65 [(2,.int .i64 size),(3,.eptr (pE m mb)),(4,.eptr (aC d))] [.dead,.dead] [])
 exact cJ (A:=[]) mixed z (by kernel_rfl)
theorem Wj:cN Pg GE 0 T3 (EX .normal ⟨AH m mb d size 0 ob [],[],[]⟩) (bT 65 [(2,.int .i64 size),(3,.eptr (pE m mb)),(4,.eptr (aC d)),(7,.val (.pointer (some ⟨ob,0,none⟩)))] [] []):=by
 have z:=sv (EJ d)<|sv (ER d)<|Tn (MD.ln d.Cons)<|eF .normal ⟨AH m mb d size 0 ob [],[],[]⟩
 exact cJ (A:=[]) mixed z (by kernel_rfl)
theorem Wk:cN Pg GE 0 Vl (EX .normal ⟨(AH m mb d size j ob []).set 19 (.bool (decide (j<(d.Cons.length:Int)))),[],[]⟩) ⟨AH m mb d size j ob [],[],[]⟩:=by
 have z:=eF .normal ⟨(AH m mb d size j ob []).set 19 (.bool (decide (j<(d.Cons.length:Int)))),[],[]⟩
 exact cJ (A:=[]) mixed z (by kernel_rfl)
theorem Wl(hc:ed d.Cons j=some c):cN Pg GE 0 T4 (EX .normal ⟨AH m mb d size j ob [(8,.int .i64 j),(9,.eptr (aT c))],[.dead],[]⟩) ⟨AH m mb d size j ob [],[],[]⟩:=by
 have z:=sv (MD.ia (k:=.i64) hc)<|sv (K9 c)<|sx SE<|sx (IS c)<|eF .normal ⟨AH m mb d size j ob [(8,.int .i64 j),(9,.bptr 0 0)],[.cells [.str c.Name,sl cS c.Names,sl af c.Fields] []],[]⟩
 have h1:cN Pg GE 0 T4 (EX .normal ⟨AH m mb d size j ob [(8,.int .i64 j),(9,.bptr 0 0)],[.cells [.str c.Name,sl cS c.Names,sl af c.Fields] []],[]⟩) ⟨AH m mb d size j ob [],[],[]⟩:=cJ (A:=[]) mixed z (by kernel_rfl)
 have z2:=UK 0 [[.str c.Name,sl cS c.Names,sl af c.Fields]] [2,3,4,7,8,9,16,17,18] [] (Uj (m:=0) (b:=0) rfl [.str c.Name,sl cS c.Names,sl af c.Fields] rfl) (Uk 0 (l:=[.str c.Name,sl cS c.Names,sl af c.Fields]) (lu c)) (Ul (l:=[.str c.Name,sl cS c.Names,sl af c.Fields]) (r:=[.str c.Name,sl cS c.Names,sl af c.Fields]) rfl)<|sf (J7 0 (p:=pE m mb) (pW m mb))<|sf (J7 0 (p:=aC d) (gF d))<|sf (Ti 0 (p:=sl aT d.Cons) (bq lu d.Cons))<|en (fr ⟨AH m mb d size j ob [(8,.int .i64 j),(9,.eptr (aT c))],[.dead],[]⟩)
 exact h1.thenW (Um z2 (by kernel_rfl))
abbrev JD(m:aB)(mb:Nat)(d:aS)(c:aP)(size j:Int)(ob:Nat):List PVal:=AH m mb d size j ob [(8,.int .i64 j),(9,.eptr (aT c))]
theorem G2:aE Pg 135 (.eptr (pE m mb)) 0=some (.eptr ((pE m mb).drop 0)):=by kernel_rfl
theorem Hg:aO Pg 29 ((pE m mb).drop 0)=some (.agg (aX m)):=by kernel_rfl
theorem NH:aO Pg 135 (pE m mb)=some (.agg (pE m mb)):=by kernel_rfl
theorem T7{r:aS×Int×Bool}(h:jJ m c.Name=some r)(c1:(!(r.1.Name==d.Name))=true):cN Pg GE 0 RA (EX (.exit 1) ⟨AH m mb d size j ob [],[.dead],[]⟩) ⟨JD m mb d c size j ob,[],[]⟩:=by
 have z:=sv (G2 m mb)<|sv (Hg m mb)<|sv (mU c)<|sv (px c)<|Rg (jw r h)<|sx E2<|sx (gY r.1)<|ss<|sv (pX d)<|sv (ry d)<|sg 6 c1<|sk<|eF (.exit 1) ⟨AH m mb d size j ob [],[.dead],[]⟩
 exact cJ (A:=[]) mixed z (by kernel_rfl)
theorem T8{r:aS×Int×Bool}(h:jJ m c.Name=some r)(c1:(!(r.1.Name==d.Name))=false)(c2:(!(r.2.1==j))=true):cN Pg GE 0 RA (EX (.exit 1) ⟨AH m mb d size j ob [],[.dead],[]⟩) ⟨JD m mb d c size j ob,[],[]⟩:=by
 have z:=sv (G2 m mb)<|sv (Hg m mb)<|sv (mU c)<|sv (px c)<|Rg (jw r h)<|sx E2<|sx (gY r.1)<|ss<|sv (pX d)<|sv (ry d)<|sg 6 c1<|sg 0 c2<|eF (.exit 1) ⟨AH m mb d size j ob [],[.dead],[]⟩
 exact cJ (A:=[]) mixed z (by kernel_rfl)
theorem T9{r:aS×Int×Bool}(h:jJ m c.Name=some r)(c1:(!(r.1.Name==d.Name))=false)(c2:(!(r.2.1==j))=false):cN Pg GE 0 RA (EX .normal ⟨JD m mb d c size j ob,[.dead],[]⟩) ⟨JD m mb d c size j ob,[],[]⟩:=by
 have z:=sv (G2 m mb)<|sv (Hg m mb)<|sv (mU c)<|sv (px c)<|Rg (jw r h)<|sx E2<|sx (gY r.1)<|ss<|sv (pX d)<|sv (ry d)<|sg 6 c1<|sg 0 c2<|eF .normal ⟨JD m mb d c size j ob,[.dead],[]⟩
 exact cJ (A:=[]) mixed z (by kernel_rfl)
abbrev Kn(m:aB)(mb:Nat)(d:aS)(c:aP)(size j:Int)(ob nb:Nat):List PVal:=Mz (pE m mb) d.Cons d c size (d.Cons.length:Int) j j ob nb []
theorem Wm:cN Pg GE 0 T5 (EX .normal ⟨(Kn m mb d c size j ob nb).set 47 (QW m mb c.Fields (cc (size - 1))),[],[]⟩) ⟨Kn m mb d c size j ob nb,[],[]⟩:=by
 have z:=sv (NH m mb)<|sv (G3 c)<|sv (Hh c)<|Rg (NF m mb c.Fields (cc (size - 1)))<|eF .normal ⟨(Kn m mb d c size j ob nb).set 47 (QW m mb c.Fields (cc (size - 1))),[],[]⟩
 exact cJ (A:=[]) mixed z (by kernel_rfl)
theorem T6:cN Pg GE 0 R0 (EX .normal ⟨AH m mb d size (cc (j+1)) ob [],[],[]⟩) ⟨AH m mb d size j ob [],[],[]⟩:=by
 have z:=eF .normal ⟨AH m mb d size (cc (j+1)) ob [],[],[]⟩
 exact cJ (A:=[]) mixed z (by kernel_rfl)
theorem Pa:dR 0 ((Kn m mb d c size j ob nb).set 47 (QW m mb c.Fields (cc (size - 1)))):=by
 have h1:dR 0 (Kn m mb d c size j ob nb):=pb ⟨vzz,pW m mb,(show dR 0 (aC d)from gF d),vzz,vzz,(show dR 0 (aT c)from lu c),vzz,bq lu d.Cons,vzz,vzz,vzz⟩
 exact GQ λp hp=>by
  rcases vcj hp with hp|rfl
  ·obtain⟨i,hi⟩:=vbG hp
   exact gr h1 hi
  ·exact Nf m mb c.Fields _
theorem Qc:dR 0 (JD m mb d c size j ob):=pb ⟨vzz,pW m mb,(show dR 0 (aC d)from gF d),vzz,vzz,(show dR 0 (aT c)from lu c),bq lu d.Cons,vzz,vzz,vzz⟩
end
section
variable(R:ae->Int->fe->Option (List aa×fe))(m:aB)(d:aS)(size:Int)
abbrev Sf(size:Int)(c:aP):Bool:=decide (-Hj<=cc (size - 1))&&decide (cc (size - 1)<=Hj)&&decide ((c.Fields.length:Int)<=Hj)
def OB(j:Nat)(c:aP)(o:List aa×fe):Option (List aa×fe):=
 (jJ m c.Name).bind λr=>if(!(r.1.Name==d.Name))=true then some o else if(!(r.2.1==(j:Int)))=true then some o else
  if Sf size c=true then(Fe R (H9 c.Name) c.Fields (cc (size - 1)) [] ((o.1,0),o.2)).bind λq=>some (q.2.1.1,q.2.2)else none
def Ij:Nat->List aP->List aa×fe->Option (List aa×fe)
 |_,[],o=>some o
 |j,c::cs,o=>(OB R m d size j c o).bind λo=>Ij (j+1) cs o
def Pm(K:fe):Option (List aa×fe):=if d.Cons.length<4611686018427387904 then Ij R m d size 0 d.Cons ([],K)else none
end
abbrev ET(Ds:List Nat):List Deferred:=Ds.map λD=>{target:=.collected D,args:=#[]}
structure CI(lo mb ob:Nat)(o:List aa×fe)(v:Value)(Ds:List Nat)(Γ:aw)(w:World):Prop where
 k:KM mb o.2 Γ w
 hd:vC w ob v
 ho:ni GE Γ w ob
 row:fk Pg GE eV Γ w (pk ac o.1) o.1.length v
 vo:∀b,v.ownBlock=some b->lo<=b/\b≠ob/\b∉Ds
 lb:lo<=ob
 mlo:mb<lo
 ds:∀D∈Ds,lo<=D/\D≠ob/\ni GE Γ w D/\w.heap[D]? =some (.deferred (some []))
 nd:Ds.Nodup
section
variable{lo mb ob:Nat}{o:List aa×fe}{v:Value}{Ds:List Nat}{Γ Γ':aw}{w w':World}{M:Nat->Prop}
theorem CI.mv(h:CI lo mb ob o v Ds Γ w)(hm:Mv GE M Γ w Γ' w')(hM:∀b,M b->b≠mb/\b≠ob/\v.ownBlock≠some b/\b∉Ds):CI lo mb ob o v Ds Γ' w' where
 k:=h.k.mv hm λhb=>(hM _ hb).1 rfl
 hd:=h.hd.mv hm λhb=>(hM _ hb).2.1 rfl
 ho:=h.ho.mv hm λhb=>(hM _ hb).2.1 rfl
 row:=h.row.mv hm λb hb hM'=>(hM b hM').2.2.1 hb
 vo:=h.vo
 lb:=h.lb
 mlo:=h.mlo
 ds:=λD hD=>⟨(h.ds D hD).1,(h.ds D hD).2.1,(h.ds D hD).2.2.1.mv hm λhb=>(hM _ hb).2.2.2 hD,(hm.keep (h.ds D hD).2.2.1.2.1 λhb=>(hM _ hb).2.2.2 hD).trans (h.ds D hD).2.2.2⟩
 nd:=h.nd
theorem CI.mv0(h:CI lo mb ob o v Ds Γ w)(hm:Mv GE no Γ w Γ' w'):CI lo mb ob o v Ds Γ' w':=h.mv hm λb h=>h.elim
end
abbrev KL(m:aB)(mb:Nat)(d:aS)(size:Int)(j:Nat)(ob lo:Nat)(o:List aa×fe)(Γ:aw)(w:World)(e:Exit)(a':Act)(w':World):Prop:=
 ∃Γ' v' Ds',Mv GE (λb=>b=mb\/lo<=b) Γ w Γ' w'/\CI lo mb ob o v' Ds' Γ' w'/\a'.defers=ET Ds'/\Fr Γ' w' a'.tmps (AH m mb d size j ob [])
section
variable{lo mb ob:Nat}{o o':List aa×fe}{v:Value}{Ds:List Nat}{Γ Γ':aw}{w w':World}{m:aB}{d:aS}{c:aP}{size:Int}{j nn:Nat}{a:Array Value}{R:ae->Int->fe->Option (List aa×fe)}
theorem RR{α:Type}{cs:Array α}(h:cs.size=3):∃a b c,cs=#[a,b,c]:=by
 match cs,h with
 |⟨[a,b,c]⟩,_=>exact⟨a,b,c,rfl⟩
theorem O7(hR:M2 m R)(hlong:∀t n K r,R t n K=some r->r.1.length<4611686018427387904)(hc:ed d.Cons (j:Int)=some c)(h:OB R m d size j c o=some o')(hB:dO GE Γ w)(hI:CI lo mb ob o v Ds Γ w)(g:Fr Γ w a (AH m mb d size j ob [])):(Code.block 1 QH).wpIn Fence.wide nn Pg (λe a' w'=>e=.normal/\KL m mb d size j ob lo o' Γ w e a' w') ⟨a,ET Ds⟩ w:=by
 have key:QH.wpIn Fence.wide nn Pg (λe a' w'=>(e=.normal\/e=.exit 1)/\KL m mb d size j ob lo o' Γ w e a' w') ⟨a,ET Ds⟩ w:=by
  unfold OB at h
  obtain⟨r,hr,h⟩:=zA h
  rw[QI]
  refine wpIn_seq (wpIn_mono (g.piece0 (k:=0) (Wl m mb d c size j ob hc) hB (Qc m mb d c size j ob) (ET Ds)) ?_)
  rintro e ⟨a1,ds1⟩ w1 ⟨rfl,rfl,Γ1,m1,g1⟩
  have hI1:=hI.mv0 m1
  have skip:∀{c0:Code},cN Pg GE 0 RA (EX (.exit 1) ⟨AH m mb d size j ob [],[.dead],[]⟩) ⟨JD m mb d c size j ob,[],[]⟩->o'=o->(Code.seq RA c0).wpIn Fence.wide nn Pg (λe a' w'=>(e=.normal\/e=.exit 1)/\KL m mb d size j ob lo o' Γ w e a' w') ⟨a1,ET Ds⟩ w1:=λhS ho=>by
   subst ho
   refine wpIn_seq (wpIn_mono (g1.piece0 (k:=0) hS m1.base (GS m mb d size j ob) (ET Ds)) ?_)
   rintro e ⟨a2,ds2⟩ w2 ⟨rfl,rfl,Γ2,m2,g2⟩
   exact⟨.inr rfl,Γ2,v,Ds,(m1.trans m2 λb h=>.inl h).mono λb h=>h.elim,hI1.mv0 m2,rfl,g2⟩
  rcases Nu h with⟨c1,h⟩|⟨c1,h⟩
  ·exact skip (T7 m mb d c size j ob hr c1) (vax h).symm
  rcases Nu h with⟨c2,h⟩|⟨c2,h⟩
  ·exact skip (T8 m mb d c size j ob hr c1 c2) (vax h).symm
  rcases Nu h with⟨c3,h⟩|⟨c3,h⟩
  rotate_left
  ·cases h
  obtain⟨q,hq,h⟩:=zA h
  obtain rfl:=vax h
  simp only[Sf,vae,vam]at c3
  refine wpIn_seq (wpIn_mono (g1.piece0 (k:=0) (T9 m mb d c size j ob hr c1 c2) m1.base (Qc m mb d c size j ob) (ET Ds)) ?_)
  rintro e ⟨a2,ds2⟩ w2 ⟨rfl,rfl,Γ2,m2,g2⟩
  have m02:Mv GE no Γ w Γ2 w2:=m1.trans m2 λb h=>.inl h
  have hI2:=hI1.mv0 m2
  have zi:(zeroValue 3).run Pg w2=.ok (.int .i64 0) w2:=Tryz.zeroValue3 w2
  refine wpIn_seq (wpIn_region ?_)
  rw[show List.range (bP O6).size=[0,1] by kernel_rfl]
  refine bG (o:=bw O6 0) (by kernel_rfl) (by kernel_rfl) (cy (by kernel_rfl) (by simp only[execOp,show(bw O6 0).op=.alloc 3 by kernel_rfl,Sem.run_bind,vw zi];rfl) ?_)
  rw[show(bw O6 0).dst=some 13 by kernel_rfl]
  have m3:Mv GE no Γ2 w2 Γ2 (w2.alloc (.cells #[.int .i64 0] 3)):=.alloc m2.base _
  have hn3:vC (w2.alloc (.cells #[.int .i64 0] 3)) w2.heap.size (.int .i64 0):=.new _ _ w2
  have on3:ni GE Γ2 (w2.alloc (.cells #[.int .i64 0] 3)) w2.heap.size:=.new m2.base _
  have g3:=(g2.mv m3.le).set (d:=13) (p:=.val (.pointer (some ⟨w2.heap.size,0,none⟩))) (.val _)
  have sz3:(w2.alloc (.cells #[.int .i64 0] 3)).heap.size=w2.heap.size+1:=World.size_alloc _ _
  show wpOpsIn Fence.wide nn Pg _ _ _ ⟨a2.setIfInBounds 13 (.pointer (some ⟨w2.heap.size,0,none⟩)),ET Ds⟩ (w2.alloc (.cells #[.int .i64 0] 3))
  generalize w2.alloc (.cells #[.int .i64 0] 3)=w3 at m3 hn3 on3 g3 sz3
  generalize a2.setIfInBounds 13 (.pointer (some ⟨w2.heap.size,0,none⟩))=a3 at g3
  generalize hnb:w2.heap.size=nb at hn3 on3 g3 sz3
  have e13:(Act.mk a3 (ET Ds)).eval (.tmp 13)=.pointer (some ⟨nb,0,none⟩):=aJ (g3.raw (by kernel_rfl))
  obtain⟨w4,hrun4,m4,hn4⟩:=hn3.store (P:=Pg) (T:=3) (u:=.int .i64 0) m3.base (by kernel_rfl) (by kernel_rfl) rfl on3
  have ec:(Act.mk a3 (ET Ds)).eval (.const (.int .i64 0))=.int .i64 0:=rfl
  refine bG (o:=bw O6 1) (by kernel_rfl) (by kernel_rfl) (jS (a:=a3) (by kernel_rfl) (w':=w4) (by simp[execOp,show(bw O6 1).op=.store 3 (.tmp 13) (.const (.int .i64 0)) by kernel_rfl,e13,ec,hrun4]) ?_)
  rw[show(bw O6 1).dst=none by kernel_rfl]
  show(Code.seq T5 (.block 2 (.rangeFunc (.tmp 47) #[48] (Oq MP) dB))).wpIn Fence.wide nn Pg _ ⟨a3,ET Ds⟩ w4
  have on4:ni GE Γ2 w4 nb:=on3.keep m4.size
  have nM:∀b,b=nb->b≠mb/\b≠ob/\v.ownBlock≠some b/\b∉Ds:=λb hb=>by
   subst hb
   refine⟨λe=>?_,λe=>?_,λe=>?_,λe=>?_⟩
   ·have:=hI2.k.off.2.1;omega
   ·have:=hI2.ho.2.1;omega
   ·have:=(hI2.row.off _ e).2.1;omega
   ·have:=(hI2.ds _ e).2.2.1.2.1;omega
  have hI4:=(hI2.mv0 m3).mv m4 nM
  have m24:Mv GE no Γ2 w2 Γ2 w4:=m3.trans m4 λb h=>by
   have h:b=nb:=h
   exact .inr (by omega)
  have g4:Fr Γ2 w4 a3 (Kn m mb d c size j ob nb):=(g3.mv m4.le).forget (by kernel_rfl)
  refine wpIn_seq (wpIn_mono (g4.piece0 (k:=0) (Wm m mb d c size j ob nb) m4.base (Pa m mb d c size j ob nb) (ET Ds)) ?_)
  rintro e ⟨a5,ds5⟩ w5 ⟨rfl,rfl,Γ5,m5,g5⟩
  have hI5:=hI4.mv0 m5
  have hn5:=hn4.mv m5 id
  have on5:=on4.mv m5 id
  have m05:Mv GE no Γ w Γ5 w5:=(m02.trans m24 λb h=>.inl h).trans m5 λb h=>.inl h
  have hlo:lo<=w.heap.size:=by have:=hI.lb;have:=hI.ho.2.1;omega
  obtain⟨f1,e47,v47⟩:=g5.get (t:=47) (p:=QW m mb c.Fields (cc (size - 1))) (by kernel_rfl)
  have e47':(Act.mk a5 (ET Ds)).eval (.tmp 47)=f1:=aJ e47
  cases v47 with
  |func _ _ _ fs cs hl1 hl2 hf hcp=>
  obtain rfl:fs=#[]:=va0 hl1
  obtain⟨k1,k2,k3,rfl⟩:=RR hl2
  have v1:VR Γ5 [] w5 (.eptr (pE m mb)) k1:=hcp 0 _ _ rfl rfl
  have v2:VR Γ5 [] w5 (.eptr [sl af c.Fields]) k2:=hcp 1 _ _ rfl rfl
  have v3:VR Γ5 [] w5 (.eptr [.int .i64 (cc (size - 1))]) k3:=hcp 2 _ _ rfl rfl
  refine wpIn_block (wpIn_rangeFunc λfn _=>?_)
  have mA1:Mv GE no Γ5 w5 Γ5 (w5.alloc (.deferred (some []))):=.alloc m5.base _
  have mA2:Mv GE no Γ5 (w5.alloc (.deferred (some []))) Γ5 ((w5.alloc (.deferred (some []))).alloc (.loop (mj fn a5 w5.heap.size true))):=.alloc mA1.base _
  have oD1:ni GE Γ5 (w5.alloc (.deferred (some []))) w5.heap.size:=.new m5.base _
  have ol2:ni GE Γ5 ((w5.alloc (.deferred (some []))).alloc (.loop (mj fn a5 w5.heap.size true))) (w5.heap.size+1):=by
   have:=ni.new mA1.base (.loop (mj fn a5 w5.heap.size true))
   rwa[World.size_alloc]at this
  have rl2:((w5.alloc (.deferred (some []))).alloc (.loop (mj fn a5 w5.heap.size true))).heap[w5.heap.size+1]? =some (.loop (mj fn a5 w5.heap.size true)):=by
   have:=World.alloc_heap_new (w5.alloc (.deferred (some []))) (.loop (mj fn a5 w5.heap.size true))
   rwa[World.size_alloc]at this
  have rD2:((w5.alloc (.deferred (some []))).alloc (.loop (mj fn a5 w5.heap.size true))).heap[w5.heap.size]? =some (.deferred (some [])):=by
   rw[dI _ _ (by rw[World.size_alloc];omega)]
   exact World.alloc_heap_new w5 _
  have mA:Mv GE no Γ5 w5 Γ5 ((w5.alloc (.deferred (some []))).alloc (.loop (mj fn a5 w5.heap.size true))):=mA1.trans mA2 λb h=>.inl h
  have hen':(Instr.enterLoop fn a5 #[48] (Oq MP) dB Fence.wide.round).run Pg w5=.ok (w5.heap.size+1,[{target:=.collected w5.heap.size,args:=#[]}]) ((w5.alloc (.deferred (some []))).alloc (.loop (mj fn a5 w5.heap.size true))):=run_enterLoop_outer fn a5 #[48] (Oq MP) dB
  have oD2:=oD1.mv mA2 id
  generalize ((w5.alloc (.deferred (some []))).alloc (.loop (mj fn a5 w5.heap.size true)))=wA at mA ol2 rl2 rD2 hen' oD2
  have hbob:ob<w5.heap.size:=hI5.ho.2.1
  have hbnb:nb<w5.heap.size:=on5.2.1
  have hob:ob≠nb:=λe=>(nM ob e).2.1 rfl
  have hJ:JC (pE m mb) d.Cons d c size (d.Cons.length:Int) j j ob nb (w5.heap.size+1) w5.heap.size a5 fn (FC ob nb (w5.heap.size+1) w5.heap.size v) true (o.1,0) Γ5 wA:={
   base:=mA.base
   fr:=(g5.forget (tm':=Kn m mb d c size j ob nb) (by kernel_rfl)).mv mA.le
   ex:=⟨v,rfl,hI5.hd.mv mA id,hI5.row.mv mA λb _=>id,λe=>(hI5.vo _ e).2.1 rfl,λe=>(nM nb rfl).2.2.1 e,λe=>by have:=(hI5.row.off _ e).2.1;omega,λe=>by have:=(hI5.row.off _ e).2.1;omega⟩
   oo:=hI5.ho.mv mA id
   on:=on5.mv mA id
   ol:=ol2
   oD:=oD2
   hn:=hn5.mv mA id
   rl:=rl2
   rD:=rD2
   ds:=⟨hob,by omega,by omega,by omega,by omega,by omega⟩}
  have hmbF:¬FC ob nb (w5.heap.size+1) w5.heap.size v mb:=λh=>by
   have:=hI5.k.off.2.1
   have:=hI5.mlo
   rcases h with h|h|h|h|h
   ·have:=hI5.lb;omega
   ·exact(nM mb h).1 rfl
   ·omega
   ·omega
   ·have:=(hI5.vo _ h).1;omega
  refine⟨_,_,_,{target:=.fn (.func Th) #[k1,k2,k3],args:=#[.func (.yield (w5.heap.size+1)) #[] #[]]},wA,Th,#[.func (.yield (w5.heap.size+1)) #[] #[],k1,k2,k3],wA,hen',?_,λ_ _=>trivial,?_,λhx=>by simp[Fence.wide]at hx,?_⟩
  ·simp only[resolve,e47',Deferred.ofValue]
   simp[Act.eval]
  ·simp[invoke,call146]
  refine(L8 (RJ (c:=c)) hR hlong hq c3.1.1 c3.1.2 c3.2 hJ (hI5.k.mv mA id) hmbF (vaQ _) (v1.mono mA.le (.refl _)) (v2.mono mA.le (.refl _)) (v3.mono mA.le (.refl _))).mono ?_
  rintro e w6 ⟨⟨u,rfl⟩,Γ6,F6,m6,hF6,hJ6,hk6⟩
  refine⟨_,_,run_endLoop hJ6.rl (by cases q.1<;>simp),?_⟩
  obtain⟨v6,hF6e,a1',a2',a3',a4',a5',a6'⟩:=hJ6.ex
  have m7:=Mv.putObj m6.base hJ6.ol (.loop {mj fn a5 w5.heap.size q.1 with state:=.exhausted})
  generalize w6.putObj (w5.heap.size+1) (.loop {mj fn a5 w5.heap.size q.1 with state:=.exhausted})=w7 at m7
  obtain⟨d1,d2,d3,d4,d5,d6⟩:=hJ6.ds
  have hwA:w5.heap.size<=wA.heap.size:=mA.size
  have hlo5:lo<=w5.heap.size:=vaw hlo m05.size
  have own6:∀b,v6.ownBlock=some b->v.ownBlock=some b\/wA.heap.size<=b:=λb hb=>by
   rcases hF6 b (by rw[hF6e];exact .inr (.inr (.inr (.inr hb))))with(rfl|rfl|rfl|rfl|h)|h
   ·exact absurd hb a3'
   ·exact absurd hb a4'
   ·exact absurd hb a5'
   ·exact absurd hb a6'
   ·exact .inl h
   ·exact .inr h
  have hDnew:∀x,x∈Ds->x<w5.heap.size:=λx hx=>(hI5.ds x hx).2.2.1.2.1
  have nDs:∀x∈Ds,¬(FC ob nb (w5.heap.size+1) w5.heap.size v x\/x=mb):=λx hx h=>by
   have h1:=hDnew x hx
   have h2:=hI5.ds x hx
   have h3:=hI5.mlo
   rcases h with(h|h|h|h|h)|h
   ·exact h2.2.1 h
   ·exact(nM x h).2.2.2 hx
   ·omega
   ·omega
   ·exact(hI5.vo _ h).2.2 hx
   ·omega
  have nmb:¬mb=w5.heap.size+1:=by have:=hI5.k.off.2.1;omega
  have hI7:CI lo mb ob (q.2.1.1,q.2.2) v6 (w5.heap.size::Ds) Γ6 w7:={
   k:=hk6.mv m7 nmb
   hd:=a1'.mv m7 d2
   ho:=hJ6.oo.mv m7 d2
   row:=a2'.mv m7 λb hb e=>a5' (by have e:b=w5.heap.size+1:=e;rw[<-e];exact hb)
   vo:=λb hb=>⟨(own6 b hb).elim (λh=>(hI5.vo b h).1) λh=>by omega,λe=>a3' (e▸hb),λhx=>by
    rcases vaB.1 hx with hx|hx
    ·exact a6' (hx▸hb)
    ·rcases own6 b hb with h|h
     ·exact(hI5.vo b h).2.2 hx
     ·have:=hDnew b hx;omega⟩
   lb:=hI5.lb
   mlo:=hI5.mlo
   ds:=λx hx=>by
    rcases vaB.1 hx with rfl|hx
    ·exact⟨hlo5,λe=>d3 e.symm,hJ6.oD.mv m7 λe=>d6 e.symm,(m7.keep hJ6.oD.2.1 λe=>d6 e.symm).trans hJ6.rD⟩
    ·obtain⟨b1,b2,b3,b4⟩:=hI5.ds x hx
     have b3A:=b3.mv mA id
     have hxl:¬x=w5.heap.size+1:=by have:=hDnew x hx;omega
     refine⟨b1,b2,(b3A.mv m6 (nDs x hx)).mv m7 hxl,?_⟩
     exact(m7.keep (b3A.mv m6 (nDs x hx)).2.1 hxl).trans ((m6.keep b3A.2.1 (nDs x hx)).trans ((mA.keep b3.2.1 id).trans b4))
   nd:=vbB.2 ⟨λhx=>by have:=hDnew _ hx;omega,hI5.nd⟩}
  have mAll:Mv GE (λb=>b=mb\/lo<=b) Γ w Γ6 w7:=by
   refine Mv.trans (M1:=λb=>b=mb\/lo<=b) (((m05.trans mA λb h=>.inl h).mono (M:=λb=>b=mb\/lo<=b) λb h=>h.elim).trans m6 λb hb=>.inl ?_) (m7.mono (M:=λb=>b=mb\/lo<=b) λb hb=>.inl (.inr (by have hb:b=w5.heap.size+1:=hb;show lo<=b;rw[hb];exact Nat.le_succ_of_le hlo5))) λb hb=>.inl hb
   have:=hI5.lb
   have:=m02.size
   rcases hb with(h|h|h|h|h)|h
   ·exact .inr (by omega)
   ·exact .inr (by omega)
   ·exact .inr (by omega)
   ·exact .inr (by omega)
   ·exact .inr (hI5.vo _ h).1
   ·exact .inl h
  have g7:Fr Γ6 w7 a5 (AH m mb d size j ob []):=(hJ6.fr.mv m7.le).forget (by kernel_rfl)
  have fin:KL m mb d size j ob lo (q.2.1.1,q.2.2) Γ w .normal ⟨a5,ET (w5.heap.size::Ds)⟩ w7:=⟨Γ6,v6,w5.heap.size::Ds,mAll,hI7,rfl,g7⟩
  cases hq1:q.1 with
  |true=>exact⟨.inl rfl,fin⟩
  |false=>exact wpIn_exit ⟨.inl rfl,fin⟩
 refine wpIn_block (wpIn_mono key ?_)
 rintro e a' w' ⟨rfl|rfl,h⟩
 ·exact⟨rfl,h⟩
 ·exact⟨rfl,h⟩
end
theorem QL{tm:List PVal}{i:Nat}{p:PVal}(h:dR 0 tm)(hp:p.cl 0):dR 0 (tm.set i p):=GQ λq hq=>by
 rcases vcj hq with hq|rfl
 ·obtain⟨i,hi⟩:=vbG hq
  exact gr h hi
 ·exact hp
theorem yw{fn:Func}{n:Nat}{tmps:Array Value}{R:Ending->World->Prop}:∀(Ds:List Nat) {Γ:aw} {w:World},dO GE Γ w->(∀D∈Ds,ni GE Γ w D/\w.heap[D]? =some (.deferred (some [])))->Ds.Nodup->
  (∀w',Mv GE (λb=>b∈Ds) Γ w Γ w'->LeavesIn Fence.wide n Pg fn tmps R [] .returning w')->LeavesInM Fence.wide n Pg fn tmps R (ET Ds) .returning w
 |[],Γ,w,hB,_,_,h=>h w (.refl hB)
 |D::Ds,Γ,w,hB,hd,hn,h=>by
  obtain⟨h1,h2⟩:=hd D (by simp)
  obtain⟨n1,n2⟩:=vbB.1 hn
  have m1:=Mv.putObj hB h1 (.deferred none)
  refine⟨by simp,.inl ⟨D,_,rfl,run_takeDeferred h2,yw Ds m1.base (λx hx=>?_) n2 λw' hw=>h w' ((m1.mono (M:=λb=>b∈D::Ds) λb hb=>.inl (by have hb:b=D:=hb;simp[hb])).trans hw λb hb=>.inl (vaK _ hb))⟩⟩
  obtain⟨q1,q2⟩:=hd x (vaK _ hx)
  have hne:¬x=D:=λe=>n1 (e▸hx)
  exact⟨q1.mv m1 hne,(m1.keep q1.2.1 hne).trans q2⟩
section
variable{mb:Nat}{K:fe}{r:List aa×fe}{v:Value}{Γ Γ':aw}{w w':World}{m:aB}{d:aS}{size:Int}{nn:Nat}{a:Array Value}{R:ae->Int->fe->Option (List aa×fe)}
theorem QN(hR:M2 m R)(hlong:∀t n K r,R t n K=some r->r.1.length<4611686018427387904)(h:Pm R m d size K=some r)(hB:dO GE Γ w)(hk:KM mb K Γ w){u0 u1:Value}(h0:VR Γ [] w (.agg (pE m mb)) u0)(h1:VR Γ [] w (.agg (aC d)) u1):CallsIn Fence.wide nn Pg Vp #[u0,u1,.int .i64 size] w λe w'=>∃v Γ',e=.returned v/\Mv GE (λb=>b=mb) Γ w Γ' w'/\KM mb r.2 Γ' w'/\fk Pg GE eV Γ' w' (pk ac r.1) r.1.length v/\∀b,v.ownBlock=some b->w.heap.size<=b:=by
 unfold Pm at h
 split at h
 rotate_left
 ·cases h
 rename_i hlen
 refine callsIn_of_wp_marks func98 (c:=P9) rfl vzz ?_
 have g0:Fr Γ w (#[u0,u1,.int .i64 size]++Array.replicate 62 undef) (bT 65 [(0,.agg (pE m mb)),(1,.agg (aC d)),(2,.int .i64 size)] [] []).tmps:=by
  refine⟨by kernel_rfl,λk p u hp hu=>?_⟩
  have htm:(bT 65 [(0,.agg (pE m mb)),(1,.agg (aC d)),(2,.int .i64 size)] [] []).tmps=[.agg (pE m mb),.agg (aC d),.int .i64 size]++List.replicate 62 .undef:=by kernel_rfl
  rw[htm]at hp
  by_cases hk:k<3
  ·rw[vac (by simpa using hk)]at hp
   rw[vaR (by simpa using hk)]at hu
   match k,hk with
   |0,_=>simp at hp hu;subst hp;subst hu;exact h0
   |1,_=>simp at hp hu;subst hp;subst hu;exact h1
   |2,_=>simp at hp hu;subst hp;subst hu;exact .int _ _
  ·rw[vad (by simpa using hk),vaW]at hp
   split at hp<;>cases hp
   exact .undef u
 show P9.wpIn Fence.wide nn Pg _ ⟨#[u0,u1,.int .i64 size]++Array.replicate 62 undef,[]⟩ w
 rw[QA]
 refine wpIn_seq (wpIn_mono (g0.piece0 (k:=0) (Wi m mb d size) hB (pb ⟨vzz,pW m mb,(show dR 0 (aC d)from gF d),vzz⟩) []) ?_)
 rintro e ⟨a1,ds1⟩ w1 ⟨rfl,rfl,Γ1,m1,g1⟩
 have z31:(zeroValue tV).run Pg w1=.ok (.slice none 0 0) w1:=Tryz.zeroValue31 w1
 refine wpIn_seq (wpIn_region ?_)
 rw[show List.range (bP RB).size=[0] by kernel_rfl]
 refine bG (o:=bw RB 0) (by kernel_rfl) (by kernel_rfl) (cy (by kernel_rfl) (by simp only[execOp,show(bw RB 0).op=.alloc tV by kernel_rfl,Sem.run_bind,vw z31];rfl) ?_)
 rw[show(bw RB 0).dst=some 7 by kernel_rfl]
 have m2:Mv GE no Γ1 w1 Γ1 (w1.alloc (.cells #[.slice none 0 0] tV)):=.alloc m1.base _
 have hd2:vC (w1.alloc (.cells #[.slice none 0 0] tV)) w1.heap.size (.slice none 0 0):=.new _ _ w1
 have of2:ni GE Γ1 (w1.alloc (.cells #[.slice none 0 0] tV)) w1.heap.size:=.new m1.base _
 have g2:=((g1.mv m2.le).set (d:=7) (p:=.val (.pointer (some ⟨w1.heap.size,0,none⟩))) (.val _)).forget (tm':=(bT 65 [(2,.int .i64 size),(3,.eptr (pE m mb)),(4,.eptr (aC d)),(7,.val (.pointer (some ⟨w1.heap.size,0,none⟩)))] [] []).tmps) (by kernel_rfl)
 show(Code.seq (.seq T3 (.block 0 (.loop Rz))) (.seq (.region (wh CA) (bP CA) false) .ret)).wpIn Fence.wide nn Pg _ ⟨a1.setIfInBounds 7 (.pointer (some ⟨w1.heap.size,0,none⟩)),[]⟩ (w1.alloc (.cells #[.slice none 0 0] tV))
 generalize a1.setIfInBounds 7 (.pointer (some ⟨w1.heap.size,0,none⟩))=a2 at g2
 generalize w1.alloc (.cells #[.slice none 0 0] tV)=w2 at m2 hd2 of2 g2
 have hob1:w.heap.size<=w1.heap.size:=m1.size
 generalize w1.heap.size=ob at hd2 of2 g2 hob1
 refine wpIn_seq (wpIn_seq (wpIn_mono (g2.piece0 (k:=0) (Wj m mb d size ob) m2.base (GS m mb d size 0 ob) []) ?_))
 rintro e ⟨a3,ds3⟩ w3 ⟨rfl,rfl,Γ3,m3,g3⟩
 have m03:Mv GE no Γ w Γ3 w3:=(m1.trans m2 λb h=>.inl h).trans m3 λb h=>.inl h
 have hmb:mb<w.heap.size:=hk.off.2.1
 have hI3:CI w.heap.size mb ob ([],K) (.slice none 0 0) [] Γ3 w3:={
  k:=hk.mv m03 id
  hd:=hd2.mv m3 id
  ho:=of2.mv m3 id
  row:=fk.nil
  vo:=λb hb=>by simp[Value.ownBlock]at hb
  lb:=hob1
  mlo:=hmb
  ds:=λD hD=>by cases hD
  nd:=List.nodup_nil}
 refine wpIn_block (wpIn_loop_ghost (λk a' w'=>∃(j:Nat) (o:List aa×fe) (v':Value) (Ds:List Nat) (Γ':aw),k=d.Cons.length - j/\j<=d.Cons.length/\Ij R m d size j (d.Cons.drop j) o=some r/\
  Mv GE (λb=>b=mb\/w.heap.size<=b) Γ w Γ' w'/\CI w.heap.size mb ob o v' Ds Γ' w'/\a'.defers=ET Ds/\Fr Γ' w' a'.tmps (AH m mb d size j ob [])) d.Cons.length ⟨0,([],K),_,[],Γ3,rfl,vaQ _,h,m03.mono λb h=>h.elim,hI3,rfl,g3⟩ ?_)
 rintro k ⟨a4,ds4⟩ w4 ⟨j,o,v4,Ds,Γ4,rfl,hj,hf4,m4,hI4,hd4,g4⟩
 simp only at hd4;subst hd4
 rw[QJ]
 refine wpIn_seq (wpIn_mono (g4.piece0 (k:=0) (Wk m mb d size j ob) m4.base (QL (GS m mb d size j ob) trivial) (ET Ds)) ?_)
 rintro e ⟨a5,ds5⟩ w5 ⟨rfl,rfl,Γ5,m5,g5⟩
 have hI5:=hI4.mv0 m5
 have m05:Mv GE (λb=>b=mb\/w.heap.size<=b) Γ w Γ5 w5:=m4.trans m5 λb h=>h.elim
 have g5':=g5.forget (tm':=AH m mb d size j ob []) (by kernel_rfl)
 refine wpIn_seq (wpIn_cond (g5.evb (t:=19) (x:=decide ((j:Int)<(d.Cons.length:Int))) (by kernel_rfl) (ET Ds)) ?_)
 by_cases hlt:j<d.Cons.length
 ·rw[vb4 (by omega)]
  refine wpIn_skip ?_
  have hdrop:d.Cons.drop j=d.Cons[j]::d.Cons.drop (j+1):=vaU hlt
  rw[hdrop,Ij]at hf4
  obtain⟨o',ho',hf5⟩:=zA hf4
  refine wpIn_seq (wpIn_mono (O7 hR hlong (aQ _ _ hlt) ho' m5.base hI5 g5') ?_)
  rintro e ⟨a6,ds6⟩ w6 ⟨rfl,Γ6,v6,Ds6,m6,hI6,hd6,g6⟩
  simp only at hd6;subst hd6
  refine wpIn_mono (g6.piece0 (k:=0) (T6 m mb d size j ob) m6.base (GS m mb d size _ ob) (ET Ds6)) ?_
  rintro e ⟨a7,ds7⟩ w7 ⟨rfl,rfl,Γ7,m7,g7⟩
  have ew:cc ((j:Int)+1)=((j+1:Nat):Int):=by rw[bE (by omega) (by omega)];omega
  rw[ew]at g7
  exact⟨d.Cons.length - (j+1),by omega,j+1,o',v6,Ds6,Γ7,rfl,hlt,hf5,(m05.trans m6 λb h=>.inl h).trans m7 λb h=>h.elim,hI6.mv0 m7,rfl,g7⟩
 ·rw[decide_eq_false (by omega)]
  refine wpIn_exit ?_
  rw[vbe (by omega),Ij]at hf4
  obtain rfl:=vax hf4
  show(Code.seq (.region (wh CA) (bP CA) false) .ret).wpIn Fence.wide nn Pg _ ⟨a5,ET Ds⟩ w5
  refine wpIn_seq (wpIn_region ?_)
  rw[show List.range (bP CA).size=[0,1] by kernel_rfl]
  have e7:(Act.mk a5 (ET Ds)).eval (.tmp 7)=.pointer (some ⟨ob,0,none⟩):=aJ (g5'.raw (by kernel_rfl))
  refine bG (o:=bw CA 0) (by kernel_rfl) (by kernel_rfl) (cy (by kernel_rfl) (v:=v4) (w':=w5) (by simp[execOp,show(bw CA 0).op=.load tV (.tmp 7) by kernel_rfl,e7,hI5.hd.load (P:=Pg) (T:=tV) (by kernel_rfl)]) ?_)
  rw[show(bw CA 0).dst=some 64 by kernel_rfl]
  have g6:=g5'.set (d:=64) (p:=.val v4) (.val v4)
  refine bG (o:=bw CA 1) (by kernel_rfl) (by kernel_rfl) (g6.opS m5.base (d:=6) (p:=.val v4) (by kernel_rfl) (by kernel_rfl) (by kernel_rfl) (by kernel_rfl) λa7 Γ7 w7 m7 g7=>?_)
  refine wpIn_ret ?_
  have hI7:=hI5.mv0 m7
  refine yw Ds m7.base (λD hD=>⟨(hI7.ds D hD).2.2.1,(hI7.ds D hD).2.2.2⟩) hI7.nd λw8 m8=>?_
  have g8:=g7.mv m8.le
  obtain⟨u,e1,e2,_⟩:=qq (g8.sr (P:=Pg) m8.base 0) (fn:=f98) (r:=.val v4) (by kernel_rfl)
  cases e2
  have nmb:¬mb∈Ds:=λhx=>by have:=(hI7.ds _ hx).1;omega
  refine⟨v4,e1,v4,Γ7,rfl,?_,hI7.k.mv m8 nmb,hI7.row.mv m8 λb hb hx=>(hI7.vo b hb).2.2 hx,λb hb=>(hI7.vo b hb).1⟩
  exact((m05.trans m7 λb h=>h.elim).trans m8 λb hb=>.inl (.inr (hI7.ds b hb).1)).mono λb hb=>hb
end
open Go
section
variable{α:Type}
def La(ord:α->α->Option Int)(x y:α):Bool:=match ord x y with
 |some r=>decide (r<0)
 |none=>false
def J0(lt:α->α->Bool)(x:α):List α->List α
 |[]=>[x]
 |y::r=>if lt y x=true then y::J0 lt x r else x::y::r
def xh(lt:α->α->Bool):List α->List α
 |[]=>[]
 |x::r=>J0 lt x (xh lt r)
structure OW(lt:α->α->Bool)(S:α->Prop):Prop where
 irr:∀x,S x->lt x x=false
 trans:∀x y z,S x->S y->S z->lt x y=true->lt y z=true->lt x z=true
 ntrans:∀x y z,S x->S y->S z->lt x y=false->lt y z=false->lt x z=false
 tot:∀x y,S x->S y->lt x y=false->lt y x=false->x=y
theorem zG(lt:α->α->Bool)(x:α):∀l,(J0 lt x l).Perm (x::l)
 |[]=>.refl _
 | y :: r => by
  unfold J0
  split
  ·exact((zG lt x r).cons y).trans (List.Perm.swap x y r)
  ·exact .refl _
theorem pn(lt:α->α->Bool):∀l,(xh lt l).Perm l
 |[]=>.refl _
 |x::r=>(zG lt x (xh lt r)).trans ((pn lt r).cons x)
abbrev Er(lt:α->α->Bool)(l:List α):Prop:=l.Pairwise λx y=>lt y x=false
theorem AO{lt:α->α->Bool}{S:α->Prop}(h:OW lt S)(x:α)(hx:S x):∀{l},(∀y∈l,S y)->Er lt l->Er lt (J0 lt x l)
 |[],_,_=>by simp[J0,Er]
 | y :: r,hS,hs => by
  unfold Er at hs ⊢
  have h':=vbM.1 hs
  have hy:=hS y (by simp)
  have hr:∀z∈r,S z:=λz hz=>hS z (by simp[hz])
  unfold J0
  split
  ·rename_i hyx
   rw[vbM]
   refine⟨λz hz=>?_,AO h x hx hr h'.2⟩
   rcases vaB.1 ((zG lt x r).mem_iff.1 hz)with rfl|hz
   ·cases hc:lt z y with
    |false=>rfl
    |true=>
     have:=h.trans _ _ _ hy hx hy hyx hc
     rw[h.irr _ hy]at this;cases this
   ·exact h'.1 z hz
  ·rename_i hyx
   have hyx:lt y x=false:=by simpa using hyx
   rw[vbM]
   refine⟨λz hz=>?_,hs⟩
   rcases vaB.1 hz with rfl|hz
   ·exact hyx
   ·exact h.ntrans _ _ _ (hr z hz) hy hx (h'.1 z hz) hyx
theorem wj{lt:α->α->Bool}{S:α->Prop}(h:OW lt S):∀{l},(∀y∈l,S y)->Er lt (xh lt l)
 |[],_=>by simp[xh,Er]
 |x::r,hS=>by
  unfold xh
  exact AO h x (hS x (by simp)) (λy hy=>hS y (by have:=(pn lt r).mem_iff.1 hy;simp[this])) (wj h λy hy=>hS y (by simp[hy]))
theorem A1{lt:α->α->Bool}{S:α->Prop}(h:OW lt S):∀{l r:List α},(∀y∈l,S y)->l.Perm r->Er lt l->Er lt r->l=r
 |[],r,_,hp,_,_=>(List.Perm.nil_eq hp)
 | x :: l,r,hS,hp,hl,hr => by
  cases r with
  |nil=>exact absurd hp.length_eq (by simp)
  | cons y r =>
   have hl':=vbM.1 hl
   have hr':=vbM.1 hr
   have hxS:=hS x (by simp)
   have hyS:=hS y (hp.mem_iff.2 (by simp))
   have hxy:x=y:=by
    have h1:x∈y::r:=hp.mem_iff.1 (by simp)
    have h2:y∈x::l:=hp.mem_iff.2 (by simp)
    rcases vaB.1 h1 with h1|h1
    ·exact h1
    ·rcases vaB.1 h2 with h2|h2
     ·exact h2.symm
     ·exact h.tot _ _ hxS hyS (hr'.1 x h1) (hl'.1 y h2)
   subst hxy
   rw[A1 h (λz hz=>hS z (by simp[hz])) hp.cons_inv hl'.2 hr'.2]
end
class SoundEq (α:Type) where
 eqb:α->α->Bool
 sound:∀x y,eqb x y=true->x=y
section
variable{α:Type}[SoundEq α]
def Tj(ord:α->α->Option Int)(l:List α):Bool:=
 decide (l.length<=ct)&&(l.all (λx=>l.all λy=>(ord x y).isSome)&&(l.all (λx=>!La ord x x)&&
 (l.all (λx=>l.all λy=>l.all λz=>(!(La ord x y&&La ord y z)||La ord x z)&&((La ord x y||La ord y z)||!La ord x z))&&
 l.all λx=>l.all λy=>La ord x y||(La ord y x||SoundEq.eqb x y))))
def DM(ord:α->α->Option Int)(l:List α):Option (List α):=if Tj ord l=true then some (xh (La ord) l)else none
theorem Df{ord:α->α->Option Int}{l:List α}(h:Tj ord l=true):l.length<=ct/\(∀x∈l,∀y∈l,∃r,ord x y=some r)/\OW (La ord) (·∈l):=by
  unfold Tj at h
  simp only[vae,vam,vap,vaX,vaZ]at h
  obtain⟨h1,h2,h3,h4,h5⟩:=h
  refine⟨h1,λx hx y hy=>vaD.1 (h2 x hx y hy),λx hx=>h3 x hx,λx y z hx hy hz a b=>?_,λx y z hx hy hz a b=>?_,λx y hx hy a b=>?_⟩
  · rcases (h4 x hx y hy z hz).1 with h | h
    ·rw[a,b]at h;cases h
    ·exact h
  · rcases (h4 x hx y hy z hz).2 with (h | h) | h
    ·rw[a]at h;cases h
    ·rw[b]at h;cases h
    ·exact h
  · rcases h5 x hx y hy with h | h | h
    ·rw[a]at h;cases h
    ·rw[b]at h;cases h
    ·exact SoundEq.sound _ _ h
theorem HM{ord:α->α->Option Int}{l r l':List α}(h:DM ord l=some r)(hp:l'.Perm l)(hs:Er (La ord) l'):l'=r:=by
 unfold DM at h
 split at h
 ·rename_i hk
  cases h
  obtain⟨_,_,ho⟩:=Df hk
  exact A1 ho (λy hy=>hp.mem_iff.1 hy) (hp.trans (pn _ l).symm) hs (wj ho λy hy=>hy)
 ·cases h
theorem Jf{ord:α->α->Option Int}{l r:List α}(h:DM ord l=some r):Tj ord l=true/\r.length=l.length:=by
 unfold DM at h
 split at h
 ·rename_i hk
  cases h
  exact⟨hk,(pn _ l).length_eq⟩
 ·cases h
end
open Go Go.Shelf Go.RowKit Go.Lib Go.Sort
def MY(P:Program)(fs:FuncId)(k:Nat):Prop:=
 (∀vs w,(callFunc fs vs).run P w=.ok (.enter fs vs) w)/\
 (∀(enc:Nat->List Value) (cf:Nat->Nat->Int) (g blk cap:Nat) (d:Array Nat) (w:World),(∀x,(enc x).length=k)->(∀x,∀v∈enc x,v.oneCell'=true)->SWO (ltOf cf)->(∀vs w,(callFunc g vs).run P w=.ok (.enter g vs) w)->
  CmpLays P g #[] enc k cf blk 0 d.size w->HoldsK enc k w blk 0 d->blk<w.heap.size->d.size<4611686018427387904->
  Calls P fs #[.slice (some ⟨blk,0,none⟩) d.size cap,.func (.func g) #[] #[]] w λe w'=>e=.returned (.tuple #[])/\∃d' n os,PermIn 0 d.size d d'/\SortedIn (ltOf cf) 0 d.size d'/\w'=sortWorldK enc k w blk 0 n d' os)/\
 ∀(p:Option Addr) (cap:Nat) (fv:Value) (w:World),Calls P fs #[.slice p 0 cap,fv] w λe w'=>e=.returned (.tuple #[])/\w'=w
theorem Kt{enc:Nat->List Value}{k b m:Nat}{dk:Array Nat}{os:Array Obj}{w:World}{x:Nat}(hx:x<w.heap.size)(hb:x≠b):(sortWorldK enc k w b 0 m dk os).heap[x]? =w.heap[x]?:=by
 show((putRowK enc k (Sort.ahead w m) b 0 dk).heap++os)[x]? =_
 have hsz:(putRowK enc k (Sort.ahead w m) b 0 dk).heap.size=w.heap.size:=by simp[putRowK,putRow,mapBlock,Sort.ahead]
 rw[vaR (by rw[hsz];exact hx)]
 show(w.heap.modify b (onCells _))[x]? =_
 rw[vbO,vaz (λe=>hb e.symm)]
theorem Ku{enc:Nat->List Value}{k b m:Nat}{dk:Array Nat}{os:Array Obj}{w:World}:w.heap.size<=(sortWorldK enc k w b 0 m dk os).heap.size:=by
 show _<=((putRowK enc k (Sort.ahead w m) b 0 dk).heap++os).size
 have hsz:(putRowK enc k (Sort.ahead w m) b 0 dk).heap.size=w.heap.size:=by simp[putRowK,putRow,mapBlock,Sort.ahead]
 rw[Array.size_append,hsz];omega
theorem MG{enc:Nat->List Value}{k b m:Nat}{dk:Array Nat}{os:Array Obj}{w:World}{cur:Array Value}{e:TypeId}(hh:w.heap[b]? =some (.cells cur e (0,0))):(sortWorldK enc k w b 0 m dk os).heap[b]? =some (.cells (putCells id 0 (flatK enc k dk) cur) e (0,0)):=by
 have hb:b<w.heap.size:=(vaf.1 hh).1
 show((putRowK enc k (Sort.ahead w m) b 0 dk).heap++os)[b]? =_
 have hsz:(putRowK enc k (Sort.ahead w m) b 0 dk).heap.size=w.heap.size:=by simp[putRowK,putRow,mapBlock,Sort.ahead]
 rw[vaR (by rw[hsz];exact hb)]
 show(w.heap.modify b (onCells _))[b]? =_
 rw[vbO,vaA rfl,hh]
 rfl
section
variable{P:Program}{ρ:Ren}
theorem Oy(L:SlLaysF0.n6 P ρ){fs e:Nat}(hf:ρ.f 6=fs)(he:ρ.t 24=e)(ha:(P.underlying e).any O0=true)(hi:(P.info? e).isSome=true)(hcall:∀vs w,(callFunc fs vs).run P w=.ok (.enter fs vs) w):MY P fs (P.cellsOf e):=by
 subst hf;subst he
 obtain⟨i0,hi0⟩:=vaD.1 hi
 have hagg:∀w,(Go.isAgg (ρ.t 24)).run P w=.ok true w:=λw=>by
  cases hd:P.underlying (ρ.t 24)with
  |none=>rw[hd]at ha;cases ha
  |some d=>
   rw[hd]at ha
   cases d<;>simp[O0]at ha<;>simp[Go.isAgg,run_underlying hd]
 refine⟨hcall,λenc cf g blk cap d w hk h1 hO eg hcmp hH hb hs=>?_,λp cap fv w=>AnyF.slices_SortFunc_none L p cap fv w⟩
 exact AnyQ.slices_SortFunc L (P.cellsOf (ρ.t 24)) hagg (λw=>run_sizeOf w hi0) enc hk h1 cf hO g #[] blk 0 cap d w eg hcmp hH hb hs
end
section
variable{P:Program}{GE:List (Nat×List PVal)}{Γ:aw}{w:World}
theorem O8{f:FuncId}{args:List PVal}{r:PVal}(h:CC P GE f args r [])(hB:dO GE Γ w)(hr:r.cl 0){vs:Array Value}(hs:vs.size=args.length)(hv:∀(t:Nat) p v,args[t]? =some p->vs[t]? =some v->VR Γ [] w p v):Calls P f vs w λe w'=>∃v Γ',e=.returned v/\Mv GE no Γ w Γ' w'/\VR Γ' [] w' r v:=by
 have hT:(bX [] λ_=>none)=λ_=>False:=funext λb=>propext ⟨λh=>by
  rcases h with⟨i,hi⟩|h
  ·simp at hi
  ·exact h rfl,λh=>h.elim⟩
 have hS:=hB.fresh (P:=P) (a:=vs) 0 hs hv
 refine(h.2.2 Γ [] (λ_=>none) w vs (by rw[hT];exact hS)).mono λe w' he=>?_
 obtain⟨v,Γ',ow',rfl,h'⟩:=he
 rw[hT]at h'
 exact⟨v,Γ',rfl,.of h',(h'.tm 0 _ v rfl rfl).clo hr⟩
end
section
variable{P:Program}{GE:List (Nat×List PVal)}{GD:List (Nat×List PVal)}{Γ:aw}{w:World}{e:TypeId}{α:Type}[SoundEq α]{c:α->List PVal}{ord:α->α->Option Int}
theorem Oz{fs fo:FuncId}(hS:MY P fs (P.cellsOf e))(hcc:∀x y r,ord x y=some r->CC P GD fo [.agg (c x),.agg (c y)] (.int .i64 r) [])(hof:∀vs w,(callFunc fo vs).run P w=.ok (.enter fo vs) w)
  (hD:Tf GD=true) (hG:∀x,x∈GD↔x∈GE) (hcl:∀x,(c x).length=P.cellsOf e) (hkp:0<P.cellsOf e) (ho:∀x,∀q∈c x,q.one=true) {l r:List α} (hs:DM ord l=some r) (hB:dO GE Γ w) {v:Value} (h:fk P GE e Γ w (pk c l) l.length v):
  Calls P fs #[v,.func (.func fo) #[] #[]] w λex w'=>ex=.returned (.tuple #[])/\Mv GE (λb=>v.ownBlock=some b) Γ w Γ w'/\fk P GE e Γ w' (pk c r) r.length v:=by
 obtain⟨hokS,hrl⟩:=Jf hs
 obtain⟨happ,hord,hO⟩:=Df hokS
 have hempty:l=[]->∀(p:Option Addr) cap,v=.slice p 0 cap->Calls P fs #[v,.func (.func fo) #[] #[]] w λex w'=>ex=.returned (.tuple #[])/\Mv GE (λb=>v.ownBlock=some b) Γ w Γ w'/\fk P GE e Γ w' (pk c r) r.length v:=λhl p cap hv=>by
  subst hl
  have hr:r=[]:=vaj hrl
  subst hr
  subst hv
  refine(hS.2.2 p cap _ w).mono λq w' hq=>?_
  obtain⟨rfl,rfl⟩:=hq
  exact⟨rfl,.refl hB,h⟩
 rcases h.form with⟨rfl,h0⟩|⟨g,cap,rfl⟩
 ·exact hempty (vaj h0) _ _ rfl
 by_cases hl0:l=[]
 ·exact hempty hl0 (some ⟨g,0,none⟩) cap (by rw[hl0];rfl)
 have hN:0<l.length:=List.length_pos_iff.2 hl0
 obtain⟨xs,hown,hxl,hx1,hxv⟩:=h.row
 have hoff:=h.off g rfl
 rcases hown.2 with⟨hx,_⟩|⟨g',cap',cur,hx,_,hheap,hnc,hcm,hcs,htake⟩
 ·cases hx
 cases hx
 have hxsl:=hown.1
 generalize hkk:P.cellsOf e=k at *
 let cl:Nat->Nat:=λx=>if x<l.length then x else 0
 have hcl1:∀x,cl x<l.length:=λx=>by show(if x<l.length then x else 0)<_;split<;>omega
 have hcl0:∀x,x<l.length->cl x=x:=λx hx=>by show(if x<l.length then x else 0)=_;rw[vaA hx]
 let el:Nat->α:=λx=>l[cl x]'(hcl1 x)
 have hel:∀x,el x∈l:=λx=>vah (hcl1 x)
 let enc:Nat->List Value:=λx=>(xs.drop (cl x * k)).take k
 have hrow:∀x,cl x * k+k<=xs.length:=λx=>by
  rw[hxsl]
  have:(cl x+1) * k<=l.length * k:=vaJ k (hcl1 x)
  rw[vaP,vbE]at this
  exact this
 have hencl:∀x,(enc x).length=k:=λx=>by
  show((xs.drop (cl x * k)).take k).length=k
  rw[vaN,vbh];have:=hrow x;omega
 have hencj:∀(x j:Nat),j<k->(enc x)[j]? =xs[cl x * k+j]?:=λx j hj=>by
  show((xs.drop (cl x * k)).take k)[j]? =_
  rw[vau hj,va5]
 have hencg:∀(x j:Nat),j<k->(enc x)[j]? =some ((enc x)[j]!):=λx j hj=>by
  rw[List.getElem!_eq_getElem?_getD,vaa (by rw[hencl];exact hj)];rfl
 have hone:∀x,∀u∈enc x,u.oneCell'=true:=λx u hu=>hx1 u (List.mem_of_mem_drop (vbF hu))
 have hget':∀j,(hj:j<l.length)->(l.map c)[j]? =some (c l[j]):=λj hj=>by rw[vay,vaa hj];rfl
 have hvre:∀(x j:Nat) q u,(c (el x))[j]? =some q->(enc x)[j]? =some u->VR Γ [] w q u:=λx j q u hq hu=>by
  have hj:j<k:=by have:=ag hq;rw[hcl]at this;exact this
  rw[hencj x j hj]at hu
  refine hxv (cl x * k+j) q u ?_ hu
  unfold pk
  exact ru (λy hy=>by obtain⟨z,_,rfl⟩:=vai.1 hy;exact hcl z) (hget' _ (hcl1 x)) hq
 let cf:Nat->Nat->Int:=λx y=>(ord (el x) (el y)).getD 0
 have hcf:∀x y,ord (el x) (el y)=some (cf x y):=λx y=>by
  obtain⟨z,hz⟩:=hord _ (hel x) _ (hel y)
  show _=some ((ord (el x) (el y)).getD 0)
  rw[hz];rfl
 have hlt:∀x y,ltOf cf x y=La ord (el x) (el y):=λx y=>by
  unfold ltOf La
  rw[hcf x y]
 have hswo:SWO (ltOf cf):=⟨λx=>by rw[hlt];exact hO.irr _ (hel x),λx y z p q=>by rw[hlt]at *;exact hO.trans _ _ _ (hel x) (hel y) (hel z) p q,λx y z p q=>by rw[hlt]at *;exact hO.ntrans _ _ _ (hel x) (hel y) (hel z) p q⟩
 have hd0:(Array.range l.length).size=l.length:=by simp
 have hcellr:∀{W:World} {cu:Array Value},W.heap[g]? =some (.cells cu e (0,0))->∀o,W.cell? ⟨g,o,none⟩=cu[o]?:=λhW o=>cell_of_row _ g o _ e _ hW
 have hdm:∀o,o<l.length * k->o / k<l.length/\o % k<k/\o=o / k * k+o % k:=λo ho=>⟨vcE (by rw[vcg];exact ho),vcW _ hkp,(vcT o k).symm⟩
 have hcurx:∀o,o<l.length * k->cur[o]? =xs[o]?:=λo ho=>by
  rw[<-htake,vau ho];simp
 have hHold:HoldsK enc k w g 0 (Array.range l.length):=by
  intro j hj
  rw[size_flatK,hd0]at hj
  obtain⟨a1,a2,a3⟩:=hdm j hj
  refine⟨?_,frozen_of_row w g _ cur e hheap⟩
  rw[get_flatK _ _ _ _ (by rw[hd0];exact hj)]
  have e1:(Array.range l.length)[j / k]! =j / k:=by rw[getElem!_pos _ _ (by rw[hd0];exact a1)];simp
  rw[e1]
  show w.cell? ⟨g,0+j,none⟩=some ((enc (j / k))[j % k]!)
  rw[<-hencg _ _ a2,hencj _ _ a2,hcl0 _ a1,<-a3,vaH,hcellr hheap,hcurx j hj]
 have hmv:∀(m:Nat) (os:Array Obj) (dk:Array Nat),Mv GE (λb=>b=g) Γ w Γ (sortWorldK enc k w g 0 m dk os):=λm os dk=>
  Mv.raw hB rfl rfl rfl Ku (jy (vbJ _ _)) (λb hb hn=>Kt hb hn) λb hb=>.inl (hb▸hoff)
 have hcmp:CmpLays P fo #[] enc k cf g 0 (Array.range l.length).size w:=by
  intro m os dk hdk x y
  have hm:=hmv m os dk
  generalize sortWorldK enc k w g 0 m dk os=W at hm
  have hagg:∀i,VR Γ [] W (.agg (c (el i))) (.agg (enc i).toArray):=λi=>.agg _ _ (by simp[hencl,hcl]) λj p v hp hv=>(hvre i j p v hp (by simpa using hv)).mono hm.le (.refl _)
  have hBD:dO GD Γ W:=⟨hm.base.wi,λg cs hg=>hm.base.gl g cs ((hG _).1 hg),λg cs hg=>hm.base.gc g cs ((hG _).1 hg),λg cs hg=>hm.base.gx g cs ((hG _).1 hg)⟩
  refine(O8 (hcc _ _ _ (hcf x y)) hBD vzz (vs:=#[.agg (enc x).toArray,.agg (enc y).toArray]) rfl λt p v hp hv=>?_).mono λex w' he=>?_
  ·match t with
   |0=>simp at hp hv;subst hp;subst hv;exact hagg x
   |1=>simp at hp hv;subst hp;subst hv;exact hagg y
   |t+2=>simp at hp
  obtain⟨v,Γ',rfl,hM,hv⟩:=he
  cases hv
  refine⟨rfl,w'.drawn - W.drawn,w'.heap.extract W.heap.size w'.heap.size,?_⟩
  have h1:=hM.step.os
  have h2:=hM.step.tape
  have h3:=hM.step.output
  have h4:=hM.step.size
  have h5:=hM.step.drawn
  simp only[dr,hD,if_true]at h1 h2 h3 h4 h5
  have hheap:w'.heap=W.heap++w'.heap.extract W.heap.size w'.heap.size:=by
   apply vcL
   intro i
   by_cases hi:i<W.heap.size
   ·rw[vaR hi,hM.keep hi id]
   ·rw[vbP (by omega)]
    by_cases hi2:i<w'.heap.size
    ·rw[vcu]
     rw[vaA (by omega)]
     congr 1;omega
    ·rw[vbt (by omega),vbt (by simp;omega)]
  show w'={heap:=W.heap++_,tape:=W.tape,drawn:=W.drawn+(w'.drawn - W.drawn),os:=W.os,output:=W.output}
  rw[<-hheap,show W.drawn+(w'.drawn - W.drawn)=w'.drawn by omega,<-h1,<-h2,<-h3]
 have happ2:l.length<4611686018427387904:=by unfold ct at happ;omega
 have hcall:=hS.2.1 enc cf fo g cap (Array.range l.length) w hencl hone hswo hof hcmp hHold hoff.2.1 (by rw[hd0];exact happ2)
 rw[hd0]at hcall
 refine hcall.mono λq w' hr=>?_
 obtain⟨rfl,d',n',os,hperm,hsorted,rfl⟩:=hr
 have hd'0:d'.size=l.length:=hperm.1.trans hd0
 have hm:=hmv n' os d'
 have hrowW:=MG (enc:=enc) (k:=k) (m:=n') (dk:=d') (os:=os) hheap
 have hholdW:HoldsK enc k (sortWorldK enc k w g 0 n' d' os) g 0 d':=holdsK_sortWorldK_c enc k w g 0 _ d' n' os hHold hoff.2.1 hperm.1
 generalize sortWorldK enc k w g 0 n' d' os=W at hm hrowW hholdW
 have hcsW:(putCells id 0 (flatK enc k d') cur).size=cap * k:=by rw[<-hcs];simp[putCells]
 generalize putCells id 0 (flatK enc k d') cur=cu at hrowW hcsW
 have hrd:d'.toList.map el=r:=by
  refine HM hs ?_ ?_
  ·have hp:=hperm.2.2
   have e1:d'.extract 0 l.length=d':=by rw[<-hd'0];exact vcM
   have e2:(Array.range l.length).extract 0 l.length=Array.range l.length:=by
    have:(Array.range l.length).extract 0 (Array.range l.length).size=Array.range l.length:=vcM
    rwa[hd0]at this
   rw[e1,e2]at hp
   have h3:(Array.range l.length).toList.map el=l:=by
    rw[Array.toList_range]
    refine vbk λj=>?_
    by_cases hj:j<l.length
    ·rw[vay,vbn hj,vaa hj]
     show some (l[cl j]'(hcl1 j))=some l[j]
     congr 1
     simp only[hcl0 j hj]
    ·rw[vaS (by simp;omega),vaS (by omega)]
   rw[<-h3]
   exact hp.map el
  ·unfold Er
   rw[List.pairwise_map,List.pairwise_iff_getElem]
   intro x y hx hy hxy
   have hx':x<d'.size:=by simpa using hx
   have hy':y<d'.size:=by simpa using hy
   have:=hsorted x y (vaQ _) hxy (by rw[<-hd'0];exact hy')
   rw[getElem!_pos d' x hx',getElem!_pos d' y hy',hlt]at this
   simpa using this
 have hri:∀x,(hx:x<l.length)->(r.map c)[x]? =some (c (el d'[x]!)):=λx hx=>by
  rw[<-hrd,List.map_map,vay]
  have hxd:x<d'.size:=by rw[hd'0];exact hx
  rw[va3,vaF hxd,getElem!_pos d' x hxd]
  rfl
 have hnk:l.length * k<=cap * k:=vaJ k hnc
 have hcuL:cu.toList.length=cap * k:=by rw[<-hcsW];exact Array.length_toList
 have hcux:∀o,o<l.length * k->cu[o]? =(enc d'[o / k]!)[o % k]?:=λo ho=>by
  obtain⟨a1,a2,a3⟩:=hdm o ho
  have:=(hholdW.cell (i:=o / k) (c:=o % k) (by rw[hd'0];exact a1) a2).1
  rw[hcellr hrowW,vaH,<-a3]at this
  rw[this,<-hencg _ _ a2]
 refine⟨rfl,hm.mono λb hb=>.inl (by rw[hb];rfl),⟨cu.toList.take (r.length * k),⟨?_,.inr ⟨g,cap,cu,by rw[hrl],vaQ _,hrowW,by rw[hrl];exact hnc,hcm,hcsW.trans (by rw[hkk]),by rw[hkk]⟩⟩,?_,λu hu=>?_,λo p u hp hu=>?_⟩,λb hb=>?_⟩
 ·rw[vaN,hcuL,hkk,hrl];omega
 ·rw[vaN,hcuL]
  have:(pk c r).length=r.length * k:=by
   unfold pk
   rw[flat_len (sz:=k) λx hx=>by obtain⟨z,_,rfl⟩:=vai.1 hx;exact hcl z,vbq]
  rw[this,hrl];omega
 ·obtain⟨o,ho⟩:=vbG hu
  have hol:o<l.length * k:=by have:=ag ho;rw[vaN,hrl]at this;omega
  rw[vau (by rw[hrl];exact hol),va3,hcux o hol]at ho
  exact hone _ u (var ho)
 ·have hol:o<l.length * k:=by have:=ag hu;rw[vaN,hrl]at this;omega
  obtain⟨a1,a2,a3⟩:=hdm o hol
  rw[vau (by rw[hrl];exact hol),va3,hcux o hol]at hu
  have hjl:o % k<(c (el d'[o / k]!)).length:=by rw[hcl];exact a2
  have hq:=ru (sz:=k) (es:=r.map c) (λx hx=>by obtain⟨z,_,rfl⟩:=vai.1 hx;exact hcl z) (hri _ a1) (vaa hjl)
  rw[<-a3]at hq
  have hp:(r.map c).flatten[o]? =some p:=hp
  rw[hp]at hq
  exact(hvre _ _ p u (by rw[vaa hjl];exact hq.symm) hu).mono hm.le (.refl _)
 ·simp[Value.ownBlock]at hb;subst hb
  exact⟨hoff.1,vaE hoff.2.1 hm.size,hoff.2.2⟩
end
set_option linter.defProp false
abbrev OS:List (Nat×List PVal):=match GE with
 |a::r=>a::a::r
 |[]=>[]
abbrev KD(f:FuncId)(args:List PVal){R:Type}(o:Option R)(res:R->PVal)(ro:List (Nat×TypeId)):Prop:=Rr Pg OS f args o res ro
abbrev UQ(m:Nat)(c:Code){X:Type}(o:Option X)(ex:X->Exit)(so:X->ax)(st:ax):Prop:=Ts Pg OS m c o ex so st
abbrev Tt(m:Nat)(c:Code){σ X:Type}(o:Option (σ⊕X))(S:σ->ax)(ex:X->Exit)(so:X->ax)(st:ax):Prop:=Rq Pg OS m c o S ex so st
abbrev iG(R:cK):Prop:=∀(a:aa) (a2:aa),KD 20 [.agg (ac a),.agg (ac a2)] (R a a2) (λr=>.int .i64 r) []
abbrev pN(R:gp):Prop:=∀(v:aa),KD 22 [.agg (ac v)] (R v) (λr=>.int .i64 r) []
section
variable(R23:gp)(t7:(List aa))(t8:Int)(n:Int)(t9:Int)
theorem xF(hR23:pN R23):Tt 0 (cA TJ 119) (dQ R23 t7 t8 n t9) (λ(zz:Int×Int)=>gN t7 t8 zz.1 zz.2) (λ_=>.exit 0) my (gN t7 t8 n t9):=S1.lx<|
 tF (tb λx2 bx2=>tb λr3 br3=>tv (aZ.ia (k:=.i64) bx2)<|tv (al x2)<|tx vI<|tx (dz x2)<|tv (aF x2 [])<|bz (hR23 _ _ br3)<|tE)<|tE
def zg(hR23:pN R23):=Dd (s:=(n,t9)) λzz=>xF R23 t7 t8 zz.1 zz.2 hR23
end
theorem BC(R23:gp)(hR23:pN R23){v:aa}:KD 22 [.agg (ac v)] (kB R23 v) (λr=>.int .i64 r) []:=S1.v<|
 tb λo4 bo4=>te (bV v)<|tw (av v)<|cO (aZ.ln v.Kids)<|dZ (zg R23 v.Kids (v.Kids.length:Int) 1 0 hR23 _ bo4)<|tE
theorem uI{v:aa}:KD 22 [.agg (ac v)] (jK v) (λr=>.int .i64 r) []:=lY λ_ h=>
 cd (F:=ng) (M:=λ(x:aa) (r:Int)=>CC Pg OS 22 [.agg (ac x)] (.int .i64 r) []) (λrec hrec x r h=>BC _ (λv=>lY λr h=>hrec v r h) _ h) h
theorem wb{a:Int}:KD 80 [.int .i64 a] (qi a) (λr=>.bool r) []:=Vb.v<|
 tE
theorem rO{a:Int}{a2:Int}:KD 57 [.int .i64 a,.int .i64 a2] (jN a a2) (λr=>.int .i64 r) []:=U3.v<|
 tb λr1 br1=>tb λr2 br2=>bz (wb _ br1)<|bz (wb _ br2)<|tF (tF tE<|tE)<|tF tE<|tF tE<|tF tE<|tE
theorem rQ{a:Int}:KD 81 [.int .i64 a] (lJ a) (λr=>.bool r) []:=Vc.v<|
 tE
theorem yl{a:Int}{a2:Int}:KD 58 [.int .i64 a,.int .i64 a2] (jn a a2) (λr=>.int .i64 r) []:=U4.v<|
 tb λr1 br1=>tb λr2 br2=>bz (rQ _ br1)<|bz (rQ _ br2)<|tF (tF tE<|tE)<|tF tE<|tF tE<|tF tE<|tE
theorem rR{a:ai}:KD 82 [.str a] (lK a) (λr=>.bool r) []:=Vd.v<|
 tE
theorem ym{a:ai}{a2:ai}:KD 59 [.str a,.str a2] (jo a a2) (λr=>.int .i64 r) []:=U5.v<|
 tb λr1 br1=>tb λr2 br2=>bz (rR _ br1)<|bz (rR _ br2)<|tF (tF tE<|tE)<|tF tE<|tF tE<|tF tE<|tE
section
variable(t6:(List Int))(t7:Int)(t8:Int)
theorem CE:Tt 0 (cA RT 119) (eN t6 t7 t8) (λ(zz:Int)=>jO t6 t7 zz) pd pe (jO t6 t7 t8):=S3.l<|
 tF (tb λx2 bx2=>tv (Gk.ia (k:=.i64) bx2)<|tv (uf VE (.int .i64 x2) [])<|tF tE<|tE)<|tE
theorem wa:UQ 0 (.loop (cA RT 119)) (uR t6 t7 t8) pd pe (jO t6 t7 t8):=yA λ_=>CE _ _ _
end
theorem JQ{vals:(List Int)}:KD 56 [sl (cI .i64) vals] (CD vals) (λr=>.int .i64 r) []:=S3.v<|
 cO (Gk.ln vals)<|t2 (λo4 bo4=>dZ (wa vals (vals.length:Int) 0 _ bo4)<|tE) λo4 bo4=>dZ (wa vals (vals.length:Int) 0 _ bo4)<|tE
section
variable(R22:cK)(s1:(List aa))(s2:(List aa))(t12:Int)(t13:Int)
theorem n5(hR22:iG R22):Tt 0 (cA RU 55) (bv R22 s1 s2 t12 t13) (λ(zz:Int)=>bZ s1 s2 t12 zz) ej (dl s1 s2) (bZ s1 s2 t12 t13):=S4.lx<|
 tF (tb λx2 bx2=>tv (aZ.ia (k:=.i64) bx2)<|tv (al x2)<|tx vI<|tx (dz x2)<|cO (aZ.ln s2)<|tF tE<|tb λx4 bx4=>tb λr5 br5=>tv (aZ.ia (k:=.i64) bx4)<|tv (al x4)<|tx vI<|tx (dz x4)<|tv (aF x2 [])<|tv (aF x4 [])<|bz (hR22 _ _ _ br5)<|tF tE<|tE)<|tE
theorem i8(hR22:iG R22):UQ 0 (.loop (cA RU 55)) (fh R22 s1 s2 t12 t13) ej (dl s1 s2) (bZ s1 s2 t12 t13):=yA λ_=>n5 _ _ _ _ _ hR22
end
theorem rI(R22:cK)(hR22:iG R22){s1:(List aa)}{s2:(List aa)}:KD 60 [sl ac s1,sl ac s2,.func (.func 20) [] []] (eZ R22 s1 s2) (λr=>.int .i64 r) []:=S4.v<|
 cO (aZ.ln s1)<|t2 (λo7 bo7=>dZ (i8 R22 s1 s2 (s1.length:Int) 0 hR22 _ bo7)<|tE) λo7 bo7=>dZ (i8 R22 s1 s2 (s1.length:Int) 0 hR22 _ bo7)<|cO (aZ.ln s1)<|cO (aZ.ln s2)<|tF tE<|tE
theorem xD(R22:cK)(hR22:iG R22){a:aa}{a2:aa}:KD 20 [.agg (ac a),.agg (ac a2)] (gM R22 a a2) (λr=>.int .i64 r) []:=US.v<|
 tb λr1 br1=>tb λr2 br2=>tb λr3 br3=>tb λr4 br4=>tb λr5 br5=>tb λr6 br6=>tb λr7 br7=>te (bV a)<|te (bV a2)<|pG [0,1,0,7,15,0,32,0,128,511,0,1024,0,4096,16383,0,32768,0,131072,524287,1048575,2097151,4194303]<|tv (al a)<|bz (uI _ br1)<|tv (al a2)<|bz (uI _ br2)<|bz (rO _ br3)<|tw (aH a)<|tw (aH a2)<|bz (yl _ br4)<|tw (az a)<|tw (az a2)<|bz (rO _ br5)<|tw (aM a)<|tw (aM a2)<|bz (ym _ br6)<|tv (Gk.mk' (v:=(PVal.int .i64)) (Uw .i64) ([r3,r4,r5,r6]:List Int) 4 (by kernel_rfl))<|bz (JQ _ br7)<|tF tE<|tb λr9 br9=>tw (av a)<|tw (av a2)<|bz (rI R22 hR22 _ br9)<|tE
theorem zb{a:aa}{a2:aa}:KD 20 [.agg (ac a),.agg (ac a2)] (gZ a a2) (λr=>.int .i64 r) []:=lY λ_ h=>
 cd (F:=jC) (M:=λ(x:aa×aa) (r:Int)=>CC Pg OS 20 [.agg (ac x.1),.agg (ac x.2)] (.int .i64 r) []) (λrec hrec x r h=>xD _ (λa a2=>lY λr h=>hrec (a,a2) r h) _ h) h
theorem Pq:Tf OS=true:=by kernel_rfl
theorem OT(x:Nat×List PVal):x∈OS↔x∈GE:=by
 unfold OS
 split
 ·rename_i a r e
  rw[e]
  simp
 ·rename_i e
  rw[e]
end Go.Proofs.YtjddnhkahpfhdaaGreatDoor
