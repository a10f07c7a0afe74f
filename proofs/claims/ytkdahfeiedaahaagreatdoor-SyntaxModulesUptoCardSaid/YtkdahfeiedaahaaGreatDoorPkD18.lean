/- PROVED: a part of the proof. Conditions: none. -/
import Derived.Test.YtkdahfeiedaahaaGreatDoorPkD17
noncomputable section
namespace Go.Proofs.YtkdahfeiedaahaaGreatDoor
open Go Go.Proofs.Tryz
set_option linter.unusedVariables false
set_option maxRecDepth 100000
abbrev wy:=(af->waA->Bool->Option waA)
abbrev vX(R:wy):Prop:=∀(e:af) (bound:waA) (calls:Bool) (r:waA),R e bound calls=some r->CC Pg GE 86 [.agg (ac e),sl cS bound,.bool calls] (sl cS r) [(0,9)]
noncomputable def qcG:Code:=f93.body.getD .skip
def qcg:List Nat:=[]
theorem Z93:ZF qcg 93 f93 qcG:=⟨call93,func93,rfl⟩
def qn(a:waA)(s:ae):Option Bool:=
 (FW a s).bind fun r1=>
 some (decide (r1>=0))
theorem pB{a:waA}{s:ae}{r:Bool}(h:qn a s=some r):CC Pg GE 93 [sl cS a,.str s] (.bool r) []:=by
 obtain⟨r1,br1,h⟩:=ck h
 obtain rfl:=lf h
 have z:=cD (PH br1)<|en (aI (rP (.bool (decide (r1>=0))))<|trivial)
 exact Z93.v (aI (aj bz a) (aI trivial trivial)) z<|by kernel_rfl
noncomputable def S5:Code:=f114.body.getD .skip
def N6:List Nat:=[19,36,45]
theorem Z114:ZF N6 114 f114 S5:=⟨call114,func114,rfl⟩
section
variable(i:Int)(e:af)(out:waA)
def Ld:aB:=aS 46 [(1,.int .i64 i),(3,.eptr (ac e)),(7,sl cS out)] [.dead] [((7,0),9)]
def wu(o:Bool):aB:=aS 46 [(3,.eptr (ac e)),(7,sl cS out),(18,.bool o)] [.dead] [((7,0),9)]
def Ad:Option Bool:=
 if(e.Op==7)=true then
  some (decide (i>0))
 else
  some false
theorem JR{x:Bool}(h:Ad i e=some x):aW Pg GE 0 (cA S5 28) (EX .normal (wu e out x)) (Ld i e out):=by
 have p3:=fun{sc F} (r:PS sc F)=>sv (cK e)<|sv (cM e)<|r
 rcases aO h with⟨c2,h⟩|⟨c2,h⟩
 ·obtain rfl:=lf h
  exact bv N6 (p3<|sg 4 c2<|eF .normal (wu e out (decide (i>0))))<|by kernel_rfl
 ·obtain rfl:=lf h
  exact bv N6 (p3<|sg 4 c2<|eF .normal (wu e out false))<|by kernel_rfl
end
section
variable(i:Int)(e:af)(out:waA)
def Lc:aB:=aS 46 [(1,.int .i64 i),(3,.eptr (ac e)),(7,sl cS out)] [.dead] [((7,0),9)]
def wt(o:waA):aB:=aS 46 [(3,.eptr (ac e)),(7,sl cS o)] [.dead] [((7,0),9)]
def Ac:Option waA:=
 (Ad i e).bind fun o4=>
 if o4=true then
  (app out ([e.Name]:List ae)).bind fun l7=>
  some l7
 else
  some out
theorem JQ{x:waA}(h:Ac i e out=some x):aW Pg GE 0 (cA S5 14) (EX .normal (wt e x)) (Lc i e out):=by
 obtain⟨o4,bo4,h⟩:=ck h
 have p6:=fun{sc F} (r:PS sc F)=>nF 0<|cT (JR i e out bo4)<|r
 rcases aO h with⟨c5,h⟩|⟨c5,h⟩
 ·obtain⟨l7,bl7,h⟩:=ck h
  obtain rfl:=lf h
  exact bv N6 (p6<|sg 0 c5<|sv (da e)<|sv (dv e)<|sv (bN.mk' (v:=PVal.str) Ij ([e.Name]:List ae) 1 (by kernel_rfl))<|sv (bN.ap bl7)<|eF .normal (wt e l7))<|by kernel_rfl
 ·obtain rfl:=lf h
  exact bv N6 (p6<|sg 0 c5<|eF .normal (wt e out))<|by kernel_rfl
end
section
variable(e:af)(out:waA)(k:Int)
def Lf:aB:=aS 46 [(3,.eptr (ac e)),(7,sl cS out),(8,.int .i64 k)] [.dead] [((7,0),9)]
def wv(o:Bool):aB:=aS 46 [(3,.eptr (ac e)),(7,sl cS out),(8,.int .i64 k),(33,.bool o)] [.dead] [((7,0),9)]
def qr:Option Bool:=
 if(decide (k<(e.Params.length:Int)))=true then
  some (e.Op==6)
 else
  some false
theorem JS{x:Bool}(h:qr e k=some x):aW Pg GE 0 (cA S5 988) (EX .normal (wv e out k x)) (Lf e out k):=by
 have p10:=fun{sc F} (r:PS sc F)=>sv (bH e)<|sv (bJ e)<|bQ (lH.ln e.Params)<|r
 rcases aO h with⟨c9,h⟩|⟨c9,h⟩
 ·obtain rfl:=lf h
  exact bv N6 (p10<|sg 6 c9<|sv (cK e)<|sv (cM e)<|eF .normal (wv e out k (e.Op==6)))<|by kernel_rfl
 ·obtain rfl:=lf h
  exact bv N6 (p10<|sg 6 c9<|eF .normal (wv e out k false))<|by kernel_rfl
end
section
variable(e:af)(out:waA)(k:Int)
def qt:aB:=aS 46 [(3,.eptr (ac e)),(7,sl cS out),(8,.int .i64 k)] [.dead] [((7,0),9)]
def ww(o:waA):aB:=aS 46 [(7,sl cS o)] [.dead] [((7,0),9)]
def fy:Option ((waA×Int)⊕(waA)):=
 (qr e k).bind fun o11=>
 if o11=true then
  (eT e.Params k).bind fun x14=>
  (app out ([x14.Name]:List ae)).bind fun l15=>
  some (.inl (l15,bB (k+1)))
 else
  some (.inr out)
def u6:Option waA:=loop (fun(zz:waA×Int)=>fy e zz.1 zz.2) (out,k)
theorem HM{y:(waA×Int)⊕(waA)}(h:fy e out k=some y):aW Pg GE 0 (cA S5 247) (LQ (fun(zz:waA×Int)=>qt e zz.1 zz.2) (fun _=>.exit 0) ww y) (qt e out k):=by
 obtain⟨o11,bo11,h⟩:=ck h
 have p13:=fun{sc F} (r:PS sc F)=>nF 1<|cT (JS e out k bo11)<|r
 rcases aO h with⟨c12,h⟩|⟨c12,h⟩
 ·obtain⟨x14,bx14,l15,bl15,h⟩:=Zb2 h
  obtain rfl:=lf h
  exact wJ N6 (p13<|sg 0 c12<|sv (bH e)<|sv (bJ e)<|sv (lH.ia (k:=.i64) bx14)<|sv (qA x14)<|sv (tv x14)<|sv (bN.mk' (v:=PVal.str) Ij ([x14.Name]:List ae) 1 (by kernel_rfl))<|sv (bN.ap bl15)<|eF .normal (qt e l15 (bB (k+1))))<|by kernel_rfl
 ·obtain rfl:=lf h
  have z:=p13<|sg 0 c12<|eF (.exit 0) (ww out)
  exact hU N6 (Zn rfl) z<|by kernel_rfl
theorem JT{x:waA}(h:u6 e out k=some x):aW Pg GE 0 (.loop (cA S5 247)) (EX (.exit 0) (ww x)) (qt e out k):=
 ZL h fun _ _ hy=>HM _ _ _ hy
end
def Df(e:af)(i:Int)(bound:waA):Option waA:=
 (app ([]:List ae) bound).bind fun l1=>
 (Ac i e l1).bind fun o8=>
 (u6 e o8 0).bind fun o16=>
 some o16
theorem Om{e:af}{i:Int}{bound:waA}{r:waA}(h:Df e i bound=some r):CC Pg GE 114 [.agg (ac e),.int .i64 i,sl cS bound] (sl cS r) [(0,9)]:=by
 obtain⟨l1,bl1,o8,bo8,o16,bo16,h⟩:=Zb3 h
 obtain rfl:=lf h
 have z:=se (cF e)<|sv (bN.mk' (v:=PVal.str) Ij ([]:List ae) 0 (by kernel_rfl))<|sv (bN.ap bl1)<|nF 0<|cT (JQ i e l1 bo8)<|cT (JT e o8 0 bo16)<|en (aI (rP (sl cS o16))<|(aj bz o16))
 exact Z114.v (aI (az e) (aI trivial (aI (aj bz bound) trivial))) z<|by kernel_rfl
noncomputable def XI:Code:=f86.body.getD .skip
def Uk:List Nat:=[30,42,72,83]
theorem Z86:ZF Uk 86 f86 XI:=⟨call86,func86,rfl⟩
section
variable(bound:waA)(calls:Bool)(e:af)
def ML:aB:=aS 84 [(1,sl cS bound),(2,.bool calls),(3,.eptr (ac e)),(7,sl cS ([]:List ae))] [.dead] [((7,0),9)]
def oD(o:Bool):aB:=aS 84 [(1,sl cS bound),(2,.bool calls),(3,.eptr (ac e)),(7,sl cS ([]:List ae)),(29,.bool o)] [.dead] [((7,0),9)]
def BY:Option Bool:=
 if(e.Op==5)=true then
  (qn bound e.Name).bind fun r3=>
  some (!r3)
 else
  if(e.Op==3)=true then
   if(!calls)=true then
    (qn bound e.Name).bind fun r8=>
    some (!r8)
   else
    some false
  else
   some false
theorem K6{x:Bool}(h:BY bound calls e=some x):aW Pg GE 0 (cA XI 28) (EX .normal (oD bound calls e x)) (ML bound calls e):=by
 have p2:=fun{sc F} (r:PS sc F)=>sv (cK e)<|sv (cM e)<|r
 rcases aO h with⟨c1,h⟩|⟨c1,h⟩
 ·obtain⟨r3,br3,h⟩:=ck h
  obtain rfl:=lf h
  exact bv Uk (p2<|sg 4 c1<|sv (da e)<|sv (dv e)<|cD (pB br3)<|eF .normal (oD bound calls e (!r3)))<|by kernel_rfl
 ·have p5:=fun{sc F} (r:PS sc F)=>p2<|sg 4 c1<|sv (cK e)<|sv (cM e)<|r
  rcases aO h with⟨c4,h⟩|⟨c4,h⟩
  ·have p7:=fun{sc F} (r:PS sc F)=>p5<|sg 8 c4<|r
   rcases aO h with⟨c6,h⟩|⟨c6,h⟩
   ·obtain⟨r8,br8,h⟩:=ck h
    obtain rfl:=lf h
    exact bv Uk (p7<|sg 13 c6<|sv (da e)<|sv (dv e)<|cD (pB br8)<|eF .normal (oD bound calls e (!r8)))<|by kernel_rfl
   ·obtain rfl:=lf h
    exact bv Uk (p7<|sg 13 c6<|eF .normal (oD bound calls e false))<|by kernel_rfl
  ·obtain rfl:=lf h
   exact bv Uk (p5<|sg 8 c4<|eF .normal (oD bound calls e false))<|by kernel_rfl
end
section
variable(bound:waA)(calls:Bool)(e:af)
def MK:aB:=aS 84 [(1,sl cS bound),(2,.bool calls),(3,.eptr (ac e)),(7,sl cS ([]:List ae))] [.dead] [((7,0),9)]
def yE(o:waA):aB:=aS 84 [(1,sl cS bound),(2,.bool calls),(3,.eptr (ac e)),(7,sl cS o)] [.dead] [((7,0),9)]
def xz:Option waA:=
 (BY bound calls e).bind fun o9=>
 if o9=true then
  (app ([]:List ae) ([e.Name]:List ae)).bind fun l12=>
  some l12
 else
  some ([]:List ae)
theorem K5{x:waA}(h:xz bound calls e=some x):aW Pg GE 0 (cA XI 14) (EX .normal (yE bound calls e x)) (MK bound calls e):=by
 obtain⟨o9,bo9,h⟩:=ck h
 have p11:=fun{sc F} (r:PS sc F)=>nF 0<|cT (K6 bound calls e bo9)<|r
 rcases aO h with⟨c10,h⟩|⟨c10,h⟩
 ·obtain⟨l12,bl12,h⟩:=ck h
  obtain rfl:=lf h
  exact bv Uk (p11<|sg 0 c10<|sv (da e)<|sv (dv e)<|sv (bN.mk' (v:=PVal.str) Ij ([e.Name]:List ae) 1 (by kernel_rfl))<|sv (bN.ap bl12)<|eF .normal (yE bound calls e l12))<|by kernel_rfl
 ·obtain rfl:=lf h
  exact bv Uk (p11<|sg 0 c10<|eF .normal (yE bound calls e ([]:List ae)))<|by kernel_rfl
end
section
variable(R146:wy)(bound:waA)(calls:Bool)(e:af)(out:waA)(i:Int)
def tk:aB:=aS 84 [(1,sl cS bound),(2,.bool calls),(3,.eptr (ac e)),(7,sl cS out),(8,.int .i64 i)] [.dead] [((7,0),9)]
def yF(o:waA):aB:=aS 84 [(1,sl cS bound),(2,.bool calls),(3,.eptr (ac e)),(7,sl cS o)] [.dead] [((7,0),9)]
def j7:Option ((waA×Int)⊕(waA)):=
 if(decide (i<(e.Kids.length:Int)))=true then
  (eT e.Kids i).bind fun x16=>
  (Df e i bound).bind fun r17=>
  (R146 x16 r17 calls).bind fun r18=>
  (app out r18).bind fun l19=>
  some (.inl (l19,bB (i+1)))
 else
  some (.inr out)
def xC:Option waA:=loop (fun(zz:waA×Int)=>j7 R146 bound calls e zz.1 zz.2) (out,i)
theorem JI(hR146:vX R146){y:(waA×Int)⊕(waA)}(h:j7 R146 bound calls e out i=some y):aW Pg GE 0 (cA XI 247) (LQ (fun(zz:waA×Int)=>tk bound calls e zz.1 zz.2) (fun _=>.exit 0) (yF bound calls e) y) (tk bound calls e out i):=by
 have p15:=fun{sc F} (r:PS sc F)=>sv (ba e)<|sv (be e)<|bQ (fQ.ln e.Kids)<|r
 rcases aO h with⟨c14,h⟩|⟨c14,h⟩
 ·obtain⟨x16,bx16,r17,br17,r18,br18,l19,bl19,h⟩:=Zb4 h
  obtain rfl:=lf h
  exact wJ Uk (p15<|sg 0 c14<|G0 [0,0,2,0,14,30,0,0,0,448,0,2046,4095,8191]<|sv (ba e)<|sv (be e)<|sv (fQ.ia (k:=.i64) bx16)<|sv (bM x16)<|sv (bM e)<|cD (Om br17)<|cD (hR146 _ _ _ _ br18)<|sv (bN.ap bl19)<|eF .normal (tk bound calls e l19 (bB (i+1))))<|by kernel_rfl
 ·obtain rfl:=lf h
  have z:=p15<|sg 0 c14<|eF (.exit 0) (yF bound calls e out)
  exact hU Uk (Zn rfl) z<|by kernel_rfl
theorem K7(hR146:vX R146){x:waA}(h:xC R146 bound calls e out i=some x):aW Pg GE 0 (.loop (cA XI 247)) (EX (.exit 0) (yF bound calls e x)) (tk bound calls e out i):=
 ZL h fun _ _ hy=>JI _ _ _ _ _ _ hR146 hy
end
section
variable(R146:wy)(bound:waA)(calls:Bool)(e:af)(out:waA)(i:Int)
def tn:aB:=aS 84 [(1,sl cS bound),(2,.bool calls),(3,.eptr (ac e)),(7,sl cS out),(9,.int .i64 i)] [.dead] [((7,0),9)]
def yG(o:waA):aB:=aS 84 [(7,sl cS o)] [.dead] [((7,0),9)]
def j8:Option ((waA×Int)⊕(waA)):=
 if(decide (i<(e.Alts.length:Int)))=true then
  (app ([]:List ae) bound).bind fun l23=>
  (eT e.Alts i).bind fun x24=>
  (app l23 x24.Names).bind fun l25=>
  (eT e.Alts i).bind fun x26=>
  (R146 x26.Body l25 calls).bind fun r27=>
  (app out r27).bind fun l28=>
  some (.inl (l28,bB (i+1)))
 else
  some (.inr out)
def xD:Option waA:=loop (fun(zz:waA×Int)=>j8 R146 bound calls e zz.1 zz.2) (out,i)
theorem JJ(hR146:vX R146){y:(waA×Int)⊕(waA)}(h:j8 R146 bound calls e out i=some y):aW Pg GE 0 (cA XI 503) (LQ (fun(zz:waA×Int)=>tn bound calls e zz.1 zz.2) (fun _=>.exit 2) yG y) (tn bound calls e out i):=by
 have p22:=fun{sc F} (r:PS sc F)=>sv (aG e)<|sv (aH e)<|bQ (eZ.ln e.Alts)<|r
 rcases aO h with⟨c21,h⟩|⟨c21,h⟩
 ·obtain⟨l23,bl23,x24,bx24,l25,bl25,x26,bx26,h⟩:=Zb4 h
  obtain⟨r27,br27,l28,bl28,h⟩:=Zb2 h
  obtain rfl:=lf h
  exact wJ Uk (p22<|sg 0 c21<|G0 [0,0,3,0,8,0,56,120,248,511,1023]<|sv (bN.mk' (v:=PVal.str) Ij ([]:List ae) 0 (by kernel_rfl))<|sv (bN.ap bl23)<|sv (aG e)<|sv (aH e)<|sv (eZ.ia (k:=.i64) bx24)<|sv (qy x24)<|sv (qE x24)<|sv (bN.ap bl25)<|sv (aG e)<|sv (aH e)<|sv (eZ.ia (k:=.i64) bx26)<|sv (qz x26)<|sv (qF x26)<|cD (hR146 _ _ _ _ br27)<|sv (bN.ap bl28)<|eF .normal (tn bound calls e l28 (bB (i+1))))<|by kernel_rfl
 ·obtain rfl:=lf h
  have z:=p22<|sg 0 c21<|eF (.exit 2) (yG out)
  exact hU Uk (Zn rfl) z<|by kernel_rfl
theorem K8(hR146:vX R146){x:waA}(h:xD R146 bound calls e out i=some x):aW Pg GE 0 (.loop (cA XI 503)) (EX (.exit 2) (yG x)) (tn bound calls e out i):=
 ZL h fun _ _ hy=>JJ _ _ _ _ _ _ hR146 hy
end
def z7(R146:wy)(e:af)(bound:waA)(calls:Bool):Option waA:=
 (xz bound calls e).bind fun o13=>
 (xC R146 bound calls e o13 0).bind fun o20=>
 (xD R146 bound calls e o20 0).bind fun o29=>
 some o29
theorem Oj(R146:wy)(hR146:vX R146){e:af}{bound:waA}{calls:Bool}{r:waA}(h:z7 R146 e bound calls=some r):CC Pg GE 86 [.agg (ac e),sl cS bound,.bool calls] (sl cS r) [(0,9)]:=by
 obtain⟨o13,bo13,o20,bo20,o29,bo29,h⟩:=Zb3 h
 obtain rfl:=lf h
 have z:=se (cF e)<|nF 1<|cT (K5 bound calls e bo13)<|cT (K7 R146 bound calls e o13 0 hR146 bo20)<|cT (K8 R146 bound calls e o20 0 hR146 bo29)<|en (aI (rP (sl cS o29))<|(aj bz o29))
 exact Z86.v (aI (az e) (aI (aj bz bound) (aI trivial trivial))) z<|by kernel_rfl
def EW:((af×waA×Bool)->Option waA)->(af×waA×Bool)->Option waA:=fun(rec:(af×waA×Bool)->Option waA) (x:af×waA×Bool)=>z7 (fun e bound calls=>rec (e,bound,calls)) x.1 x.2.1 x.2.2
def K4(e:af)(bound:waA)(calls:Bool):Option waA:=rE EW (e,bound,calls)
theorem PK{e:af}{bound:waA}{calls:Bool}{r:waA}(h:K4 e bound calls=some r):CC Pg GE 86 [.agg (ac e),sl cS bound,.bool calls] (sl cS r) [(0,9)]:=
 ek (F:=EW) (M:=fun(x:af×waA×Bool) (r:waA)=>CC Pg GE 86 [.agg (ac x.1),sl cS x.2.1,.bool x.2.2] (sl cS r) [(0,9)]) (fun rec hrec x r h=>Oj _ (fun e bound calls r h=>hrec (e,bound,calls) r h) h) h
noncomputable def S6:Code:=f128.body.getD .skip
def N7:List Nat:=[19,28,46,51]
theorem Z128:ZF N7 128 f128 S6:=⟨call128,func128,rfl⟩
section
variable(v:waA)(s:ae)(out:waA)(i:Int)
def Ob:aB:=aS 52 [(0,sl cS v),(1,.str s),(5,sl cS out),(6,.int .i64 i)] [] [((5,0),9)]
def zQ(o:Bool):aB:=aS 52 [(0,sl cS v),(1,.str s),(5,sl cS out),(6,.int .i64 i),(18,.bool o)] [] [((5,0),9)]
def sj:Option Bool:=
 if(decide (i<(v.length:Int)))=true then
  (eT v i).bind fun x2=>
  some (Op.bytesLess x2 s)
 else
  some false
theorem Mw{x:Bool}(h:sj v s i=some x):aW Pg GE 0 (cA S6 492) (EX .normal (zQ v s out i x)) (Ob v s out i):=by
 rcases aO h with⟨c1,h⟩|⟨c1,h⟩
 ·obtain⟨x2,bx2,h⟩:=ck h
  obtain rfl:=lf h
  exact bv N7 (bQ (bN.ln v)<|sg 5 c1<|sv (bN.ia (k:=.i64) bx2)<|sv (b8 AF (.str x2) [])<|eF .normal (zQ v s out i (Op.bytesLess x2 s)))<|by kernel_rfl
 ·obtain rfl:=lf h
  exact bv N7 (bQ (bN.ln v)<|sg 5 c1<|eF .normal (zQ v s out i false))<|by kernel_rfl
end
section
variable(v:waA)(s:ae)(out:waA)(i:Int)
def uR:aB:=aS 52 [(0,sl cS v),(1,.str s),(5,sl cS out),(6,.int .i64 i)] [] [((5,0),9)]
def zU(o:waA×Int):aB:=aS 52 [(0,sl cS v),(1,.str s),(5,sl cS o.1),(6,.int .i64 o.2)] [] [((5,0),9)]
def qi:Option ((waA×Int)⊕((waA×Int))):=
 (sj v s i).bind fun o3=>
 if o3=true then
  (eT v i).bind fun x6=>
  (app out ([x6]:List ae)).bind fun l7=>
  some (.inl (l7,bB (i+1)))
 else
  some (.inr (out,i))
def ES:Option ((waA×Int)):=loop (fun(zz:waA×Int)=>qi v s zz.1 zz.2) (out,i)
theorem KE{y:(waA×Int)⊕((waA×Int))}(h:qi v s out i=some y):aW Pg GE 0 (cA S6 123) (LQ (fun(zz:waA×Int)=>uR v s zz.1 zz.2) (fun _=>.exit 0) (zU v s) y) (uR v s out i):=by
 obtain⟨o3,bo3,h⟩:=ck h
 have p5:=fun{sc F} (r:PS sc F)=>nF 1<|cT (Mw v s out i bo3)<|r
 rcases aO h with⟨c4,h⟩|⟨c4,h⟩
 ·obtain⟨x6,bx6,l7,bl7,h⟩:=Zb2 h
  obtain rfl:=lf h
  exact wJ N7 (p5<|sg 0 c4<|sv (bN.ia (k:=.i64) bx6)<|sv (b8 AF (.str x6) [])<|sv (bN.mk' (v:=PVal.str) Ij ([x6]:List ae) 1 (by kernel_rfl))<|sv (bN.ap bl7)<|eF .normal (uR v s l7 (bB (i+1))))<|by kernel_rfl
 ·obtain rfl:=lf h
  have z:=p5<|sg 0 c4<|eF (.exit 0) (zU v s (out,i))
  exact hU N7 (Zn rfl) z<|by kernel_rfl
theorem Mz{x:(waA×Int)}(h:ES v s out i=some x):aW Pg GE 0 (.loop (cA S6 123)) (EX (.exit 0) (zU v s x)) (uR v s out i):=
 ZL h fun _ _ hy=>KE _ _ _ _ hy
end
section
variable(v:waA)(s:ae)(out:waA)(i:Int)
def Od:aB:=aS 52 [(0,sl cS v),(1,.str s),(5,sl cS out),(6,.int .i64 i)] [] [((5,0),9)]
def zT(o:Bool):aB:=aS 52 [(0,sl cS v),(5,sl cS out),(6,.int .i64 i),(43,.bool o)] [] [((5,0),9)]
def ER:Option Bool:=
 if(decide (i<(v.length:Int)))=true then
  (eT v i).bind fun x11=>
  some (x11==s)
 else
  some false
theorem My{x:Bool}(h:ER v s i=some x):aW Pg GE 0 (cA S6 252) (EX .normal (zT v out i x)) (Od v s out i):=by
 rcases aO h with⟨c10,h⟩|⟨c10,h⟩
 ·obtain⟨x11,bx11,h⟩:=ck h
  obtain rfl:=lf h
  exact bv N7 (bQ (bN.ln v)<|sg 5 c10<|sv (bN.ia (k:=.i64) bx11)<|sv (b8 AF (.str x11) [])<|eF .normal (zT v out i (x11==s)))<|by kernel_rfl
 ·obtain rfl:=lf h
  exact bv N7 (bQ (bN.ln v)<|sg 5 c10<|eF .normal (zT v out i false))<|by kernel_rfl
end
section
variable(v:waA)(s:ae)(out:waA)(i:Int)
def Oc:aB:=aS 52 [(0,sl cS v),(1,.str s),(5,sl cS out),(6,.int .i64 i)] [] [((5,0),9)]
def zS(o:Int):aB:=aS 52 [(0,sl cS v),(5,sl cS out),(6,.int .i64 o)] [] [((5,0),9)]
def zR:Option Int:=
 (ER v s i).bind fun o12=>
 if o12=true then
  some (bB (i+1))
 else
  some i
theorem Mx{x:Int}(h:zR v s i=some x):aW Pg GE 0 (cA S6 126) (EX .normal (zS v out x)) (Oc v s out i):=by
 obtain⟨o12,bo12,h⟩:=ck h
 have p14:=fun{sc F} (r:PS sc F)=>nF 0<|cT (My v s out i bo12)<|r
 rcases aO h with⟨c13,h⟩|⟨c13,h⟩
 ·obtain rfl:=lf h
  exact bv N7 (p14<|sg 0 c13<|eF .normal (zS v out (bB (i+1))))<|by kernel_rfl
 ·obtain rfl:=lf h
  exact bv N7 (p14<|sg 0 c13<|eF .normal (zS v out i))<|by kernel_rfl
end
def FX(a:waA)(s:ae):Option waA:=
 (ES a s ([]:List ae) 0).bind fun o8=>
 (app o8.1 ([s]:List ae)).bind fun l9=>
 (zR a s o8.2).bind fun o15=>
 (WW a (some o15) none).bind fun l16=>
 (app l9 l16).bind fun l17=>
 some l17
theorem KG{a:waA}{s:ae}{r:waA}(h:FX a s=some r):CC Pg GE 128 [sl cS a,.str s] (sl cS r) [(0,9)]:=by
 obtain⟨o8,bo8,l9,bl9,o15,bo15,l16,bl16,h⟩:=Zb4 h
 obtain⟨l17,bl17,h⟩:=ck h
 obtain rfl:=lf h
 have z:=cT (Mz a s ([]:List ae) 0 bo8)<|sv (bN.mk' (v:=PVal.str) Ij ([s]:List ae) 1 (by kernel_rfl))<|sv (bN.ap bl9)<|nF 0<|cT (Mx a s l9 o8.2 bo15)<|sv (bN.sc bl16)<|sv (bN.ap bl17)<|en (aI (rP (sl cS l17))<|(aj bz l17))
 exact Z128.v (aI (aj bz a) (aI trivial trivial)) z<|by kernel_rfl
noncomputable def YQ:Code:=f85.body.getD .skip
def Yy:List Nat:=[12,24,32]
theorem Z85:ZF Yy 85 f85 YQ:=⟨call85,func85,rfl⟩
section
variable(v:waA)(v2:waA)(t9:Int)(out:waA)(t10:Int)
def qg:aB:=aS 33 [(0,sl cS v),(1,sl cS v2),(5,sl cS out),(9,.int .i64 t9),(10,.int .i64 t10)] [] [((5,0),9)]
def vY(o:waA):aB:=aS 33 [(1,sl cS v2),(5,sl cS o)] [] [((5,0),9)]
def mV:Option ((waA×Int)⊕(waA)):=
 if(decide (t10<t9))=true then
  (eT v t10).bind fun x2=>
  (FX out x2).bind fun r3=>
  some (.inl (r3,bB (t10+1)))
 else
  some (.inr out)
def zO:Option waA:=loop (fun(zz:waA×Int)=>mV v t9 zz.1 zz.2) (out,t10)
theorem Hx{y:(waA×Int)⊕(waA)}(h:mV v t9 out t10=some y):aW Pg GE 0 (cA YQ 119) (LQ (fun(zz:waA×Int)=>qg v v2 t9 zz.1 zz.2) (fun _=>.exit 0) (vY v2) y) (qg v v2 t9 out t10):=by
 rcases aO h with⟨c1,h⟩|⟨c1,h⟩
 ·obtain⟨x2,bx2,r3,br3,h⟩:=Zb2 h
  obtain rfl:=lf h
  exact wJ Yy (sg 0 c1<|sv (bN.ia (k:=.i64) bx2)<|sv (b8 AF (.str x2) [])<|cD (KG br3)<|eF .normal (qg v v2 t9 r3 (bB (t10+1))))<|by kernel_rfl
 ·obtain rfl:=lf h
  have z:=sg 0 c1<|eF (.exit 0) (vY v2 out)
  exact hU Yy (Zn rfl) z<|by kernel_rfl
theorem Jq{x:waA}(h:zO v t9 out t10=some x):aW Pg GE 0 (.loop (cA YQ 119)) (EX (.exit 0) (vY v2 x)) (qg v v2 t9 out t10):=
 ZL h fun _ _ hy=>Hx _ _ _ _ _ hy
end
section
variable(v:waA)(t21:Int)(out:waA)(t22:Int)
def qh:aB:=aS 33 [(1,sl cS v),(5,sl cS out),(21,.int .i64 t21),(22,.int .i64 t22)] [] [((5,0),9)]
def vZ(o:waA):aB:=aS 33 [(5,sl cS o)] [] [((5,0),9)]
def mW:Option ((waA×Int)⊕(waA)):=
 if(decide (t22<t21))=true then
  (eT v t22).bind fun x6=>
  (FX out x6).bind fun r7=>
  some (.inl (r7,bB (t22+1)))
 else
  some (.inr out)
def zP:Option waA:=loop (fun(zz:waA×Int)=>mW v t21 zz.1 zz.2) (out,t22)
theorem Hy{y:(waA×Int)⊕(waA)}(h:mW v t21 out t22=some y):aW Pg GE 0 (cA YQ 247) (LQ (fun(zz:waA×Int)=>qh v t21 zz.1 zz.2) (fun _=>.exit 2) vZ y) (qh v t21 out t22):=by
 rcases aO h with⟨c5,h⟩|⟨c5,h⟩
 ·obtain⟨x6,bx6,r7,br7,h⟩:=Zb2 h
  obtain rfl:=lf h
  exact wJ Yy (sg 0 c5<|sv (bN.ia (k:=.i64) bx6)<|sv (b8 AF (.str x6) [])<|cD (KG br7)<|eF .normal (qh v t21 r7 (bB (t22+1))))<|by kernel_rfl
 ·obtain rfl:=lf h
  have z:=sg 0 c5<|eF (.exit 2) (vZ out)
  exact hU Yy (Zn rfl) z<|by kernel_rfl
theorem Jr{x:waA}(h:zP v t21 out t22=some x):aW Pg GE 0 (.loop (cA YQ 247)) (EX (.exit 2) (vZ x)) (qh v t21 out t22):=
 ZL h fun _ _ hy=>Hy _ _ _ _ hy
end
def Db(a:waA)(a2:waA):Option waA:=
 (zO a (a.length:Int) ([]:List ae) 0).bind fun o4=>
 (zP a2 (a2.length:Int) o4 0).bind fun o8=>
 some o8
theorem Oa{a:waA}{a2:waA}{r:waA}(h:Db a a2=some r):CC Pg GE 85 [sl cS a,sl cS a2] (sl cS r) [(0,9)]:=by
 obtain⟨o4,bo4,o8,bo8,h⟩:=Zb2 h
 obtain rfl:=lf h
 have z:=bQ (bN.ln a)<|cT (Jq a a2 (a.length:Int) ([]:List ae) 0 bo4)<|bQ (bN.ln a2)<|cT (Jr a2 (a2.length:Int) o4 0 bo8)<|en (aI (rP (sl cS o8))<|(aj bz o8))
 exact Z85.v (aI (aj bz a) (aI (aj bz a2) trivial)) z<|by kernel_rfl
abbrev dN:=(af->waA->waA->Option waA)
abbrev dM(R:dN):Prop:=∀(e:af) (hidden:waA) (k0:waA) (r:waA),R e hidden k0=some r->C Pg GE 79 [.agg (ac e),sl cS hidden,.func (.func 87) [] [.bptr 0 0]] [] [.cells [sl cS k0] [(0,9)]] (.tuple []) [] [.cells [sl cS r] [(0,9)]]
noncomputable def qcF:Code:=f87.body.getD .skip
def qcf:List Nat:=[6]
theorem Z87:ZF qcf 87 f87 qcF:=⟨call87,func87,rfl⟩
def qW(a:af)(k0:waA):Option waA:=
 if(a.Op==5)=true then
  (app k0 ([a.Name]:List ae)).bind fun l3=>
  some l3
 else
  some k0
theorem G5{a:af}{k0:waA}{r:waA}(h:qW a k0=some r):C Pg GE 87 [.agg (ac a),.bptr 0 0] [] [.cells [sl cS k0] [(0,9)]] (.tuple []) [] [.cells [sl cS r] [(0,9)]]:=by
 have p2:=fun{sc F} (r:PS sc F)=>se (cF a)<|sv (cK a)<|sv (cM a)<|r
 rcases aO h with⟨c1,h⟩|⟨c1,h⟩
 ·obtain⟨l3,bl3,h⟩:=ck h
  obtain rfl:=lf h
  have z:=p2<|sg 0 c1<|sv (da a)<|sv (dv a)<|sv (bN.mk' (v:=PVal.str) Ij ([a.Name]:List ae) 1 (by kernel_rfl))<|sv (bN.ap bl3)<|en (aI (rP (.tuple []))<|aI trivial<|aI (rL [.cells [sl cS l3] [(0,9)]])<|(aI (aI (up (n:=1) (aj bz l3)) trivial) trivial))
  exact Z87.g (m:=1) rfl z<|by kernel_rfl
 ·obtain rfl:=lf h
  have z:=p2<|sg 0 c1<|en (aI (rP (.tuple []))<|aI trivial<|aI (rL [.cells [sl cS k0] [(0,9)]])<|(aI (aI (up (n:=1) (aj bz k0)) trivial) trivial))
  exact Z87.g (m:=1) rfl z<|by kernel_rfl
section
variable(hidden:waA)(e:af)(m:waA)
def rJ:aB:=aS 57 [(1,sl cS hidden),(2,.func (.func 87) [] [.bptr 0 0]),(3,.eptr (ac e))] [.cells [sl cS m] [(0,9)],.dead] []
def fT(o:Bool):aB:=aS 57 [(1,sl cS hidden),(2,.func (.func 87) [] [.bptr 0 0]),(3,.eptr (ac e)),(18,.bool o)] [.cells [sl cS m] [(0,9)],.dead] []
def hO:Option Bool:=
 (fj e).bind fun r1=>
 if r1=true then
  (ka hidden e.Name).bind fun r4=>
  some (decide (r4<0))
 else
  some false
theorem rj{x:Bool}(h:hO hidden e=some x):aW Pg GE 1 (cA Sj 12) (EX .normal (fT hidden e m x)) (rJ hidden e m):=by
 obtain⟨r1,br1,h⟩:=ck h
 have p3:=fun{sc F} (r:PS sc F)=>sv (bM e)<|cD (jj br1)<|r
 rcases aO h with⟨c2,h⟩|⟨c2,h⟩
 ·obtain⟨r4,br4,h⟩:=ck h
  obtain rfl:=lf h
  exact bv PB (p3<|sg 3 c2<|sv (da e)<|sv (dv e)<|cD (oI br4)<|eF .normal (fT hidden e m (decide (r4<0))))<|by kernel_rfl
 ·obtain rfl:=lf h
  exact bv PB (p3<|sg 3 c2<|eF .normal (fT hidden e m false))<|by kernel_rfl
end
section
variable(hidden:waA)(e:af)(m:waA)
def rI:aB:=aS 57 [(1,sl cS hidden),(2,.func (.func 87) [] [.bptr 0 0]),(3,.eptr (ac e))] [.cells [sl cS m] [(0,9)],.dead] []
def fS(o:waA):aB:=aS 57 [(1,sl cS hidden),(2,.func (.func 87) [] [.bptr 0 0]),(3,.eptr (ac e))] [.cells [sl cS o] [(0,9)],.dead] []
def g9:Option waA:=
 (hO hidden e).bind fun o5=>
 if o5=true then
  (qW e m).bind fun r8=>
  some r8
 else
  some m
theorem ri{x:waA}(h:g9 hidden e m=some x):aW Pg GE 1 (cA Sj 6) (EX .normal (fS hidden e x)) (rI hidden e m):=by
 obtain⟨o5,bo5,h⟩:=ck h
 have p7:=fun{sc F} (r:PS sc F)=>nF 0<|cT (rj hidden e m bo5)<|r
 rcases aO h with⟨c6,h⟩|⟨c6,h⟩
 ·obtain⟨r8,br8,h⟩:=ck h
  obtain rfl:=lf h
  exact bv PB (p7<|sg 0 c6<|sv (bM e)<|si (.cg ⟨[0],[.agg (ac e),.bptr 0 0],[],[.cells [sl cS m] [(0,9)]],[.cells [sl cS m] [(0,9)]],[.cells [sl cS r8] [(0,9)]],[.cells [sl cS r8] [(0,9)]],.tuple [],.tuple [],[]⟩) (G5 br8)<|sf (aI (xR [0] (.agg (ac e)) (az e)) (aI (xB [0] 0 0 0 rfl) trivial))<|sf (aI (aI (rB (.cells [sl cS m] [(0,9)])) (aI (rW [(0,9)]) (aI (xR [0] (sl cS m) (aj bz m)) trivial))) trivial)<|sf (aI (aI (rW [(0,9)]) (aI (xR [0] (sl cS r8) (aj bz r8)) trivial)) trivial)<|sf (xR [0] (.tuple []) trivial)<|eF .normal (fS hidden e r8))<|by kernel_rfl
 ·obtain rfl:=lf h
  exact bv PB (p7<|sg 0 c6<|eF .normal (fS hidden e m))<|by kernel_rfl
end
section
variable(R152:dN)(hidden:waA)(e:af)(t23:waF)(t24:Int)(t25:Int)(m:waA)
def ei:aB:=aS 57 [(1,sl cS hidden),(2,.func (.func 87) [] [.bptr 0 0]),(3,.eptr (ac e)),(23,sl ac t23),(24,.int .i64 t24),(25,.int .i64 t25)] [.cells [sl cS m] [(0,9)],.dead] []
def fU(o:waA):aB:=aS 57 [(1,sl cS hidden),(2,.func (.func 87) [] [.bptr 0 0]),(3,.eptr (ac e))] [.cells [sl cS o] [(0,9)],.dead] []
def bY:Option ((Int×waA)⊕(waA)):=
 if(decide (t25<t24))=true then
  (eT t23 t25).bind fun x11=>
  (pC hidden).bind fun r12=>
  (oQ e t25).bind fun r13=>
  (app r12 r13).bind fun l14=>
  (R152 x11 l14 m).bind fun r15=>
  some (.inl (bB (t25+1),r15))
 else
  some (.inr m)
def eX:Option waA:=loop (fun(zz:Int×waA)=>bY R152 hidden e t23 t24 zz.1 zz.2) (t25,m)
theorem qd(hR152:dM R152){y:(Int×waA)⊕(waA)}(h:bY R152 hidden e t23 t24 t25 m=some y):aW Pg GE 1 (cA Sj 119) (LQ (fun(zz:Int×waA)=>ei hidden e t23 t24 zz.1 zz.2) (fun _=>.exit 0) (fU hidden e) y) (ei hidden e t23 t24 t25 m):=by
 rcases aO h with⟨c10,h⟩|⟨c10,h⟩
 ·obtain⟨x11,bx11,r12,br12,r13,br13,l14,bl14,h⟩:=Zb4 h
  obtain⟨r15,br15,h⟩:=ck h
  obtain rfl:=lf h
  have z:=sg 0 c10<|sv (fQ.ia (k:=.i64) bx11)<|sv (bM x11)<|sx AD<|sx (kF x11)<|sk<|X8 (.dx [0,0,2,0,0,30,62,0] [] [] [])<|sv (bW x11 [])<|cD (tJ br12)<|sv (bM e)<|cD (zB br13)<|sv (bN.ap bl14)<|si (.cg ⟨[0],[.agg (ac x11),sl cS l14,.func (.func 87) [] [.bptr 0 0]],[],[.cells [sl cS m] [(0,9)]],[.cells [sl cS m] [(0,9)]],[.cells [sl cS r15] [(0,9)]],[.cells [sl cS r15] [(0,9)]],.tuple [],.tuple [],[]⟩) (hR152 _ _ _ _ br15)<|sf (aI (xR [0] (.agg (ac x11)) (az x11)) (aI (xR [0] (sl cS l14) (aj bz l14)) (aI (xF [0] (.func 87) [] [.bptr 0 0] [] [.bptr 0 0] trivial (aI (xB [0] 0 0 0 rfl) trivial)) trivial)))<|sf (aI (aI (rB (.cells [sl cS m] [(0,9)])) (aI (rW [(0,9)]) (aI (xR [0] (sl cS m) (aj bz m)) trivial))) trivial)<|sf (aI (aI (rW [(0,9)]) (aI (xR [0] (sl cS r15) (aj bz r15)) trivial)) trivial)<|sf (xR [0] (.tuple []) trivial)<|tr 1 .normal (ei hidden e t23 t24 (bB (t25+1)) r15) rfl (du (aI (up (aj bz hidden)) (aI (aI trivial (aI (aT rfl) trivial)) (aI (a8 (az e)) (aI (up (aj az t23)) (aI trivial (aI trivial trivial))))))) (aI (aI (up (aj bz r15)) trivial) (aI trivial trivial))
  exact dy (A:=PB) mixed z<|by kernel_rfl
 ·obtain rfl:=lf h
  have z:=sg 0 c10<|eF (.exit 0) (fU hidden e m)
  exact hU PB (Zn rfl) z<|by kernel_rfl
theorem rl(hR152:dM R152){x:waA}(h:eX R152 hidden e t23 t24 t25 m=some x):aW Pg GE 1 (.loop (cA Sj 119)) (EX (.exit 0) (fU hidden e x)) (ei hidden e t23 t24 t25 m):=
 ZL h fun _ _ hy=>qd _ hidden _ _ _ _ _ hR152 hy
end
section
variable(R152:dN)(hidden:waA)(t41:waD)(t42:Int)(t43:Int)(m:waA)
def ej:aB:=aS 57 [(1,sl cS hidden),(2,.func (.func 87) [] [.bptr 0 0]),(41,sl aA t41),(42,.int .i64 t42),(43,.int .i64 t43)] [.cells [sl cS m] [(0,9)],.dead] []
def fV(o:waA):aB:=aS 57 [] [.cells [sl cS o] [(0,9)],.dead] []
def bZ:Option ((Int×waA)⊕(waA)):=
 if(decide (t43<t42))=true then
  (eT t41 t43).bind fun x18=>
  (pC hidden).bind fun r19=>
  (app r19 x18.Names).bind fun l20=>
  (R152 x18.Body l20 m).bind fun r21=>
  some (.inl (bB (t43+1),r21))
 else
  some (.inr m)
def eY:Option waA:=loop (fun(zz:Int×waA)=>bZ R152 hidden t41 t42 zz.1 zz.2) (t43,m)
theorem qe(hR152:dM R152){y:(Int×waA)⊕(waA)}(h:bZ R152 hidden t41 t42 t43 m=some y):aW Pg GE 1 (cA Sj 127) (LQ (fun(zz:Int×waA)=>ej hidden t41 t42 zz.1 zz.2) (fun _=>.exit 2) fV y) (ej hidden t41 t42 t43 m):=by
 rcases aO h with⟨c17,h⟩|⟨c17,h⟩
 ·obtain⟨x18,bx18,r19,br19,l20,bl20,r21,br21,h⟩:=Zb4 h
  obtain rfl:=lf h
  have z:=sg 0 c17<|sv (eZ.ia (k:=.i64) bx18)<|sv (mA x18)<|sx Io<|sx (i7 x18)<|sk<|X8 (.dx [0,1,0,4,0,16,60,0] [] [] [])<|sv (bW x18.Body [])<|cD (tJ br19)<|ss<|sv (bN.ap bl20)<|si (.cg ⟨[0],[.agg (ac x18.Body),sl cS l20,.func (.func 87) [] [.bptr 0 0]],[],[.cells [sl cS m] [(0,9)]],[.cells [sl cS m] [(0,9)]],[.cells [sl cS r21] [(0,9)]],[.cells [sl cS r21] [(0,9)]],.tuple [],.tuple [],[]⟩) (hR152 _ _ _ _ br21)<|sf (aI (xR [0] (.agg (ac x18.Body)) (az x18.Body)) (aI (xR [0] (sl cS l20) (aj bz l20)) (aI (xF [0] (.func 87) [] [.bptr 0 0] [] [.bptr 0 0] trivial (aI (xB [0] 0 0 0 rfl) trivial)) trivial)))<|sf (aI (aI (rB (.cells [sl cS m] [(0,9)])) (aI (rW [(0,9)]) (aI (xR [0] (sl cS m) (aj bz m)) trivial))) trivial)<|sf (aI (aI (rW [(0,9)]) (aI (xR [0] (sl cS r21) (aj bz r21)) trivial)) trivial)<|sf (xR [0] (.tuple []) trivial)<|tr 1 .normal (ej hidden t41 t42 (bB (t43+1)) r21) rfl (du (aI (up (aj bz hidden)) (aI (aI trivial (aI (aT rfl) trivial)) (aI (up (aj bF t41)) (aI trivial (aI trivial trivial)))))) (aI (aI (up (aj bz r21)) trivial) (aI trivial trivial))
  exact dy (A:=PB) mixed z<|by kernel_rfl
 ·obtain rfl:=lf h
  have z:=sg 0 c17<|eF (.exit 2) (fV m)
  exact hU PB (Zn rfl) z<|by kernel_rfl
theorem rm(hR152:dM R152){x:waA}(h:eY R152 hidden t41 t42 t43 m=some x):aW Pg GE 1 (.loop (cA Sj 127)) (EX (.exit 2) (fV x)) (ej hidden t41 t42 t43 m):=
 ZL h fun _ _ hy=>qe _ hidden _ _ _ _ hR152 hy
end
def fi(R152:dN)(e:af)(hidden:waA)(k0:waA):Option waA:=
 (g9 hidden e k0).bind fun o9=>
 (eX R152 hidden e e.Kids (e.Kids.length:Int) 0 o9).bind fun o16=>
 (eY R152 hidden e.Alts (e.Alts.length:Int) 0 o16).bind fun o22=>
 some o22
theorem sT(R152:dN)(hR152:dM R152){e:af}{hidden:waA}{k0:waA}{r:waA}(h:fi R152 e hidden k0=some r):C Pg GE 79 [.agg (ac e),sl cS hidden,.func (.func 87) [] [.bptr 0 0]] [] [.cells [sl cS k0] [(0,9)]] (.tuple []) [] [.cells [sl cS r] [(0,9)]]:=by
 obtain⟨o9,bo9,o16,bo16,o22,bo22,h⟩:=Zb3 h
 obtain rfl:=lf h
 have z:=se (cF e)<|nF 0<|cT (ri hidden e k0 bo9)<|sv (ba e)<|sv (be e)<|bQ (fQ.ln e.Kids)<|cT (rl R152 hidden e e.Kids (e.Kids.length:Int) 0 o9 hR152 bo16)<|sv (aG e)<|sv (aH e)<|bQ (eZ.ln e.Alts)<|cT (rm R152 hidden e.Alts (e.Alts.length:Int) 0 o16 hR152 bo22)<|en (aI (rP (.tuple []))<|aI trivial<|aI (rL [.cells [sl cS o22] [(0,9)]])<|(aI (aI (up (n:=1) (aj bz o22)) trivial) trivial))
 exact C.evGp (A:=PB) mixed (m:=1) (c:=Sj) rfl call79 func79 rfl z<|by kernel_rfl
def iD:((af×waA×waA)->Option waA)->(af×waA×waA)->Option waA:=fun(rec:(af×waA×waA)->Option waA) (x:af×waA×waA)=>fi (fun e hidden k0=>rec (e,hidden,k0)) x.1 x.2.1 x.2.2
def jh(e:af)(hidden:waA)(k0:waA):Option waA:=rE iD (e,hidden,k0)
theorem tW{e:af}{hidden:waA}{k0:waA}{r:waA}(h:jh e hidden k0=some r):C Pg GE 79 [.agg (ac e),sl cS hidden,.func (.func 87) [] [.bptr 0 0]] [] [.cells [sl cS k0] [(0,9)]] (.tuple []) [] [.cells [sl cS r] [(0,9)]]:=
 ek (F:=iD) (M:=fun(x:af×waA×waA) (r:waA)=>C Pg GE 79 [.agg (ac x.1),sl cS x.2.1,.func (.func 87) [] [.bptr 0 0]] [] [.cells [sl cS x.2.2] [(0,9)]] (.tuple []) [] [.cells [sl cS r] [(0,9)]]) (fun rec hrec x r h=>sT _ (fun e hidden k0 r h=>hrec (e,hidden,k0) r h) h) h
noncomputable def qco:Code:=f29.body.getD .skip
def qbY:List Nat:=[7]
theorem Z29:ZF qbY 29 f29 qco:=⟨call29,func29,rfl⟩
def vI(e:af):Option waA:=
 (jh e ([]:List ae) ([]:List ae)).bind fun r1=>
 some r1
theorem Kb{e:af}{r:waA}(h:vI e=some r):CC Pg GE 29 [.agg (ac e)] (sl cS r) [(0,9)]:=by
 obtain⟨r1,br1,h⟩:=ck h
 obtain rfl:=lf h
 have z:=se (cF e)<|sx Zw<|sv (bM e)<|si (.cg ⟨[1],[.agg (ac e),sl cS ([]:List ae),.func (.func 87) [] [.bptr 0 0]],[],[.cells [sl cS ([]:List ae)] [(0,9)]],[.cells [sl cS ([]:List ae)] [(0,9)]],[.cells [sl cS r1] [(0,9)]],[.cells [sl cS r1] [(0,9)]],.tuple [],.tuple [],[]⟩) (tW br1)<|sf (aI (xR [1] (.agg (ac e)) (az e)) (aI (xR [1] (sl cS ([]:List ae)) (aj bz ([]:List ae))) (aI (xF [1] (.func 87) [] [.bptr 1 0] [] [.bptr 0 0] trivial (aI (xB [1] 0 1 0 rfl) trivial)) trivial)))<|sf (aI (aI (rB (.cells [sl cS ([]:List ae)] [(0,9)])) (aI (rW [(0,9)]) (aI (xR [1] (sl cS ([]:List ae)) (aj bz ([]:List ae))) trivial))) trivial)<|sf (aI (aI (rW [(0,9)]) (aI (xR [1] (sl cS r1) (aj bz r1)) trivial)) trivial)<|sf (xR [1] (.tuple []) trivial)<|en (aI (rP (sl cS r1))<|(aj bz r1))
 exact Z29.v (aI (az e) trivial) z<|by kernel_rfl
noncomputable def qcp:Code:=f30.body.getD .skip
def qbZ:List Nat:=[]
theorem Z30:ZF qbZ 30 f30 qcp:=⟨call30,func30,rfl⟩
def Dc(e:af):Option waA:=
 (K4 e ([]:List ae) true).bind fun r1=>
 some r1
theorem Og{e:af}{r:waA}(h:Dc e=some r):CC Pg GE 30 [.agg (ac e)] (sl cS r) [(0,9)]:=by
 obtain⟨r1,br1,h⟩:=ck h
 obtain rfl:=lf h
 have z:=se (cF e)<|sv (bM e)<|cD (PK br1)<|en (aI (rP (sl cS r1))<|(aj bz r1))
 exact Z30.v (aI (az e) trivial) z<|by kernel_rfl
noncomputable def Wg:Code:=f32.body.getD .skip
def Sf:List Nat:=[43]
theorem Z32:ZF Sf 32 f32 Wg:=⟨call32,func32,rfl⟩
section
variable(m:aE)
def Oq:aB:=aS 93 [(1,.eptr (ay m))] [.dead] []
def u9(o:Bool):aB:=aS 93 [(1,.eptr (ay m)),(23,.bool o)] [.dead] []
def EY:Option Bool:=
 if(decide ((m.Datas.length:Int)>30))=true then
  some true
 else
  if(decide ((m.Instances.length:Int)>30))=true then
   some true
  else
   some (decide ((m.Defs.length:Int)>30))
theorem MO{x:Bool}(h:EY m=some x):aW Pg GE 0 (cA Wg 12) (EX .normal (u9 m x)) (Oq m):=by
 have p2:=fun{sc F} (r:PS sc F)=>sv (ue m)<|sv (uf m)<|bQ (X6.ln m.Datas)<|r
 rcases aO h with⟨c1,h⟩|⟨c1,h⟩
 ·obtain rfl:=lf h
  exact bv Sf (p2<|sg 5 c1<|eF .normal (u9 m true))<|by kernel_rfl
 ·have p4:=fun{sc F} (r:PS sc F)=>p2<|sg 5 c1<|sv (iA m)<|sv (iB m)<|bQ (QX.ln m.Instances)<|r
  rcases aO h with⟨c3,h⟩|⟨c3,h⟩
  ·obtain rfl:=lf h
   exact bv Sf (p4<|sg 11 c3<|eF .normal (u9 m true))<|by kernel_rfl
  ·obtain rfl:=lf h
   exact bv Sf (p4<|sg 11 c3<|sv (dO m)<|sv (dP m)<|bQ (rF.ln m.Defs)<|eF .normal (u9 m (decide ((m.Defs.length:Int)>30))))<|by kernel_rfl
end
section
variable(m:aE)(v:waJ)(i:Int)
def va:aB:=aS 93 [(1,.eptr (ay m)),(3,sl aX v),(4,.int .i64 i)] [.dead] [((3,0),64)]
def vd(o:Unit⊕(waJ)):Exit:=match o with
 |(.inl _)=>.ret
 |(.inr _)=>.exit 0
def li(o:Unit⊕(waJ)):aB:=match o with
 |(.inl o)=>aS 93 [(2,.bool false)] [.dead] []
 |(.inr o)=>aS 93 [(1,.eptr (ay m)),(3,sl aX o)] [.dead] [((3,0),64)]
def np:Option ((waJ×Int)⊕(Unit⊕(waJ))):=
 if(decide (i<(m.Instances.length:Int)))=true then
  (eT m.Instances i).bind fun x11=>
  if(decide ((x11.Defs.length:Int)>30))=true then
   some (.inr (.inl ()))
  else
   (eT m.Instances i).bind fun x14=>
   (app v x14.Defs).bind fun l15=>
   some (.inl (l15,bB (i+1)))
 else
  some (.inr (.inr v))
def EZ:Option (Unit⊕(waJ)):=loop (fun(zz:waJ×Int)=>np m zz.1 zz.2) (v,i)
theorem Lg{y:(waJ×Int)⊕(Unit⊕(waJ))}(h:np m v i=some y):aW Pg GE 0 (cA Wg 247) (LQ (fun(zz:waJ×Int)=>va m zz.1 zz.2) vd (li m) y) (va m v i):=by
 have p10:=fun{sc F} (r:PS sc F)=>sv (iA m)<|sv (iB m)<|bQ (QX.ln m.Instances)<|r
 rcases aO h with⟨c9,h⟩|⟨c9,h⟩
 ·obtain⟨x11,bx11,h⟩:=ck h
  have p13:=fun{sc F} (r:PS sc F)=>p10<|sg 0 c9<|sv (iA m)<|sv (iB m)<|sv (QX.ia (k:=.i64) bx11)<|sv (pD x11)<|sv (pG x11)<|bQ (rF.ln x11.Defs)<|r
  rcases aO h with⟨c12,h⟩|⟨c12,h⟩
  ·obtain rfl:=lf h
   have z:=p13<|sg 0 c12<|eF (vd (.inl ())) (li m (.inl ()))
   exact hU Sf (Zn rfl) z<|by kernel_rfl
  ·obtain⟨x14,bx14,l15,bl15,h⟩:=Zb2 h
   obtain rfl:=lf h
   exact wJ Sf (p13<|sg 0 c12<|sv (iA m)<|sv (iB m)<|sv (QX.ia (k:=.i64) bx14)<|sv (pD x14)<|sv (pG x14)<|sv (rF.ap bl15)<|eF .normal (va m l15 (bB (i+1))))<|by kernel_rfl
 ·obtain rfl:=lf h
  have z:=p10<|sg 0 c9<|eF (vd (.inr v)) (li m (.inr v))
  exact hU Sf (Zn rfl) z<|by kernel_rfl
theorem yH{x:Unit⊕(waJ)}(h:EZ m v i=some x):aW Pg GE 0 (.loop (cA Wg 247)) (EX (vd x) (li m x)) (va m v i):=
 ZL h fun _ _ hy=>Lg _ _ _ hy
end
section
variable(m:aE)(v:waJ)(n:Int)(i:Int)
def Ot:aB:=aS 93 [(1,.eptr (ay m)),(3,sl aX v),(5,.int .i64 n),(6,.int .i64 i)] [.dead] [((3,0),64)]
def Ah(o:Bool):aB:=aS 93 [(1,.eptr (ay m)),(3,sl aX v),(5,.int .i64 n),(6,.int .i64 i),(58,.bool o)] [.dead] [((3,0),64)]
def Ag:Option Bool:=
 if(decide (i<(v.length:Int)))=true then
  some (decide (n<=2000))
 else
  some false
theorem MP{x:Bool}(h:Ag v n i=some x):aW Pg GE 0 (cA Wg 4060) (EX .normal (Ah m v n i x)) (Ot m v n i):=by
 rcases aO h with⟨c17,h⟩|⟨c17,h⟩
 ·obtain rfl:=lf h
  exact bv Sf (bQ (rF.ln v)<|sg 5 c17<|eF .normal (Ah m v n i (decide (n<=2000))))<|by kernel_rfl
 ·obtain rfl:=lf h
  exact bv Sf (bQ (rF.ln v)<|sg 5 c17<|eF .normal (Ah m v n i false))<|by kernel_rfl
end
section
variable(m:aE)(v:waJ)(n:Int)(i:Int)
def vg:aB:=aS 93 [(1,.eptr (ay m)),(3,sl aX v),(5,.int .i64 n),(6,.int .i64 i)] [.dead] [((3,0),64)]
def Ai(o:Int):aB:=aS 93 [(1,.eptr (ay m)),(5,.int .i64 o)] [.dead] []
def nq:Option ((Int×Int)⊕(Int)):=
 (Ag v n i).bind fun o18=>
 if o18=true then
  (eT v i).bind fun x21=>
  (eT v i).bind fun x22=>
  (KL x22.Body 2000).bind fun r23=>
  some (.inl (bB ((bB (n+(x21.Params.length:Int)))+r23),bB (i+1)))
 else
  some (.inr n)
def E0:Option Int:=loop (fun(zz:Int×Int)=>nq v zz.1 zz.2) (n,i)
theorem Lh{y:(Int×Int)⊕(Int)}(h:nq v n i=some y):aW Pg GE 0 (cA Wg 1015) (LQ (fun(zz:Int×Int)=>vg m v zz.1 zz.2) (fun _=>.exit 2) (Ai m) y) (vg m v n i):=by
 obtain⟨o18,bo18,h⟩:=ck h
 have p20:=fun{sc F} (r:PS sc F)=>nF 1<|cT (MP m v n i bo18)<|r
 rcases aO h with⟨c19,h⟩|⟨c19,h⟩
 ·obtain⟨x21,bx21,x22,bx22,r23,br23,h⟩:=Zb3 h
  obtain rfl:=lf h
  exact wJ Sf (p20<|sg 0 c19<|G0 [0,0,0,6,14,30,62,127,0,0,768,1792,3840,7936,16383,32767]<|sv (rF.ia (k:=.i64) bx21)<|sv (Ar x21)<|sv (Aw x21)<|bQ (bN.ln x21.Params)<|sv (rF.ia (k:=.i64) bx22)<|sv (As x22)<|sv (Ax x22)<|cD (PI br23)<|eF .normal (vg m v (bB ((bB (n+(x21.Params.length:Int)))+r23)) (bB (i+1))))<|by kernel_rfl
 ·obtain rfl:=lf h
  have z:=p20<|sg 0 c19<|eF (.exit 2) (Ai m n)
  exact hU Sf (Zn rfl) z<|by kernel_rfl
theorem Ec{x:Int}(h:E0 v n i=some x):aW Pg GE 0 (.loop (cA Wg 1015)) (EX (.exit 2) (Ai m x)) (vg m v n i):=
 ZL h fun _ _ hy=>Lh _ _ _ _ hy
end
section
variable(m:aE)(n:Int)(i:Int)
def vj:aB:=aS 93 [(1,.eptr (ay m)),(5,.int .i64 n),(7,.int .i64 i)] [.dead] []
def vp(o:Unit⊕(Unit)):Exit:=match o with
 |(.inl _)=>.ret
 |(.inr _)=>.exit 4
def nr(o:Unit⊕(Unit)):aB:=match o with
 |(.inl o)=>aS 93 [(2,.bool false)] [.dead] []
 |(.inr o)=>aS 93 [(5,.int .i64 n)] [.dead] []
def vo:Option (Int⊕(Unit⊕(Unit))):=
 if(decide (i<(m.Datas.length:Int)))=true then
  (eT m.Datas i).bind fun x27=>
  if(decide ((x27.Cons.length:Int)>30))=true then
   some (.inr (.inl ()))
  else
   some (.inl (bB (i+1)))
 else
  some (.inr (.inr ()))
def E1:Option (Unit⊕(Unit)):=loop (fun(zz:Int)=>vo m zz) i
theorem Li{y:Int⊕(Unit⊕(Unit))}(h:vo m i=some y):aW Pg GE 0 (cA Wg 2039) (LQ (fun(zz:Int)=>vj m n zz) vp (nr n) y) (vj m n i):=by
 have p26:=fun{sc F} (r:PS sc F)=>sv (ue m)<|sv (uf m)<|bQ (X6.ln m.Datas)<|r
 rcases aO h with⟨c25,h⟩|⟨c25,h⟩
 ·obtain⟨x27,bx27,h⟩:=ck h
  have p29:=fun{sc F} (r:PS sc F)=>p26<|sg 0 c25<|sv (ue m)<|sv (uf m)<|sv (X6.ia (k:=.i64) bx27)<|sv (M2 x27)<|sv (M5 x27)<|bQ (qbr.ln x27.Cons)<|r
  rcases aO h with⟨c28,h⟩|⟨c28,h⟩
  ·obtain rfl:=lf h
   have z:=p29<|sg 0 c28<|eF (vp (.inl ())) (nr n (.inl ()))
   exact hU Sf (Zn rfl) z<|by kernel_rfl
  ·obtain rfl:=lf h
   exact wJ Sf (p29<|sg 0 c28<|eF .normal (vj m n (bB (i+1))))<|by kernel_rfl
 ·obtain rfl:=lf h
  have z:=p26<|sg 0 c25<|eF (vp (.inr ())) (nr n (.inr ()))
  exact hU Sf (Zn rfl) z<|by kernel_rfl
theorem Ed{x:Unit⊕(Unit)}(h:E1 m i=some x):aW Pg GE 0 (.loop (cA Wg 2039)) (EX (vp x) (nr n x)) (vj m n i):=
 ZL h fun _ _ hy=>Li _ _ _ hy
end
def Kl(m:aE):Option Bool:=
 (EY m).bind fun o5=>
 if o5=true then
  some false
 else
  (app ([]:List cp) m.Defs).bind fun l8=>
  (EZ m l8 0).bind fun o16=>match o16 with
  |(.inl o16)=>
   some false
  | (.inr o16) =>
   (E0 o16 0 0).bind fun o24=>
   (E1 m 0).bind fun o30=>match o30 with
   |(.inl o30)=>
    some false
   |(.inr o30)=>
    some (decide (o24<=2000))
theorem Rf{m:aE}{r:Bool}(h:Kl m=some r):CC Pg GE 32 [.agg (ay m)] (.bool r) []:=by
 obtain⟨o5,bo5,h⟩:=ck h
 have p7:=fun{sc F} (r:PS sc F)=>se (gr m)<|nF 1<|cT (MO m bo5)<|r
 rcases aO h with⟨c6,h⟩|⟨c6,h⟩
 ·obtain rfl:=lf h
  have z:=p7<|sg 0 c6<|en (aI (rP (.bool false))<|trivial)
  exact Z32.v (aI (bp m) trivial) z<|by kernel_rfl
 ·obtain⟨l8,bl8,o16,bo16,h⟩:=Zb2 h
  rcases o16 with o16|o16
  ·obtain rfl:=lf h
   have z:=p7<|sg 0 c6<|sv (rF.mk' (v:=Ms) GN ([]:List cp) 0 (by kernel_rfl))<|sv (dO m)<|sv (dP m)<|sv (rF.ap bl8)<|cT (e:=.ret) (s1:=li m (.inl o16)) (yH m l8 0 bo16)<|en (aI (rP (.bool false))<|trivial)
   exact Z32.v (aI (bp m) trivial) z<|by kernel_rfl
  ·obtain⟨o24,bo24,o30,bo30,h⟩:=Zb2 h
   rcases o30 with o30|o30
   ·obtain rfl:=lf h
    have z:=p7<|sg 0 c6<|sv (rF.mk' (v:=Ms) GN ([]:List cp) 0 (by kernel_rfl))<|sv (dO m)<|sv (dP m)<|sv (rF.ap bl8)<|cT (e:=.exit 0) (s1:=li m (.inr o16)) (yH m l8 0 bo16)<|cT (Ec m o16 0 0 bo24)<|cT (e:=.ret) (s1:=nr o24 (.inl o30)) (Ed m o24 0 bo30)<|en (aI (rP (.bool false))<|trivial)
    exact Z32.v (aI (bp m) trivial) z<|by kernel_rfl
   ·obtain rfl:=lf h
    have z:=p7<|sg 0 c6<|sv (rF.mk' (v:=Ms) GN ([]:List cp) 0 (by kernel_rfl))<|sv (dO m)<|sv (dP m)<|sv (rF.ap bl8)<|cT (e:=.exit 0) (s1:=li m (.inr o16)) (yH m l8 0 bo16)<|cT (Ec m o16 0 0 bo24)<|cT (e:=.exit 4) (s1:=nr o24 (.inr o30)) (Ed m o24 0 bo30)<|en (aI (rP (.bool (decide (o24<=2000))))<|trivial)
    exact Z32.v (aI (bp m) trivial) z<|by kernel_rfl
noncomputable def qaO:Code:=f33.body.getD .skip
def ZH:List Nat:=[]
theorem Z33:ZF ZH 33 f33 qaO:=⟨call33,func33,rfl⟩
section
variable(name:ae)(t9:waJ)(t10:Int)(t11:Int)(m:ae)(m2:waA)(m3:Int)(m4:ae)(m5:Int)(m6:waF)(m7:waE)(m8:waD)(m9:waC)(m10:Int)(m11:Bool)(m12:waA)(m13:waG)(m14:waH)(m15:waI)(m16:Int)(m17:ae)(m18:waC)(m19:waA)(m20:Int)(m21:ae)(m22:Int)(m23:waB)(m24:waB)(m25:waB)
def pq:aB:=aS 22 [(1,.str name),(4,.bptr 1 0),(9,sl aX t9),(10,.int .i64 t10),(11,.int .i64 t11)] [.dead,.cells [.str m,sl cS m2,.int .i64 m3,.str m4,.int .i64 m5,sl ac m6,sl au m7,sl aA m8,sl ah m9,.int .i64 m10,.bool m11,sl cS m12,sl cW m13,sl eQ m14,sl cw m15,.int .i64 m16,.str m17,sl ah m18,sl cS m19,.int .i64 m20,.str m21,.int .i64 m22,sl al m23,sl al m24,sl al m25] [(1,9),(5,28),(6,85),(7,89),(8,60),(11,9),(12,250),(13,252),(14,254),(17,60),(18,9),(22,58),(23,58),(24,58)]] []
def pr(o:(ae×waA×Int×ae×Int×waF×waE×waD×waC×Int×Bool×waA×waG×waH×waI×Int×ae×waC×waA×Int×ae×Int×waB×waB×waB)⊕(ae×waA×Int×ae×Int×waF×waE×waD×waC×Int×Bool×waA×waG×waH×waI×Int×ae×waC×waA×Int×ae×Int×waB×waB×waB)):Exit:=match o with
 |(.inl _)=>.ret
 |(.inr _)=>.exit 0
def jO(o:(ae×waA×Int×ae×Int×waF×waE×waD×waC×Int×Bool×waA×waG×waH×waI×Int×ae×waC×waA×Int×ae×Int×waB×waB×waB)⊕(ae×waA×Int×ae×Int×waF×waE×waD×waC×Int×Bool×waA×waG×waH×waI×Int×ae×waC×waA×Int×ae×Int×waB×waB×waB)):aB:=match o with
 |(.inl o)=>aS 22 [(4,.bptr 1 0),(5,.bool true)] [.dead,.cells [.str o.1,sl cS o.2.1,.int .i64 o.2.2.1,.str o.2.2.2.1,.int .i64 o.2.2.2.2.1,sl ac o.2.2.2.2.2.1,sl au o.2.2.2.2.2.2.1,sl aA o.2.2.2.2.2.2.2.1,sl ah o.2.2.2.2.2.2.2.2.1,.int .i64 o.2.2.2.2.2.2.2.2.2.1,.bool o.2.2.2.2.2.2.2.2.2.2.1,sl cS o.2.2.2.2.2.2.2.2.2.2.2.1,sl cW o.2.2.2.2.2.2.2.2.2.2.2.2.1,sl eQ o.2.2.2.2.2.2.2.2.2.2.2.2.2.1,sl cw o.2.2.2.2.2.2.2.2.2.2.2.2.2.2.1,.int .i64 o.2.2.2.2.2.2.2.2.2.2.2.2.2.2.2.1,.str o.2.2.2.2.2.2.2.2.2.2.2.2.2.2.2.2.1,sl ah o.2.2.2.2.2.2.2.2.2.2.2.2.2.2.2.2.2.1,sl cS o.2.2.2.2.2.2.2.2.2.2.2.2.2.2.2.2.2.2.1,.int .i64 o.2.2.2.2.2.2.2.2.2.2.2.2.2.2.2.2.2.2.2.1,.str o.2.2.2.2.2.2.2.2.2.2.2.2.2.2.2.2.2.2.2.2.1,.int .i64 o.2.2.2.2.2.2.2.2.2.2.2.2.2.2.2.2.2.2.2.2.2.1,sl al o.2.2.2.2.2.2.2.2.2.2.2.2.2.2.2.2.2.2.2.2.2.2.1,sl al o.2.2.2.2.2.2.2.2.2.2.2.2.2.2.2.2.2.2.2.2.2.2.2.1,sl al o.2.2.2.2.2.2.2.2.2.2.2.2.2.2.2.2.2.2.2.2.2.2.2.2] []] []
 |(.inr o)=>aS 22 [(4,.bptr 1 0)] [.dead,.cells [.str o.1,sl cS o.2.1,.int .i64 o.2.2.1,.str o.2.2.2.1,.int .i64 o.2.2.2.2.1,sl ac o.2.2.2.2.2.1,sl au o.2.2.2.2.2.2.1,sl aA o.2.2.2.2.2.2.2.1,sl ah o.2.2.2.2.2.2.2.2.1,.int .i64 o.2.2.2.2.2.2.2.2.2.1,.bool o.2.2.2.2.2.2.2.2.2.2.1,sl cS o.2.2.2.2.2.2.2.2.2.2.2.1,sl cW o.2.2.2.2.2.2.2.2.2.2.2.2.1,sl eQ o.2.2.2.2.2.2.2.2.2.2.2.2.2.1,sl cw o.2.2.2.2.2.2.2.2.2.2.2.2.2.2.1,.int .i64 o.2.2.2.2.2.2.2.2.2.2.2.2.2.2.2.1,.str o.2.2.2.2.2.2.2.2.2.2.2.2.2.2.2.2.1,sl ah o.2.2.2.2.2.2.2.2.2.2.2.2.2.2.2.2.2.1,sl cS o.2.2.2.2.2.2.2.2.2.2.2.2.2.2.2.2.2.2.1,.int .i64 o.2.2.2.2.2.2.2.2.2.2.2.2.2.2.2.2.2.2.2.1,.str o.2.2.2.2.2.2.2.2.2.2.2.2.2.2.2.2.2.2.2.2.1,.int .i64 o.2.2.2.2.2.2.2.2.2.2.2.2.2.2.2.2.2.2.2.2.2.1,sl al o.2.2.2.2.2.2.2.2.2.2.2.2.2.2.2.2.2.2.2.2.2.2.1,sl al o.2.2.2.2.2.2.2.2.2.2.2.2.2.2.2.2.2.2.2.2.2.2.2.1,sl al o.2.2.2.2.2.2.2.2.2.2.2.2.2.2.2.2.2.2.2.2.2.2.2.2] [(1,9),(5,28),(6,85),(7,89),(8,60),(11,9),(12,250),(13,252),(14,254),(17,60),(18,9),(22,58),(23,58),(24,58)]] []
def iC:Option ((Int×ae×waA×Int×ae×Int×waF×waE×waD×waC×Int×Bool×waA×waG×waH×waI×Int×ae×waC×waA×Int×ae×Int×waB×waB×waB)⊕((ae×waA×Int×ae×Int×waF×waE×waD×waC×Int×Bool×waA×waG×waH×waI×Int×ae×waC×waA×Int×ae×Int×waB×waB×waB)⊕(ae×waA×Int×ae×Int×waF×waE×waD×waC×Int×Bool×waA×waG×waH×waI×Int×ae×waC×waA×Int×ae×Int×waB×waB×waB))):=
 if(decide (t11<t10))=true then
  (eT t9 t11).bind fun x2=>
  if(x2.Name==name)=true then
   some (.inr (.inl (x2.Name,x2.Params,x2.Body.Op,x2.Body.Name,x2.Body.N,x2.Body.Kids,x2.Body.Params,x2.Body.Alts,x2.Body.Types,x2.Mode,x2.Typed,x2.Sig.Vars,x2.Sig.Needs,x2.Sig.Abs,x2.Sig.Bounds,x2.Sig.Type_.Op,x2.Sig.Type_.Name,x2.Sig.Type_.Args,x2.Sig.Type_.Names,x2.Sig.Type_.Pred.Op,x2.Sig.Type_.Pred.Name,x2.Sig.Type_.Pred.N,x2.Sig.Type_.Pred.Kids,x2.Sig.Type_.Preds,x2.Sig.Metric)))
  else
   some (.inl (bB (t11+1),m,m2,m3,m4,m5,m6,m7,m8,m9,m10,m11,m12,m13,m14,m15,m16,m17,m18,m19,m20,m21,m22,m23,m24,m25))
 else
  some (.inr (.inr (m,m2,m3,m4,m5,m6,m7,m8,m9,m10,m11,m12,m13,m14,m15,m16,m17,m18,m19,m20,m21,m22,m23,m24,m25)))
def yR:Option ((ae×waA×Int×ae×Int×waF×waE×waD×waC×Int×Bool×waA×waG×waH×waI×Int×ae×waC×waA×Int×ae×Int×waB×waB×waB)⊕(ae×waA×Int×ae×Int×waF×waE×waD×waC×Int×Bool×waA×waG×waH×waI×Int×ae×waC×waA×Int×ae×Int×waB×waB×waB)):=loop (fun(zz:Int×ae×waA×Int×ae×Int×waF×waE×waD×waC×Int×Bool×waA×waG×waH×waI×Int×ae×waC×waA×Int×ae×Int×waB×waB×waB)=>iC name t9 t10 zz.1 zz.2.1 zz.2.2.1 zz.2.2.2.1 zz.2.2.2.2.1 zz.2.2.2.2.2.1 zz.2.2.2.2.2.2.1 zz.2.2.2.2.2.2.2.1 zz.2.2.2.2.2.2.2.2.1 zz.2.2.2.2.2.2.2.2.2.1 zz.2.2.2.2.2.2.2.2.2.2.1 zz.2.2.2.2.2.2.2.2.2.2.2.1 zz.2.2.2.2.2.2.2.2.2.2.2.2.1 zz.2.2.2.2.2.2.2.2.2.2.2.2.2.1 zz.2.2.2.2.2.2.2.2.2.2.2.2.2.2.1 zz.2.2.2.2.2.2.2.2.2.2.2.2.2.2.2.1 zz.2.2.2.2.2.2.2.2.2.2.2.2.2.2.2.2.1 zz.2.2.2.2.2.2.2.2.2.2.2.2.2.2.2.2.2.1 zz.2.2.2.2.2.2.2.2.2.2.2.2.2.2.2.2.2.2.1 zz.2.2.2.2.2.2.2.2.2.2.2.2.2.2.2.2.2.2.2.1 zz.2.2.2.2.2.2.2.2.2.2.2.2.2.2.2.2.2.2.2.2.1 zz.2.2.2.2.2.2.2.2.2.2.2.2.2.2.2.2.2.2.2.2.2.1 zz.2.2.2.2.2.2.2.2.2.2.2.2.2.2.2.2.2.2.2.2.2.2.1 zz.2.2.2.2.2.2.2.2.2.2.2.2.2.2.2.2.2.2.2.2.2.2.2.1 zz.2.2.2.2.2.2.2.2.2.2.2.2.2.2.2.2.2.2.2.2.2.2.2.2.1 zz.2.2.2.2.2.2.2.2.2.2.2.2.2.2.2.2.2.2.2.2.2.2.2.2.2) (t11,m,m2,m3,m4,m5,m6,m7,m8,m9,m10,m11,m12,m13,m14,m15,m16,m17,m18,m19,m20,m21,m22,m23,m24,m25)
theorem G7{y:(Int×ae×waA×Int×ae×Int×waF×waE×waD×waC×Int×Bool×waA×waG×waH×waI×Int×ae×waC×waA×Int×ae×Int×waB×waB×waB)⊕((ae×waA×Int×ae×Int×waF×waE×waD×waC×Int×Bool×waA×waG×waH×waI×Int×ae×waC×waA×Int×ae×Int×waB×waB×waB)⊕(ae×waA×Int×ae×Int×waF×waE×waD×waC×Int×Bool×waA×waG×waH×waI×Int×ae×waC×waA×Int×ae×Int×waB×waB×waB))}(h:iC name t9 t10 t11 m m2 m3 m4 m5 m6 m7 m8 m9 m10 m11 m12 m13 m14 m15 m16 m17 m18 m19 m20 m21 m22 m23 m24 m25=some y):aW Pg GE 0 (cA qaO 55) (LQ (fun(zz:Int×ae×waA×Int×ae×Int×waF×waE×waD×waC×Int×Bool×waA×waG×waH×waI×Int×ae×waC×waA×Int×ae×Int×waB×waB×waB)=>pq name t9 t10 zz.1 zz.2.1 zz.2.2.1 zz.2.2.2.1 zz.2.2.2.2.1 zz.2.2.2.2.2.1 zz.2.2.2.2.2.2.1 zz.2.2.2.2.2.2.2.1 zz.2.2.2.2.2.2.2.2.1 zz.2.2.2.2.2.2.2.2.2.1 zz.2.2.2.2.2.2.2.2.2.2.1 zz.2.2.2.2.2.2.2.2.2.2.2.1 zz.2.2.2.2.2.2.2.2.2.2.2.2.1 zz.2.2.2.2.2.2.2.2.2.2.2.2.2.1 zz.2.2.2.2.2.2.2.2.2.2.2.2.2.2.1 zz.2.2.2.2.2.2.2.2.2.2.2.2.2.2.2.1 zz.2.2.2.2.2.2.2.2.2.2.2.2.2.2.2.2.1 zz.2.2.2.2.2.2.2.2.2.2.2.2.2.2.2.2.2.1 zz.2.2.2.2.2.2.2.2.2.2.2.2.2.2.2.2.2.2.1 zz.2.2.2.2.2.2.2.2.2.2.2.2.2.2.2.2.2.2.2.1 zz.2.2.2.2.2.2.2.2.2.2.2.2.2.2.2.2.2.2.2.2.1 zz.2.2.2.2.2.2.2.2.2.2.2.2.2.2.2.2.2.2.2.2.2.1 zz.2.2.2.2.2.2.2.2.2.2.2.2.2.2.2.2.2.2.2.2.2.2.1 zz.2.2.2.2.2.2.2.2.2.2.2.2.2.2.2.2.2.2.2.2.2.2.2.1 zz.2.2.2.2.2.2.2.2.2.2.2.2.2.2.2.2.2.2.2.2.2.2.2.2.1 zz.2.2.2.2.2.2.2.2.2.2.2.2.2.2.2.2.2.2.2.2.2.2.2.2.2) pr jO y) (pq name t9 t10 t11 m m2 m3 m4 m5 m6 m7 m8 m9 m10 m11 m12 m13 m14 m15 m16 m17 m18 m19 m20 m21 m22 m23 m24 m25):=by
 rcases aO h with⟨c1,h⟩|⟨c1,h⟩
 ·obtain⟨x2,bx2,h⟩:=ck h
  have p4:=fun{sc F} (r:PS sc F)=>sg 0 c1<|sv (rF.ia (k:=.i64) bx2)<|sv (O5 x2)<|sx Pr<|sx (tQ x2)<|ss<|r
  rcases aO h with⟨c3,h⟩|⟨c3,h⟩
  ·obtain rfl:=lf h
   have z:=p4<|sg 0 c3<|sv (Qr x2 [])<|sx (tQ x2)<|tr 0 (pr (.inl (x2.Name,x2.Params,x2.Body.Op,x2.Body.Name,x2.Body.N,x2.Body.Kids,x2.Body.Params,x2.Body.Alts,x2.Body.Types,x2.Mode,x2.Typed,x2.Sig.Vars,x2.Sig.Needs,x2.Sig.Abs,x2.Sig.Bounds,x2.Sig.Type_.Op,x2.Sig.Type_.Name,x2.Sig.Type_.Args,x2.Sig.Type_.Names,x2.Sig.Type_.Pred.Op,x2.Sig.Type_.Pred.Name,x2.Sig.Type_.Pred.N,x2.Sig.Type_.Pred.Kids,x2.Sig.Type_.Preds,x2.Sig.Metric))) (jO (.inl (x2.Name,x2.Params,x2.Body.Op,x2.Body.Name,x2.Body.N,x2.Body.Kids,x2.Body.Params,x2.Body.Alts,x2.Body.Types,x2.Mode,x2.Typed,x2.Sig.Vars,x2.Sig.Needs,x2.Sig.Abs,x2.Sig.Bounds,x2.Sig.Type_.Op,x2.Sig.Type_.Name,x2.Sig.Type_.Args,x2.Sig.Type_.Names,x2.Sig.Type_.Pred.Op,x2.Sig.Type_.Pred.Name,x2.Sig.Type_.Pred.N,x2.Sig.Type_.Pred.Kids,x2.Sig.Type_.Preds,x2.Sig.Metric))) rfl (du (aI (aT rfl) (aI trivial trivial))) (aI trivial (aI (aI trivial (aI (up (aj bz x2.Params)) (aI trivial (aI trivial (aI trivial (aI (up (aj az x2.Body.Kids)) (aI (up (aj aZ x2.Body.Params)) (aI (up (aj bF x2.Body.Alts)) (aI (up (aj aF x2.Body.Types)) (aI trivial (aI trivial (aI (up (aj bz x2.Sig.Vars)) (aI (up (aj wA x2.Sig.Needs)) (aI (up (aj Do x2.Sig.Abs)) (aI (up (aj vR x2.Sig.Bounds)) (aI trivial (aI trivial (aI (up (aj aF x2.Sig.Type_.Args)) (aI (up (aj bz x2.Sig.Type_.Names)) (aI trivial (aI trivial (aI trivial (aI (up (aj aQ x2.Sig.Type_.Pred.Kids)) (aI (up (aj aQ x2.Sig.Type_.Preds)) (aI (up (aj aQ x2.Sig.Metric)) trivial))))))))))))))))))))))))) trivial))
   exact sF (A:=ZH) mixed (Zn rfl) z<|by kernel_rfl
  ·obtain rfl:=lf h
   have z:=p4<|sg 0 c3<|tr 0 .normal (pq name t9 t10 (bB (t11+1)) m m2 m3 m4 m5 m6 m7 m8 m9 m10 m11 m12 m13 m14 m15 m16 m17 m18 m19 m20 m21 m22 m23 m24 m25) rfl (du (aI trivial (aI (aT rfl) (aI (up (aj jm t9)) (aI trivial (aI trivial trivial)))))) (aI trivial (aI (aI trivial (aI (up (aj bz m2)) (aI trivial (aI trivial (aI trivial (aI (up (aj az m6)) (aI (up (aj aZ m7)) (aI (up (aj bF m8)) (aI (up (aj aF m9)) (aI trivial (aI trivial (aI (up (aj bz m12)) (aI (up (aj wA m13)) (aI (up (aj Do m14)) (aI (up (aj vR m15)) (aI trivial (aI trivial (aI (up (aj aF m18)) (aI (up (aj bz m19)) (aI trivial (aI trivial (aI trivial (aI (up (aj aQ m23)) (aI (up (aj aQ m24)) (aI (up (aj aQ m25)) trivial))))))))))))))))))))))))) trivial))
   exact dy (A:=ZH) mixed z<|by kernel_rfl
 ·obtain rfl:=lf h
  have z:=sg 0 c1<|eF (pr (.inr (m,m2,m3,m4,m5,m6,m7,m8,m9,m10,m11,m12,m13,m14,m15,m16,m17,m18,m19,m20,m21,m22,m23,m24,m25))) (jO (.inr (m,m2,m3,m4,m5,m6,m7,m8,m9,m10,m11,m12,m13,m14,m15,m16,m17,m18,m19,m20,m21,m22,m23,m24,m25)))
  exact hU ZH (Zn rfl) z<|by kernel_rfl
theorem zv{x:(ae×waA×Int×ae×Int×waF×waE×waD×waC×Int×Bool×waA×waG×waH×waI×Int×ae×waC×waA×Int×ae×Int×waB×waB×waB)⊕(ae×waA×Int×ae×Int×waF×waE×waD×waC×Int×Bool×waA×waG×waH×waI×Int×ae×waC×waA×Int×ae×Int×waB×waB×waB)}(h:yR name t9 t10 t11 m m2 m3 m4 m5 m6 m7 m8 m9 m10 m11 m12 m13 m14 m15 m16 m17 m18 m19 m20 m21 m22 m23 m24 m25=some x):aW Pg GE 0 (.loop (cA qaO 55)) (EX (pr x) (jO x)) (pq name t9 t10 t11 m m2 m3 m4 m5 m6 m7 m8 m9 m10 m11 m12 m13 m14 m15 m16 m17 m18 m19 m20 m21 m22 m23 m24 m25):=
 ZL h fun _ _ hy=>G7 _ _ _ _ _ _ _ _ _ _ _ _ _ _ _ _ _ _ _ _ _ _ _ _ _ _ _ _ _ hy
end
def wO(m:aE)(name:ae):Option (cp×Bool):=
 (yR name m.Defs (m.Defs.length:Int) 0 ([]:ae) ([]:List ae) 0 ([]:ae) 0 ([]:List af) ([]:List aw) ([]:List aJ) ([]:List ai) 0 false ([]:List ae) ([]:List cr) ([]:List eP) ([]:List bC) 0 ([]:ae) ([]:List ai) ([]:List ae) 0 ([]:ae) 0 ([]:List am) ([]:List am) ([]:List am)).bind fun o5=>match o5 with
 |(.inl o5)=>
  some ((⟨o5.1,o5.2.1,(⟨o5.2.2.1,o5.2.2.2.1,o5.2.2.2.2.1,o5.2.2.2.2.2.1,o5.2.2.2.2.2.2.1,o5.2.2.2.2.2.2.2.1,o5.2.2.2.2.2.2.2.2.1⟩:af),o5.2.2.2.2.2.2.2.2.2.1,o5.2.2.2.2.2.2.2.2.2.2.1,(⟨o5.2.2.2.2.2.2.2.2.2.2.2.1,o5.2.2.2.2.2.2.2.2.2.2.2.2.1,o5.2.2.2.2.2.2.2.2.2.2.2.2.2.1,o5.2.2.2.2.2.2.2.2.2.2.2.2.2.2.1,(⟨o5.2.2.2.2.2.2.2.2.2.2.2.2.2.2.2.1,o5.2.2.2.2.2.2.2.2.2.2.2.2.2.2.2.2.1,o5.2.2.2.2.2.2.2.2.2.2.2.2.2.2.2.2.2.1,o5.2.2.2.2.2.2.2.2.2.2.2.2.2.2.2.2.2.2.1,(⟨o5.2.2.2.2.2.2.2.2.2.2.2.2.2.2.2.2.2.2.2.1,o5.2.2.2.2.2.2.2.2.2.2.2.2.2.2.2.2.2.2.2.2.1,o5.2.2.2.2.2.2.2.2.2.2.2.2.2.2.2.2.2.2.2.2.2.1,o5.2.2.2.2.2.2.2.2.2.2.2.2.2.2.2.2.2.2.2.2.2.2.1⟩:am),o5.2.2.2.2.2.2.2.2.2.2.2.2.2.2.2.2.2.2.2.2.2.2.2.1⟩:ai),o5.2.2.2.2.2.2.2.2.2.2.2.2.2.2.2.2.2.2.2.2.2.2.2.2⟩:AP)⟩:cp),true)
 |(.inr o5)=>
  some ((⟨([]:ae),([]:List ae),(⟨0,([]:ae),0,([]:List af),([]:List aw),([]:List aJ),([]:List ai)⟩:af),0,false,(⟨([]:List ae),([]:List cr),([]:List eP),([]:List bC),(⟨0,([]:ae),([]:List ai),([]:List ae),(⟨0,([]:ae),0,([]:List am)⟩:am),([]:List am)⟩:ai),([]:List am)⟩:AP)⟩:cp),false)
theorem ED{m:aE}{name:ae}{r:cp×Bool}(h:wO m name=some r):CC Pg GE 33 [.agg (ay m),.str name] (.tuple [.agg (aX r.1),.bool r.2]) []:=by
 obtain⟨o5,bo5,h⟩:=ck h
 rcases o5 with o5|o5
 ·obtain rfl:=lf h
  have z:=se (gr m)<|sx Pr<|sv (dO m)<|sv (dP m)<|bQ (rF.ln m.Defs)<|cT (e:=.ret) (s1:=jO (.inl o5)) (zv name m.Defs (m.Defs.length:Int) 0 ([]:ae) ([]:List ae) 0 ([]:ae) 0 ([]:List af) ([]:List aw) ([]:List aJ) ([]:List ai) 0 false ([]:List ae) ([]:List cr) ([]:List eP) ([]:List bC) 0 ([]:ae) ([]:List ai) ([]:List ae) 0 ([]:ae) 0 ([]:List am) ([]:List am) ([]:List am) bo5)<|en (aI (va6 PVal.tuple (ij (GY (⟨o5.1,o5.2.1,(⟨o5.2.2.1,o5.2.2.2.1,o5.2.2.2.2.1,o5.2.2.2.2.2.1,o5.2.2.2.2.2.2.1,o5.2.2.2.2.2.2.2.1,o5.2.2.2.2.2.2.2.2.1⟩:af),o5.2.2.2.2.2.2.2.2.2.1,o5.2.2.2.2.2.2.2.2.2.2.1,(⟨o5.2.2.2.2.2.2.2.2.2.2.2.1,o5.2.2.2.2.2.2.2.2.2.2.2.2.1,o5.2.2.2.2.2.2.2.2.2.2.2.2.2.1,o5.2.2.2.2.2.2.2.2.2.2.2.2.2.2.1,(⟨o5.2.2.2.2.2.2.2.2.2.2.2.2.2.2.2.1,o5.2.2.2.2.2.2.2.2.2.2.2.2.2.2.2.2.1,o5.2.2.2.2.2.2.2.2.2.2.2.2.2.2.2.2.2.1,o5.2.2.2.2.2.2.2.2.2.2.2.2.2.2.2.2.2.2.1,(⟨o5.2.2.2.2.2.2.2.2.2.2.2.2.2.2.2.2.2.2.2.1,o5.2.2.2.2.2.2.2.2.2.2.2.2.2.2.2.2.2.2.2.2.1,o5.2.2.2.2.2.2.2.2.2.2.2.2.2.2.2.2.2.2.2.2.2.1,o5.2.2.2.2.2.2.2.2.2.2.2.2.2.2.2.2.2.2.2.2.2.2.1⟩:am),o5.2.2.2.2.2.2.2.2.2.2.2.2.2.2.2.2.2.2.2.2.2.2.2.1⟩:ai),o5.2.2.2.2.2.2.2.2.2.2.2.2.2.2.2.2.2.2.2.2.2.2.2.2⟩:AP)⟩:cp)) (ij (rP (.bool true)) (rfl:([]:List PVal)=[]))))<|(aI (jm (⟨o5.1,o5.2.1,(⟨o5.2.2.1,o5.2.2.2.1,o5.2.2.2.2.1,o5.2.2.2.2.2.1,o5.2.2.2.2.2.2.1,o5.2.2.2.2.2.2.2.1,o5.2.2.2.2.2.2.2.2.1⟩:af),o5.2.2.2.2.2.2.2.2.2.1,o5.2.2.2.2.2.2.2.2.2.2.1,(⟨o5.2.2.2.2.2.2.2.2.2.2.2.1,o5.2.2.2.2.2.2.2.2.2.2.2.2.1,o5.2.2.2.2.2.2.2.2.2.2.2.2.2.1,o5.2.2.2.2.2.2.2.2.2.2.2.2.2.2.1,(⟨o5.2.2.2.2.2.2.2.2.2.2.2.2.2.2.2.1,o5.2.2.2.2.2.2.2.2.2.2.2.2.2.2.2.2.1,o5.2.2.2.2.2.2.2.2.2.2.2.2.2.2.2.2.2.1,o5.2.2.2.2.2.2.2.2.2.2.2.2.2.2.2.2.2.2.1,(⟨o5.2.2.2.2.2.2.2.2.2.2.2.2.2.2.2.2.2.2.2.1,o5.2.2.2.2.2.2.2.2.2.2.2.2.2.2.2.2.2.2.2.2.1,o5.2.2.2.2.2.2.2.2.2.2.2.2.2.2.2.2.2.2.2.2.2.1,o5.2.2.2.2.2.2.2.2.2.2.2.2.2.2.2.2.2.2.2.2.2.2.1⟩:am),o5.2.2.2.2.2.2.2.2.2.2.2.2.2.2.2.2.2.2.2.2.2.2.2.1⟩:ai),o5.2.2.2.2.2.2.2.2.2.2.2.2.2.2.2.2.2.2.2.2.2.2.2.2⟩:AP)⟩:cp)) (aI trivial trivial)))
  exact Z33.v (aI (bp m) (aI trivial trivial)) z<|by kernel_rfl
 ·obtain rfl:=lf h
  have z:=se (gr m)<|sx Pr<|sv (dO m)<|sv (dP m)<|bQ (rF.ln m.Defs)<|cT (e:=.exit 0) (s1:=jO (.inr o5)) (zv name m.Defs (m.Defs.length:Int) 0 ([]:ae) ([]:List ae) 0 ([]:ae) 0 ([]:List af) ([]:List aw) ([]:List aJ) ([]:List ai) 0 false ([]:List ae) ([]:List cr) ([]:List eP) ([]:List bC) 0 ([]:ae) ([]:List ai) ([]:List ae) 0 ([]:ae) 0 ([]:List am) ([]:List am) ([]:List am) bo5)<|sb (Nt) (Ns)<|sy (jn (⟨([]:ae),([]:List ae),(⟨0,([]:ae),0,([]:List af),([]:List aw),([]:List aJ),([]:List ai)⟩:af),0,false,(⟨([]:List ae),([]:List cr),([]:List eP),([]:List bC),(⟨0,([]:ae),([]:List ai),([]:List ae),(⟨0,([]:ae),0,([]:List am)⟩:am),([]:List am)⟩:ai),([]:List am)⟩:AP)⟩:cp))<|en (aI (va6 PVal.tuple (ij (GY (⟨([]:ae),([]:List ae),(⟨0,([]:ae),0,([]:List af),([]:List aw),([]:List aJ),([]:List ai)⟩:af),0,false,(⟨([]:List ae),([]:List cr),([]:List eP),([]:List bC),(⟨0,([]:ae),([]:List ai),([]:List ae),(⟨0,([]:ae),0,([]:List am)⟩:am),([]:List am)⟩:ai),([]:List am)⟩:AP)⟩:cp)) (ij (rP (.bool false)) (rfl:([]:List PVal)=[]))))<|(aI (jm (⟨([]:ae),([]:List ae),(⟨0,([]:ae),0,([]:List af),([]:List aw),([]:List aJ),([]:List ai)⟩:af),0,false,(⟨([]:List ae),([]:List cr),([]:List eP),([]:List bC),(⟨0,([]:ae),([]:List ai),([]:List ae),(⟨0,([]:ae),0,([]:List am)⟩:am),([]:List am)⟩:ai),([]:List am)⟩:AP)⟩:cp)) (aI trivial trivial)))
  exact Z33.v (aI (bp m) (aI trivial trivial)) z<|by kernel_rfl
noncomputable def qaP:Code:=f34.body.getD .skip
def ZI:List Nat:=[]
theorem Z34:ZF ZI 34 f34 qaP:=⟨call34,func34,rfl⟩
section
variable(name:ae)(m:aE)(i:Int)(m2:ae)(m3:waA)(m4:Int)(m5:ae)(m6:Int)(m7:waF)(m8:waE)(m9:waD)(m10:waC)(m11:Int)(m12:Bool)(m13:waA)(m14:waG)(m15:waH)(m16:waI)(m17:Int)(m18:ae)(m19:waC)(m20:waA)(m21:Int)(m22:ae)(m23:Int)(m24:waB)(m25:waB)(m26:waB)
def uS:aB:=aS 28 [(1,.str name),(2,.eptr (ay m)),(4,.bptr 1 0),(6,.int .i64 i)] [.dead,.cells [.str m2,sl cS m3,.int .i64 m4,.str m5,.int .i64 m6,sl ac m7,sl au m8,sl aA m9,sl ah m10,.int .i64 m11,.bool m12,sl cS m13,sl cW m14,sl eQ m15,sl cw m16,.int .i64 m17,.str m18,sl ah m19,sl cS m20,.int .i64 m21,.str m22,.int .i64 m23,sl al m24,sl al m25,sl al m26] [(1,9),(5,28),(6,85),(7,89),(8,60),(11,9),(12,250),(13,252),(14,254),(17,60),(18,9),(22,58),(23,58),(24,58)]] []
def uT(o:(ae×waA×Int×ae×Int×waF×waE×waD×waC×Int×Bool×waA×waG×waH×waI×Int×ae×waC×waA×Int×ae×Int×waB×waB×waB)⊕(ae×waA×Int×ae×Int×waF×waE×waD×waC×Int×Bool×waA×waG×waH×waI×Int×ae×waC×waA×Int×ae×Int×waB×waB×waB)):Exit:=match o with
 |(.inl _)=>.ret
 |(.inr _)=>.exit 0
def nl(o:(ae×waA×Int×ae×Int×waF×waE×waD×waC×Int×Bool×waA×waG×waH×waI×Int×ae×waC×waA×Int×ae×Int×waB×waB×waB)⊕(ae×waA×Int×ae×Int×waF×waE×waD×waC×Int×Bool×waA×waG×waH×waI×Int×ae×waC×waA×Int×ae×Int×waB×waB×waB)):aB:=match o with
 |(.inl o)=>aS 28 [(4,.bptr 1 0),(5,.bool true)] [.dead,.cells [.str o.1,sl cS o.2.1,.int .i64 o.2.2.1,.str o.2.2.2.1,.int .i64 o.2.2.2.2.1,sl ac o.2.2.2.2.2.1,sl au o.2.2.2.2.2.2.1,sl aA o.2.2.2.2.2.2.2.1,sl ah o.2.2.2.2.2.2.2.2.1,.int .i64 o.2.2.2.2.2.2.2.2.2.1,.bool o.2.2.2.2.2.2.2.2.2.2.1,sl cS o.2.2.2.2.2.2.2.2.2.2.2.1,sl cW o.2.2.2.2.2.2.2.2.2.2.2.2.1,sl eQ o.2.2.2.2.2.2.2.2.2.2.2.2.2.1,sl cw o.2.2.2.2.2.2.2.2.2.2.2.2.2.2.1,.int .i64 o.2.2.2.2.2.2.2.2.2.2.2.2.2.2.2.1,.str o.2.2.2.2.2.2.2.2.2.2.2.2.2.2.2.2.1,sl ah o.2.2.2.2.2.2.2.2.2.2.2.2.2.2.2.2.2.1,sl cS o.2.2.2.2.2.2.2.2.2.2.2.2.2.2.2.2.2.2.1,.int .i64 o.2.2.2.2.2.2.2.2.2.2.2.2.2.2.2.2.2.2.2.1,.str o.2.2.2.2.2.2.2.2.2.2.2.2.2.2.2.2.2.2.2.2.1,.int .i64 o.2.2.2.2.2.2.2.2.2.2.2.2.2.2.2.2.2.2.2.2.2.1,sl al o.2.2.2.2.2.2.2.2.2.2.2.2.2.2.2.2.2.2.2.2.2.2.1,sl al o.2.2.2.2.2.2.2.2.2.2.2.2.2.2.2.2.2.2.2.2.2.2.2.1,sl al o.2.2.2.2.2.2.2.2.2.2.2.2.2.2.2.2.2.2.2.2.2.2.2.2] []] []
 |(.inr o)=>aS 28 [(4,.bptr 1 0)] [.dead,.cells [.str o.1,sl cS o.2.1,.int .i64 o.2.2.1,.str o.2.2.2.1,.int .i64 o.2.2.2.2.1,sl ac o.2.2.2.2.2.1,sl au o.2.2.2.2.2.2.1,sl aA o.2.2.2.2.2.2.2.1,sl ah o.2.2.2.2.2.2.2.2.1,.int .i64 o.2.2.2.2.2.2.2.2.2.1,.bool o.2.2.2.2.2.2.2.2.2.2.1,sl cS o.2.2.2.2.2.2.2.2.2.2.2.1,sl cW o.2.2.2.2.2.2.2.2.2.2.2.2.1,sl eQ o.2.2.2.2.2.2.2.2.2.2.2.2.2.1,sl cw o.2.2.2.2.2.2.2.2.2.2.2.2.2.2.1,.int .i64 o.2.2.2.2.2.2.2.2.2.2.2.2.2.2.2.1,.str o.2.2.2.2.2.2.2.2.2.2.2.2.2.2.2.2.1,sl ah o.2.2.2.2.2.2.2.2.2.2.2.2.2.2.2.2.2.1,sl cS o.2.2.2.2.2.2.2.2.2.2.2.2.2.2.2.2.2.2.1,.int .i64 o.2.2.2.2.2.2.2.2.2.2.2.2.2.2.2.2.2.2.2.1,.str o.2.2.2.2.2.2.2.2.2.2.2.2.2.2.2.2.2.2.2.2.1,.int .i64 o.2.2.2.2.2.2.2.2.2.2.2.2.2.2.2.2.2.2.2.2.2.1,sl al o.2.2.2.2.2.2.2.2.2.2.2.2.2.2.2.2.2.2.2.2.2.2.1,sl al o.2.2.2.2.2.2.2.2.2.2.2.2.2.2.2.2.2.2.2.2.2.2.2.1,sl al o.2.2.2.2.2.2.2.2.2.2.2.2.2.2.2.2.2.2.2.2.2.2.2.2] [(1,9),(5,28),(6,85),(7,89),(8,60),(11,9),(12,250),(13,252),(14,254),(17,60),(18,9),(22,58),(23,58),(24,58)]] []
def kY:Option ((Int×ae×waA×Int×ae×Int×waF×waE×waD×waC×Int×Bool×waA×waG×waH×waI×Int×ae×waC×waA×Int×ae×Int×waB×waB×waB)⊕((ae×waA×Int×ae×Int×waF×waE×waD×waC×Int×Bool×waA×waG×waH×waI×Int×ae×waC×waA×Int×ae×Int×waB×waB×waB)⊕(ae×waA×Int×ae×Int×waF×waE×waD×waC×Int×Bool×waA×waG×waH×waI×Int×ae×waC×waA×Int×ae×Int×waB×waB×waB))):=
 if(decide (i<(m.Defs.length:Int)))=true then
  (eT m.Defs i).bind fun x3=>
  if(x3.Name==name)=true then
   (eT m.Defs i).bind fun x6=>
   some (.inr (.inl (x6.Name,x6.Params,x6.Body.Op,x6.Body.Name,x6.Body.N,x6.Body.Kids,x6.Body.Params,x6.Body.Alts,x6.Body.Types,x6.Mode,x6.Typed,x6.Sig.Vars,x6.Sig.Needs,x6.Sig.Abs,x6.Sig.Bounds,x6.Sig.Type_.Op,x6.Sig.Type_.Name,x6.Sig.Type_.Args,x6.Sig.Type_.Names,x6.Sig.Type_.Pred.Op,x6.Sig.Type_.Pred.Name,x6.Sig.Type_.Pred.N,x6.Sig.Type_.Pred.Kids,x6.Sig.Type_.Preds,x6.Sig.Metric)))
  else
   some (.inl (bB (i+1),m2,m3,m4,m5,m6,m7,m8,m9,m10,m11,m12,m13,m14,m15,m16,m17,m18,m19,m20,m21,m22,m23,m24,m25,m26))
 else
  some (.inr (.inr (m2,m3,m4,m5,m6,m7,m8,m9,m10,m11,m12,m13,m14,m15,m16,m17,m18,m19,m20,m21,m22,m23,m24,m25,m26)))
def EU:Option ((ae×waA×Int×ae×Int×waF×waE×waD×waC×Int×Bool×waA×waG×waH×waI×Int×ae×waC×waA×Int×ae×Int×waB×waB×waB)⊕(ae×waA×Int×ae×Int×waF×waE×waD×waC×Int×Bool×waA×waG×waH×waI×Int×ae×waC×waA×Int×ae×Int×waB×waB×waB)):=loop (fun(zz:Int×ae×waA×Int×ae×Int×waF×waE×waD×waC×Int×Bool×waA×waG×waH×waI×Int×ae×waC×waA×Int×ae×Int×waB×waB×waB)=>kY name m zz.1 zz.2.1 zz.2.2.1 zz.2.2.2.1 zz.2.2.2.2.1 zz.2.2.2.2.2.1 zz.2.2.2.2.2.2.1 zz.2.2.2.2.2.2.2.1 zz.2.2.2.2.2.2.2.2.1 zz.2.2.2.2.2.2.2.2.2.1 zz.2.2.2.2.2.2.2.2.2.2.1 zz.2.2.2.2.2.2.2.2.2.2.2.1 zz.2.2.2.2.2.2.2.2.2.2.2.2.1 zz.2.2.2.2.2.2.2.2.2.2.2.2.2.1 zz.2.2.2.2.2.2.2.2.2.2.2.2.2.2.1 zz.2.2.2.2.2.2.2.2.2.2.2.2.2.2.2.1 zz.2.2.2.2.2.2.2.2.2.2.2.2.2.2.2.2.1 zz.2.2.2.2.2.2.2.2.2.2.2.2.2.2.2.2.2.1 zz.2.2.2.2.2.2.2.2.2.2.2.2.2.2.2.2.2.2.1 zz.2.2.2.2.2.2.2.2.2.2.2.2.2.2.2.2.2.2.2.1 zz.2.2.2.2.2.2.2.2.2.2.2.2.2.2.2.2.2.2.2.2.1 zz.2.2.2.2.2.2.2.2.2.2.2.2.2.2.2.2.2.2.2.2.2.1 zz.2.2.2.2.2.2.2.2.2.2.2.2.2.2.2.2.2.2.2.2.2.2.1 zz.2.2.2.2.2.2.2.2.2.2.2.2.2.2.2.2.2.2.2.2.2.2.2.1 zz.2.2.2.2.2.2.2.2.2.2.2.2.2.2.2.2.2.2.2.2.2.2.2.2.1 zz.2.2.2.2.2.2.2.2.2.2.2.2.2.2.2.2.2.2.2.2.2.2.2.2.2) (i,m2,m3,m4,m5,m6,m7,m8,m9,m10,m11,m12,m13,m14,m15,m16,m17,m18,m19,m20,m21,m22,m23,m24,m25,m26)
theorem KS{y:(Int×ae×waA×Int×ae×Int×waF×waE×waD×waC×Int×Bool×waA×waG×waH×waI×Int×ae×waC×waA×Int×ae×Int×waB×waB×waB)⊕((ae×waA×Int×ae×Int×waF×waE×waD×waC×Int×Bool×waA×waG×waH×waI×Int×ae×waC×waA×Int×ae×Int×waB×waB×waB)⊕(ae×waA×Int×ae×Int×waF×waE×waD×waC×Int×Bool×waA×waG×waH×waI×Int×ae×waC×waA×Int×ae×Int×waB×waB×waB))}(h:kY name m i m2 m3 m4 m5 m6 m7 m8 m9 m10 m11 m12 m13 m14 m15 m16 m17 m18 m19 m20 m21 m22 m23 m24 m25 m26=some y):aW Pg GE 0 (cA qaP 55) (LQ (fun(zz:Int×ae×waA×Int×ae×Int×waF×waE×waD×waC×Int×Bool×waA×waG×waH×waI×Int×ae×waC×waA×Int×ae×Int×waB×waB×waB)=>uS name m zz.1 zz.2.1 zz.2.2.1 zz.2.2.2.1 zz.2.2.2.2.1 zz.2.2.2.2.2.1 zz.2.2.2.2.2.2.1 zz.2.2.2.2.2.2.2.1 zz.2.2.2.2.2.2.2.2.1 zz.2.2.2.2.2.2.2.2.2.1 zz.2.2.2.2.2.2.2.2.2.2.1 zz.2.2.2.2.2.2.2.2.2.2.2.1 zz.2.2.2.2.2.2.2.2.2.2.2.2.1 zz.2.2.2.2.2.2.2.2.2.2.2.2.2.1 zz.2.2.2.2.2.2.2.2.2.2.2.2.2.2.1 zz.2.2.2.2.2.2.2.2.2.2.2.2.2.2.2.1 zz.2.2.2.2.2.2.2.2.2.2.2.2.2.2.2.2.1 zz.2.2.2.2.2.2.2.2.2.2.2.2.2.2.2.2.2.1 zz.2.2.2.2.2.2.2.2.2.2.2.2.2.2.2.2.2.2.1 zz.2.2.2.2.2.2.2.2.2.2.2.2.2.2.2.2.2.2.2.1 zz.2.2.2.2.2.2.2.2.2.2.2.2.2.2.2.2.2.2.2.2.1 zz.2.2.2.2.2.2.2.2.2.2.2.2.2.2.2.2.2.2.2.2.2.1 zz.2.2.2.2.2.2.2.2.2.2.2.2.2.2.2.2.2.2.2.2.2.2.1 zz.2.2.2.2.2.2.2.2.2.2.2.2.2.2.2.2.2.2.2.2.2.2.2.1 zz.2.2.2.2.2.2.2.2.2.2.2.2.2.2.2.2.2.2.2.2.2.2.2.2.1 zz.2.2.2.2.2.2.2.2.2.2.2.2.2.2.2.2.2.2.2.2.2.2.2.2.2) uT nl y) (uS name m i m2 m3 m4 m5 m6 m7 m8 m9 m10 m11 m12 m13 m14 m15 m16 m17 m18 m19 m20 m21 m22 m23 m24 m25 m26):=by
 have p2:=fun{sc F} (r:PS sc F)=>sv (dO m)<|sv (dP m)<|bQ (rF.ln m.Defs)<|r
 rcases aO h with⟨c1,h⟩|⟨c1,h⟩
 ·obtain⟨x3,bx3,h⟩:=ck h
  have p5:=fun{sc F} (r:PS sc F)=>p2<|sg 0 c1<|sv (dO m)<|sv (dP m)<|sv (rF.ia (k:=.i64) bx3)<|sv (ON x3)<|sv (Qo x3)<|r
  rcases aO h with⟨c4,h⟩|⟨c4,h⟩
  ·obtain⟨x6,bx6,h⟩:=ck h
   obtain rfl:=lf h
   have z:=p5<|sg 0 c4<|sv (dO m)<|sv (dP m)<|sv (rF.ia (k:=.i64) bx6)<|sv (O5 x6)<|sx (tQ x6)<|eF (uT (.inl (x6.Name,x6.Params,x6.Body.Op,x6.Body.Name,x6.Body.N,x6.Body.Kids,x6.Body.Params,x6.Body.Alts,x6.Body.Types,x6.Mode,x6.Typed,x6.Sig.Vars,x6.Sig.Needs,x6.Sig.Abs,x6.Sig.Bounds,x6.Sig.Type_.Op,x6.Sig.Type_.Name,x6.Sig.Type_.Args,x6.Sig.Type_.Names,x6.Sig.Type_.Pred.Op,x6.Sig.Type_.Pred.Name,x6.Sig.Type_.Pred.N,x6.Sig.Type_.Pred.Kids,x6.Sig.Type_.Preds,x6.Sig.Metric))) (nl (.inl (x6.Name,x6.Params,x6.Body.Op,x6.Body.Name,x6.Body.N,x6.Body.Kids,x6.Body.Params,x6.Body.Alts,x6.Body.Types,x6.Mode,x6.Typed,x6.Sig.Vars,x6.Sig.Needs,x6.Sig.Abs,x6.Sig.Bounds,x6.Sig.Type_.Op,x6.Sig.Type_.Name,x6.Sig.Type_.Args,x6.Sig.Type_.Names,x6.Sig.Type_.Pred.Op,x6.Sig.Type_.Pred.Name,x6.Sig.Type_.Pred.N,x6.Sig.Type_.Pred.Kids,x6.Sig.Type_.Preds,x6.Sig.Metric)))
   exact hU ZI (Zn rfl) z<|by kernel_rfl
  ·obtain rfl:=lf h
   exact wJ ZI (p5<|sg 0 c4<|eF .normal (uS name m (bB (i+1)) m2 m3 m4 m5 m6 m7 m8 m9 m10 m11 m12 m13 m14 m15 m16 m17 m18 m19 m20 m21 m22 m23 m24 m25 m26))<|by kernel_rfl
 ·obtain rfl:=lf h
  have z:=p2<|sg 0 c1<|eF (uT (.inr (m2,m3,m4,m5,m6,m7,m8,m9,m10,m11,m12,m13,m14,m15,m16,m17,m18,m19,m20,m21,m22,m23,m24,m25,m26))) (nl (.inr (m2,m3,m4,m5,m6,m7,m8,m9,m10,m11,m12,m13,m14,m15,m16,m17,m18,m19,m20,m21,m22,m23,m24,m25,m26)))
  exact hU ZI (Zn rfl) z<|by kernel_rfl
theorem D8{x:(ae×waA×Int×ae×Int×waF×waE×waD×waC×Int×Bool×waA×waG×waH×waI×Int×ae×waC×waA×Int×ae×Int×waB×waB×waB)⊕(ae×waA×Int×ae×Int×waF×waE×waD×waC×Int×Bool×waA×waG×waH×waI×Int×ae×waC×waA×Int×ae×Int×waB×waB×waB)}(h:EU name m i m2 m3 m4 m5 m6 m7 m8 m9 m10 m11 m12 m13 m14 m15 m16 m17 m18 m19 m20 m21 m22 m23 m24 m25 m26=some x):aW Pg GE 0 (.loop (cA qaP 55)) (EX (uT x) (nl x)) (uS name m i m2 m3 m4 m5 m6 m7 m8 m9 m10 m11 m12 m13 m14 m15 m16 m17 m18 m19 m20 m21 m22 m23 m24 m25 m26):=
 ZL h fun _ _ hy=>KS _ _ _ _ _ _ _ _ _ _ _ _ _ _ _ _ _ _ _ _ _ _ _ _ _ _ _ _ hy
end
def FY(m:aE)(name:ae):Option (cp×Bool):=
 (EU name m 0 ([]:ae) ([]:List ae) 0 ([]:ae) 0 ([]:List af) ([]:List aw) ([]:List aJ) ([]:List ai) 0 false ([]:List ae) ([]:List cr) ([]:List eP) ([]:List bC) 0 ([]:ae) ([]:List ai) ([]:List ae) 0 ([]:ae) 0 ([]:List am) ([]:List am) ([]:List am)).bind fun o7=>match o7 with
 |(.inl o7)=>
  some ((⟨o7.1,o7.2.1,(⟨o7.2.2.1,o7.2.2.2.1,o7.2.2.2.2.1,o7.2.2.2.2.2.1,o7.2.2.2.2.2.2.1,o7.2.2.2.2.2.2.2.1,o7.2.2.2.2.2.2.2.2.1⟩:af),o7.2.2.2.2.2.2.2.2.2.1,o7.2.2.2.2.2.2.2.2.2.2.1,(⟨o7.2.2.2.2.2.2.2.2.2.2.2.1,o7.2.2.2.2.2.2.2.2.2.2.2.2.1,o7.2.2.2.2.2.2.2.2.2.2.2.2.2.1,o7.2.2.2.2.2.2.2.2.2.2.2.2.2.2.1,(⟨o7.2.2.2.2.2.2.2.2.2.2.2.2.2.2.2.1,o7.2.2.2.2.2.2.2.2.2.2.2.2.2.2.2.2.1,o7.2.2.2.2.2.2.2.2.2.2.2.2.2.2.2.2.2.1,o7.2.2.2.2.2.2.2.2.2.2.2.2.2.2.2.2.2.2.1,(⟨o7.2.2.2.2.2.2.2.2.2.2.2.2.2.2.2.2.2.2.2.1,o7.2.2.2.2.2.2.2.2.2.2.2.2.2.2.2.2.2.2.2.2.1,o7.2.2.2.2.2.2.2.2.2.2.2.2.2.2.2.2.2.2.2.2.2.1,o7.2.2.2.2.2.2.2.2.2.2.2.2.2.2.2.2.2.2.2.2.2.2.1⟩:am),o7.2.2.2.2.2.2.2.2.2.2.2.2.2.2.2.2.2.2.2.2.2.2.2.1⟩:ai),o7.2.2.2.2.2.2.2.2.2.2.2.2.2.2.2.2.2.2.2.2.2.2.2.2⟩:AP)⟩:cp),true)
 |(.inr o7)=>
  some ((⟨([]:ae),([]:List ae),(⟨0,([]:ae),0,([]:List af),([]:List aw),([]:List aJ),([]:List ai)⟩:af),0,false,(⟨([]:List ae),([]:List cr),([]:List eP),([]:List bC),(⟨0,([]:ae),([]:List ai),([]:List ae),(⟨0,([]:ae),0,([]:List am)⟩:am),([]:List am)⟩:ai),([]:List am)⟩:AP)⟩:cp),false)
theorem KT{m:aE}{name:ae}{r:cp×Bool}(h:FY m name=some r):CC Pg GE 34 [.agg (ay m),.str name] (.tuple [.agg (aX r.1),.bool r.2]) []:=by
 obtain⟨o7,bo7,h⟩:=ck h
 rcases o7 with o7|o7
 ·obtain rfl:=lf h
  have z:=se (gr m)<|sx Pr<|cT (e:=.ret) (s1:=nl (.inl o7)) (D8 name m 0 ([]:ae) ([]:List ae) 0 ([]:ae) 0 ([]:List af) ([]:List aw) ([]:List aJ) ([]:List ai) 0 false ([]:List ae) ([]:List cr) ([]:List eP) ([]:List bC) 0 ([]:ae) ([]:List ai) ([]:List ae) 0 ([]:ae) 0 ([]:List am) ([]:List am) ([]:List am) bo7)<|en (aI (va6 PVal.tuple (ij (GY (⟨o7.1,o7.2.1,(⟨o7.2.2.1,o7.2.2.2.1,o7.2.2.2.2.1,o7.2.2.2.2.2.1,o7.2.2.2.2.2.2.1,o7.2.2.2.2.2.2.2.1,o7.2.2.2.2.2.2.2.2.1⟩:af),o7.2.2.2.2.2.2.2.2.2.1,o7.2.2.2.2.2.2.2.2.2.2.1,(⟨o7.2.2.2.2.2.2.2.2.2.2.2.1,o7.2.2.2.2.2.2.2.2.2.2.2.2.1,o7.2.2.2.2.2.2.2.2.2.2.2.2.2.1,o7.2.2.2.2.2.2.2.2.2.2.2.2.2.2.1,(⟨o7.2.2.2.2.2.2.2.2.2.2.2.2.2.2.2.1,o7.2.2.2.2.2.2.2.2.2.2.2.2.2.2.2.2.1,o7.2.2.2.2.2.2.2.2.2.2.2.2.2.2.2.2.2.1,o7.2.2.2.2.2.2.2.2.2.2.2.2.2.2.2.2.2.2.1,(⟨o7.2.2.2.2.2.2.2.2.2.2.2.2.2.2.2.2.2.2.2.1,o7.2.2.2.2.2.2.2.2.2.2.2.2.2.2.2.2.2.2.2.2.1,o7.2.2.2.2.2.2.2.2.2.2.2.2.2.2.2.2.2.2.2.2.2.1,o7.2.2.2.2.2.2.2.2.2.2.2.2.2.2.2.2.2.2.2.2.2.2.1⟩:am),o7.2.2.2.2.2.2.2.2.2.2.2.2.2.2.2.2.2.2.2.2.2.2.2.1⟩:ai),o7.2.2.2.2.2.2.2.2.2.2.2.2.2.2.2.2.2.2.2.2.2.2.2.2⟩:AP)⟩:cp)) (ij (rP (.bool true)) (rfl:([]:List PVal)=[]))))<|(aI (jm (⟨o7.1,o7.2.1,(⟨o7.2.2.1,o7.2.2.2.1,o7.2.2.2.2.1,o7.2.2.2.2.2.1,o7.2.2.2.2.2.2.1,o7.2.2.2.2.2.2.2.1,o7.2.2.2.2.2.2.2.2.1⟩:af),o7.2.2.2.2.2.2.2.2.2.1,o7.2.2.2.2.2.2.2.2.2.2.1,(⟨o7.2.2.2.2.2.2.2.2.2.2.2.1,o7.2.2.2.2.2.2.2.2.2.2.2.2.1,o7.2.2.2.2.2.2.2.2.2.2.2.2.2.1,o7.2.2.2.2.2.2.2.2.2.2.2.2.2.2.1,(⟨o7.2.2.2.2.2.2.2.2.2.2.2.2.2.2.2.1,o7.2.2.2.2.2.2.2.2.2.2.2.2.2.2.2.2.1,o7.2.2.2.2.2.2.2.2.2.2.2.2.2.2.2.2.2.1,o7.2.2.2.2.2.2.2.2.2.2.2.2.2.2.2.2.2.2.1,(⟨o7.2.2.2.2.2.2.2.2.2.2.2.2.2.2.2.2.2.2.2.1,o7.2.2.2.2.2.2.2.2.2.2.2.2.2.2.2.2.2.2.2.2.1,o7.2.2.2.2.2.2.2.2.2.2.2.2.2.2.2.2.2.2.2.2.2.1,o7.2.2.2.2.2.2.2.2.2.2.2.2.2.2.2.2.2.2.2.2.2.2.1⟩:am),o7.2.2.2.2.2.2.2.2.2.2.2.2.2.2.2.2.2.2.2.2.2.2.2.1⟩:ai),o7.2.2.2.2.2.2.2.2.2.2.2.2.2.2.2.2.2.2.2.2.2.2.2.2⟩:AP)⟩:cp)) (aI trivial trivial)))
  exact Z34.v (aI (bp m) (aI trivial trivial)) z<|by kernel_rfl
 ·obtain rfl:=lf h
  have z:=se (gr m)<|sx Pr<|cT (e:=.exit 0) (s1:=nl (.inr o7)) (D8 name m 0 ([]:ae) ([]:List ae) 0 ([]:ae) 0 ([]:List af) ([]:List aw) ([]:List aJ) ([]:List ai) 0 false ([]:List ae) ([]:List cr) ([]:List eP) ([]:List bC) 0 ([]:ae) ([]:List ai) ([]:List ae) 0 ([]:ae) 0 ([]:List am) ([]:List am) ([]:List am) bo7)<|sb (Nt) (Ns)<|sy (jn (⟨([]:ae),([]:List ae),(⟨0,([]:ae),0,([]:List af),([]:List aw),([]:List aJ),([]:List ai)⟩:af),0,false,(⟨([]:List ae),([]:List cr),([]:List eP),([]:List bC),(⟨0,([]:ae),([]:List ai),([]:List ae),(⟨0,([]:ae),0,([]:List am)⟩:am),([]:List am)⟩:ai),([]:List am)⟩:AP)⟩:cp))<|en (aI (va6 PVal.tuple (ij (GY (⟨([]:ae),([]:List ae),(⟨0,([]:ae),0,([]:List af),([]:List aw),([]:List aJ),([]:List ai)⟩:af),0,false,(⟨([]:List ae),([]:List cr),([]:List eP),([]:List bC),(⟨0,([]:ae),([]:List ai),([]:List ae),(⟨0,([]:ae),0,([]:List am)⟩:am),([]:List am)⟩:ai),([]:List am)⟩:AP)⟩:cp)) (ij (rP (.bool false)) (rfl:([]:List PVal)=[]))))<|(aI (jm (⟨([]:ae),([]:List ae),(⟨0,([]:ae),0,([]:List af),([]:List aw),([]:List aJ),([]:List ai)⟩:af),0,false,(⟨([]:List ae),([]:List cr),([]:List eP),([]:List bC),(⟨0,([]:ae),([]:List ai),([]:List ae),(⟨0,([]:ae),0,([]:List am)⟩:am),([]:List am)⟩:ai),([]:List am)⟩:AP)⟩:cp)) (aI trivial trivial)))
  exact Z34.v (aI (bp m) (aI trivial trivial)) z<|by kernel_rfl
end Go.Proofs.YtkdahfeiedaahaaGreatDoor
