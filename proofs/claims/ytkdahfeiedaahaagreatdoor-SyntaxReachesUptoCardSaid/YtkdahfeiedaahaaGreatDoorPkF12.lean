/- PROVED: a part of the proof. Conditions: none. -/
import Derived.Test.YtkdahfeiedaahaaGreatDoorPkF11
noncomputable section
namespace Go.Proofs.YtkdahfeiedaahaaGreatDoor
open Go Go.Proofs.Tryz
set_option linter.unusedVariables false
set_option maxRecDepth 100000
noncomputable def Rx:Code:=f107.body.getD .skip
def Rm:List Nat:=[14,21]
theorem Z107:ZF Rm 107 f107 Rx:=⟨call107,func107,rfl⟩
section
variable(v:Bool)(t8:waE)(t9:Int)(v2:(List ac))(out:waE)(t10:Int)(m:waA)(m2:(List ac))
def bu:aB:=bg 22 [(1,.func (.func 108) [] [.eptr (cB v),.bptr 0 0]),(5,sl aw out),(8,sl aw t8),(9,.int .i64 t9),(10,.int .i64 t10)] [.cells [.func (.func 105) [] [.bptr 1 0,.eptr ((cL aa) v2),.bptr 3 0]] [],.cells [.func (.func 62) [] [.bptr 2 0],.func (.func 61) [] []] [],.cells [sl cS m] [(0,9)],.cells [sl aa m2] [(0,137)]] [((5,0),85)]
def bX(o:waE×waA×(List ac)):aB:=bg 22 [(5,sl aw o.1)] [.cells [.func (.func 105) [] [.bptr 1 0,.eptr ((cL aa) v2),.bptr 3 0]] [],.cells [.func (.func 62) [] [.bptr 2 0],.func (.func 61) [] []] [],.cells [sl cS o.2.1] [(0,9)],.cells [sl aa o.2.2] [(0,137)]] [((5,0),85)]
def dA:Option ((waE×Int×waA×(List ac))⊕((waE×waA×(List ac)))):=
 if(decide (t10<t9))=true then
  (gn t8 t10).bind fun x2=>
  (eE x2 v v2 m m2).bind fun r3=>
  (app out ([r3.1]:List ax)).bind fun l4=>
  some (.inl (l4,bV (t10+1),r3.2.1,r3.2.2))
 else
  some (.inr (out,m,m2))
def dG:Option ((waE×waA×(List ac))):=loop (fun(zz:waE×Int×waA×(List ac))=>dA v t8 t9 v2 zz.1 zz.2.1 zz.2.2.1 zz.2.2.2) (out,t10,m,m2)
theorem fX{y:(waE×Int×waA×(List ac))⊕((waE×waA×(List ac)))}(h:dA v t8 t9 v2 out t10 m m2=some y):bh Pg GE 4 (cA Rx 119) (LQ (fun(zz:waE×Int×waA×(List ac))=>bu v t8 t9 v2 zz.1 zz.2.1 zz.2.2.1 zz.2.2.2) (fun _=>.exit 0) (bX v2) y) (bu v t8 t9 v2 out t10 m m2):=by
 rcases aQ h with⟨c1,h⟩|⟨c1,h⟩
 ·obtain⟨x2,bx2,r3,br3,l4,bl4,h⟩:=Zb3 h
  obtain rfl:=lf h
  have z:=sg 0 c1<|sv (mV.ia (k:=.i64) bx2)<|sv (Co x2)<|sx SC<|sx (nl x2)<|sv (JY x2 [])<|si (.cg ⟨[0,1,2,3],[.agg (aw x2),.eptr (cB v),.bptr 0 0],[],[.cells [.func (.func 105) [] [.bptr 1 0,.eptr ((cL aa) v2),.bptr 3 0]] [],.cells [.func (.func 62) [] [.bptr 2 0],.func (.func 61) [] []] [],.cells [sl cS m] [(0,9)],.cells [sl aa m2] [(0,137)]],[.cells [.func (.func 105) [] [.bptr 1 0,.eptr ((cL aa) v2),.bptr 3 0]] [],.cells [.func (.func 62) [] [.bptr 2 0],.func (.func 61) [] []] [],.cells [sl cS m] [(0,9)],.cells [sl aa m2] [(0,137)]],[.cells [.func (.func 105) [] [.bptr 1 0,.eptr ((cL aa) v2),.bptr 3 0]] [],.cells [.func (.func 62) [] [.bptr 2 0],.func (.func 61) [] []] [],.cells [sl cS r3.2.1] [(0,9)],.cells [sl aa r3.2.2] [(0,137)]],[.cells [.func (.func 105) [] [.bptr 1 0,.eptr ((cL aa) v2),.bptr 3 0]] [],.cells [.func (.func 62) [] [.bptr 2 0],.func (.func 61) [] []] [],.cells [sl cS r3.2.1] [(0,9)],.cells [sl aa r3.2.2] [(0,137)]],.agg (aw r3.1),.agg (aw r3.1),[]⟩) (iT br3)<|sf (aI (xR [0,1,2,3] (.agg (aw x2)) (aY x2)) (aI (xR [0,1,2,3] (.eptr (cB v)) (XJ v)) (aI (xB [0,1,2,3] 0 0 0 rfl) trivial)))<|sf (aI (aI (rB (.cells [.func (.func 105) [] [.bptr 1 0,.eptr ((cL aa) v2),.bptr 3 0]] [])) (aI (rW []) (aI (xF [0,1,2,3] (.func 105) [] [.bptr 1 0,.eptr ((cL aa) v2),.bptr 3 0] [] [.bptr 1 0,.eptr ((cL aa) v2),.bptr 3 0] trivial (aI (xB [0,1,2,3] 1 1 0 rfl) (aI (xR [0,1,2,3] (.eptr ((cL aa) v2)) (mT au v2)) (aI (xB [0,1,2,3] 3 3 0 rfl) trivial)))) trivial))) (aI (aI (rB (.cells [.func (.func 62) [] [.bptr 2 0],.func (.func 61) [] []] [])) (aI (rW []) (aI (xF [0,1,2,3] (.func 62) [] [.bptr 2 0] [] [.bptr 2 0] trivial (aI (xB [0,1,2,3] 2 2 0 rfl) trivial)) (aI (xR [0,1,2,3] (.func (.func 61) [] []) (aI trivial trivial)) trivial)))) (aI (aI (rB (.cells [sl cS m] [(0,9)])) (aI (rW [(0,9)]) (aI (xR [0,1,2,3] (sl cS m) (ak bD m)) trivial))) (aI (aI (rB (.cells [sl aa m2] [(0,137)])) (aI (rW [(0,137)]) (aI (xR [0,1,2,3] (sl aa m2) (ak au m2)) trivial))) trivial))))<|sf (aI (aI (rW []) (aI (xF [0,1,2,3] (.func 105) [] [.bptr 1 0,.eptr ((cL aa) v2),.bptr 3 0] [] [.bptr 1 0,.eptr ((cL aa) v2),.bptr 3 0] trivial (aI (xB [0,1,2,3] 1 1 0 rfl) (aI (xR [0,1,2,3] (.eptr ((cL aa) v2)) (mT au v2)) (aI (xB [0,1,2,3] 3 3 0 rfl) trivial)))) trivial)) (aI (aI (rW []) (aI (xF [0,1,2,3] (.func 62) [] [.bptr 2 0] [] [.bptr 2 0] trivial (aI (xB [0,1,2,3] 2 2 0 rfl) trivial)) (aI (xR [0,1,2,3] (.func (.func 61) [] []) (aI trivial trivial)) trivial))) (aI (aI (rW [(0,9)]) (aI (xR [0,1,2,3] (sl cS r3.2.1) (ak bD r3.2.1)) trivial)) (aI (aI (rW [(0,137)]) (aI (xR [0,1,2,3] (sl aa r3.2.2) (ak au r3.2.2)) trivial)) trivial))))<|sf (xR [0,1,2,3] (.agg (aw r3.1)) (aY r3.1))<|sv (mV.mk' (v:=B7) zw ([r3.1]:List ax) 1 (by kernel_rfl))<|sv (mV.ap bl4)<|ue 4 .normal (bu v t8 t9 v2 l4 (bV (t10+1)) r3.2.1 r3.2.2) rfl (dU (aI (aI trivial (aI (aZ (XJ v)) (aI (aW rfl) trivial))) (aI (up (ak aY l4)) (aI (up (ak aY t8)) (aI trivial (aI trivial trivial)))))) (aI (aI (aI trivial (aI (aW rfl) (aI (aZ (mT au v2)) (aI (aW rfl) trivial)))) trivial) (aI (aI (aI trivial (aI (aW rfl) trivial)) (aI (aI trivial trivial) trivial)) (aI (aI (up (ak bD r3.2.1)) trivial) (aI (aI (up (ak au r3.2.2)) trivial) trivial))))
  exact ed (A:=Rm) mixed z<|by kernel_rfl
 ·obtain rfl:=lf h
  have z:=sg 0 c1<|eF (.exit 0) (bX v2 (out,m,m2))
  exact jy Rm (Zn rfl) z<|by kernel_rfl
theorem ga{x:(waE×waA×(List ac))}(h:dG v t8 t9 v2 out t10 m m2=some x):bh Pg GE 4 (.loop (cA Rx 119)) (EX (.exit 0) (bX v2 x)) (bu v t8 t9 v2 out t10 m m2):=
 ZL h fun _ _ hy=>fX _ _ _ _ _ _ _ _ hy
end
def dV(a:waE)(c:Bool)(c2:(List ac))(k2:waA)(k3:(List ac)):Option (waE×waA×(List ac)):=
 (dG c a (a.length:Int) c2 ([]:List ax) 0 k2 k3).bind fun o5=>
 some (o5.1,o5.2.1,o5.2.2)
theorem gO{a:waE}{c:Bool}{c2:(List ac)}{k2:waA}{k3:(List ac)}{r:waE×waA×(List ac)}(h:dV a c c2 k2 k3=some r):C Pg GE 107 [sl aw a,.func (.func 108) [] [.eptr (cB c),.bptr 0 0]] [] [.cells [.func (.func 105) [] [.bptr 1 0,.eptr ((cL aa) c2),.bptr 3 0]] [],.cells [.func (.func 62) [] [.bptr 2 0],.func (.func 61) [] []] [],.cells [sl cS k2] [(0,9)],.cells [sl aa k3] [(0,137)]] (sl aw r.1) [(0,85)] [.cells [.func (.func 105) [] [.bptr 1 0,.eptr ((cL aa) c2),.bptr 3 0]] [],.cells [.func (.func 62) [] [.bptr 2 0],.func (.func 61) [] []] [],.cells [sl cS r.2.1] [(0,9)],.cells [sl aa r.2.2] [(0,137)]]:=by
 obtain⟨o5,bo5,h⟩:=cP h
 obtain rfl:=lf h
 have z:=bW (mV.ln a)<|du (ga c a (a.length:Int) c2 ([]:List ax) 0 k2 k3 bo5)<|en (aI (rP (sl aw o5.1))<|aI (up (n:=4) (ak aY o5.1))<|aI (rL [.cells [.func (.func 105) [] [.bptr 1 0,.eptr ((cL aa) c2),.bptr 3 0]] [],.cells [.func (.func 62) [] [.bptr 2 0],.func (.func 61) [] []] [],.cells [sl cS o5.2.1] [(0,9)],.cells [sl aa o5.2.2] [(0,137)]])<|(aI (aI (aI trivial (aI (aW (i:=1) (n:=4) rfl) (aI (aZ (n:=4) (mT au c2)) (aI (aW (i:=3) (n:=4) rfl) trivial)))) trivial) (aI (aI (aI trivial (aI (aW (i:=2) (n:=4) rfl) trivial)) (aI (aI trivial trivial) trivial)) (aI (aI (up (n:=4) (ak bD o5.2.1)) trivial) (aI (aI (up (n:=4) (ak au o5.2.2)) trivial) trivial)))))
 exact Z107.g (m:=4) rfl z<|by kernel_rfl
noncomputable def Rz:Code:=f110.body.getD .skip
def Rp:List Nat:=[24,28]
theorem Z110:ZF Rp 110 f110 Rz:=⟨call110,func110,rfl⟩
section
variable(t1:(List ac))(v:aG)(t13:waA)(t14:Int)(m2:waF)(m3:waE)(m4:waD)(m5:waB)(v2:(List ac))(v3:waA)(t15:Int)(m:waA)
def cZ:aB:=bg 44 [(1,.eptr ((cL aa) t1)),(2,.bptr 0 0),(3,.eptr (aA v)),(4,.bptr 3 0),(5,sl aa v2),(6,sl cS v3),(13,sl cS t13),(14,.int .i64 t14),(15,.int .i64 t15)] [.cells [.func (.func 62) [] [.bptr 1 0],.func (.func 61) [] []] [],.cells [sl cS m] [(0,9)],.dead,.cells [.str ([]:af),sl cS ([]:List af),.int .i64 0,.str ([]:af),.int .i64 0,sl ae m2,sl aw m3,sl aA m4,sl ai m5] [(1,9),(5,28),(6,85),(7,89),(8,60)]] [((6,0),9),((5,0),137)]
def ee(o:(List ac)×waA×waA):aB:=bg 44 [(2,.bptr 0 0),(3,.eptr (aA v)),(4,.bptr 3 0),(5,sl aa o.1),(6,sl cS o.2.1)] [.cells [.func (.func 62) [] [.bptr 1 0],.func (.func 61) [] []] [],.cells [sl cS o.2.2] [(0,9)],.dead,.cells [.str ([]:af),sl cS ([]:List af),.int .i64 0,.str ([]:af),.int .i64 0,sl ae m2,sl aw m3,sl aA m4,sl ai m5] [(1,9),(5,28),(6,85),(7,89),(8,60)]] [((6,0),9),((5,0),137)]
def gD:Option (((List ac)×waA×Int×waA)⊕(((List ac)×waA×waA))):=
 if(decide (t15<t14))=true then
  (gn t13 t15).bind fun x3=>
  (tR x3 t1 m).bind fun r4=>
  (app v3 ([r4.1]:List af)).bind fun l5=>
  (app v2 ([(⟨x3,r4.1⟩:ac)]:List ac)).bind fun l6=>
  some (.inl (l6,l5,bV (t15+1),r4.2))
 else
  some (.inr (v2,v3,m))
def im:Option (((List ac)×waA×waA)):=loop (fun(zz:(List ac)×waA×Int×waA)=>gD t1 t13 t14 zz.1 zz.2.1 zz.2.2.1 zz.2.2.2) (v2,v3,t15,m)
theorem lO{y:((List ac)×waA×Int×waA)⊕(((List ac)×waA×waA))}(h:gD t1 t13 t14 v2 v3 t15 m=some y):bh Pg GE 2 (cA Rz 247) (LQ (fun(zz:(List ac)×waA×Int×waA)=>cZ t1 v t13 t14 m2 m3 m4 m5 zz.1 zz.2.1 zz.2.2.1 zz.2.2.2) (fun _=>.exit 0) (ee v m2 m3 m4 m5) y) (cZ t1 v t13 t14 m2 m3 m4 m5 v2 v3 t15 m):=by
 rcases aQ h with⟨c2,h⟩|⟨c2,h⟩
 ·obtain⟨x3,bx3,r4,br4,l5,bl5,l6,bl6,h⟩:=Zb4 h
  obtain rfl:=lf h
  exact AC Rp (sg 0 c2<|sv (dp.ia (k:=.i64) bx3)<|sv (cY ED (.str x3) [])<|ss<|sv (cY Iy (sl aa t1) [])<|si (.cg ⟨[1],[.str x3,sl aa t1,.bptr 0 0],[],[.cells [sl cS m] [(0,9)]],[.cells [sl cS m] [(0,9)]],[.cells [sl cS r4.2] [(0,9)]],[.cells [sl cS r4.2] [(0,9)]],.str r4.1,.str r4.1,[]⟩) (wd br4)<|sf (aI (xR [1] (.str x3) trivial) (aI (xR [1] (sl aa t1) (ak au t1)) (aI (xB [1] 0 1 0 rfl) trivial)))<|sf (aI (aI (rB (.cells [sl cS m] [(0,9)])) (aI (rW [(0,9)]) (aI (xR [1] (sl cS m) (ak bD m)) trivial))) trivial)<|sf (aI (aI (rW [(0,9)]) (aI (xR [1] (sl cS r4.2) (ak bD r4.2)) trivial)) trivial)<|sf (xR [1] (.str r4.1) trivial)<|sv (dp.mk' (v:=PVal.str) NF ([r4.1]:List af) 1 (by kernel_rfl))<|sv (dp.ap bl5)<|sv (lG x3 r4.1)<|sv (Ku.mk' (v:=oR) pk ([(⟨x3,r4.1⟩:ac)]:List ac) 1 (by kernel_rfl))<|sv (Ku.ap bl6)<|eF .normal (cZ t1 v t13 t14 m2 m3 m4 m5 l6 l5 (bV (t15+1)) r4.2))<|by kernel_rfl
 ·obtain rfl:=lf h
  have z:=sg 0 c2<|eF (.exit 0) (ee v m2 m3 m4 m5 (v2,v3,m))
  exact jy Rp (Zn rfl) z<|by kernel_rfl
theorem ma{x:((List ac)×waA×waA)}(h:im t1 t13 t14 v2 v3 t15 m=some x):bh Pg GE 2 (.loop (cA Rz 247)) (EX (.exit 0) (ee v m2 m3 m4 m5 x)) (cZ t1 v t13 t14 m2 m3 m4 m5 v2 v3 t15 m):=
 ZL h fun _ _ hy=>lO _ _ _ _ _ _ _ _ _ _ _ _ hy
end
def jm(R21:aX)(a:aG)(a2:(List ac))(k1:waA):Option (aG×waA):=
 (px a2).bind fun r1=>
 (im a2 a.Names (a.Names.length:Int) r1 ([]:List af) 0 k1).bind fun o7=>
 (R21 a.Body o7.1 o7.2.2).bind fun r8=>
 some ((⟨a.Con,o7.2.1,r8.1⟩:aG),r8.2)
theorem nr(R21:aX)(hR21:bG R21){a:aG}{a2:(List ac)}{k1:waA}{r:aG×waA}(h:jm R21 a a2 k1=some r):C Pg GE 110 [.agg (aA a),.eptr ((cL aa) a2),.bptr 0 0] [] [.cells [.func (.func 62) [] [.bptr 1 0],.func (.func 61) [] []] [],.cells [sl cS k1] [(0,9)]] (.agg (aA r.1)) [] [.cells [.func (.func 62) [] [.bptr 1 0],.func (.func 61) [] []] [],.cells [sl cS r.2] [(0,9)]]:=by
 obtain⟨r1,br1,o7,bo7,r8,br8,h⟩:=Zb3 h
 obtain rfl:=lf h
 have z:=se (Nj a)<|sx G4<|sv (cY Iy (sl aa a2) [])<|dj (wW br1)<|sv (uJ a)<|sv (uM a)<|bW (dp.ln a.Names)<|du (ma a2 a a.Names (a.Names.length:Int) ([]:List ag) ([]:List ax) ([]:List aG) ([]:List aj) r1 ([]:List af) 0 k1 bo7)<|Xx (.dx [0,1,0,0,0,16,0,120,255,511] [] [] [11,293,337])<|sv (zm a)<|sv (Bn a)<|sv (show bv Pg 95 [.func (.func 62) [] [.bptr 1 0],.func (.func 61) [] []]=some (.agg [.func (.func 62) [] [.bptr 1 0],.func (.func 61) [] []]) by kernel_rfl)<|sv (zn a)<|sv (zr a)<|si (.cg ⟨[1],[.agg [.func (.func 62) [] [.bptr 0 0],.func (.func 61) [] []],.agg (ae a.Body),sl aa o7.1],[],[.cells [sl cS o7.2.2] [(0,9)]],[.cells [sl cS o7.2.2] [(0,9)]],[.cells [sl cS r8.2] [(0,9)]],[.cells [sl cS r8.2] [(0,9)]],.agg (ae r8.1),.agg (ae r8.1),[(3,28),(4,85),(5,89),(6,60)]⟩) (hR21 _ _ _ _ br8)<|sf (aI (xA [1] [.func (.func 62) [] [.bptr 1 0],.func (.func 61) [] []] [.func (.func 62) [] [.bptr 0 0],.func (.func 61) [] []] (aI (xF [1] (.func 62) [] [.bptr 1 0] [] [.bptr 0 0] trivial (aI (xB [1] 0 1 0 rfl) trivial)) (aI (xR [1] (.func (.func 61) [] []) (aI trivial trivial)) trivial))) (aI (xR [1] (.agg (ae a.Body)) (ay a.Body)) (aI (xR [1] (sl aa o7.1) (ak au o7.1)) trivial)))<|sf (aI (aI (rB (.cells [sl cS o7.2.2] [(0,9)])) (aI (rW [(0,9)]) (aI (xR [1] (sl cS o7.2.2) (ak bD o7.2.2)) trivial))) trivial)<|sf (aI (aI (rW [(0,9)]) (aI (xR [1] (sl cS r8.2) (ak bD r8.2)) trivial)) trivial)<|sf (xR [1] (.agg (ae r8.1)) (ay r8.1))<|sv (Da a.Con o7.2.1 r8.1)<|sx (jz (⟨a.Con,o7.2.1,r8.1⟩:aG))<|en (aI (O9 (⟨a.Con,o7.2.1,r8.1⟩:aG))<|aI (YQ (n:=2) (bK (⟨a.Con,o7.2.1,r8.1⟩:aG)))<|aI (rL [.cells [.func (.func 62) [] [.bptr 1 0],.func (.func 61) [] []] [],.cells [sl cS r8.2] [(0,9)]])<|(aI (aI (aI trivial (aI (aW (i:=1) (n:=2) rfl) trivial)) (aI (aI trivial trivial) trivial)) (aI (aI (up (n:=2) (ak bD r8.2)) trivial) trivial)))
 exact Z110.g (m:=2) rfl z<|by kernel_rfl
noncomputable def Ry:Code:=f109.body.getD .skip
def Ro:List Nat:=[14,21]
theorem Z109:ZF Ro 109 f109 Ry:=⟨call109,func109,rfl⟩
section
variable(R21:aX)(v:(List ac))(t8:waD)(t9:Int)(out:waD)(t10:Int)(m:waA)
def cx:aB:=bg 22 [(1,.func (.func 110) [] [.eptr ((cL aa) v),.bptr 0 0]),(5,sl aA out),(8,sl aA t8),(9,.int .i64 t9),(10,.int .i64 t10)] [.cells [.func (.func 62) [] [.bptr 1 0],.func (.func 61) [] []] [],.cells [sl cS m] [(0,9)]] [((5,0),89)]
def dC(o:waD×waA):aB:=bg 22 [(5,sl aA o.1)] [.cells [.func (.func 62) [] [.bptr 1 0],.func (.func 61) [] []] [],.cells [sl cS o.2] [(0,9)]] [((5,0),89)]
def fE:Option ((waD×Int×waA)⊕((waD×waA))):=
 if(decide (t10<t9))=true then
  (gn t8 t10).bind fun x2=>
  (jm R21 x2 v m).bind fun r3=>
  (app out ([r3.1]:List aG)).bind fun l4=>
  some (.inl (l4,bV (t10+1),r3.2))
 else
  some (.inr (out,m))
def fQ:Option ((waD×waA)):=loop (fun(zz:waD×Int×waA)=>fE R21 v t8 t9 zz.1 zz.2.1 zz.2.2) (out,t10,m)
theorem kn(hR21:bG R21){y:(waD×Int×waA)⊕((waD×waA))}(h:fE R21 v t8 t9 out t10 m=some y):bh Pg GE 2 (cA Ry 119) (LQ (fun(zz:waD×Int×waA)=>cx v t8 t9 zz.1 zz.2.1 zz.2.2) (fun _=>.exit 0) dC y) (cx v t8 t9 out t10 m):=by
 rcases aQ h with⟨c1,h⟩|⟨c1,h⟩
 ·obtain⟨x2,bx2,r3,br3,l4,bl4,h⟩:=Zb3 h
  obtain rfl:=lf h
  have z:=sg 0 c1<|sv (fO.ia (k:=.i64) bx2)<|sv (mH x2)<|sx G4<|sx (jz x2)<|sv (OC x2 [])<|si (.cg ⟨[0,1],[.agg (aA x2),.eptr ((cL aa) v),.bptr 0 0],[],[.cells [.func (.func 62) [] [.bptr 1 0],.func (.func 61) [] []] [],.cells [sl cS m] [(0,9)]],[.cells [.func (.func 62) [] [.bptr 1 0],.func (.func 61) [] []] [],.cells [sl cS m] [(0,9)]],[.cells [.func (.func 62) [] [.bptr 1 0],.func (.func 61) [] []] [],.cells [sl cS r3.2] [(0,9)]],[.cells [.func (.func 62) [] [.bptr 1 0],.func (.func 61) [] []] [],.cells [sl cS r3.2] [(0,9)]],.agg (aA r3.1),.agg (aA r3.1),[]⟩) (nr R21 hR21 br3)<|sf (aI (xR [0,1] (.agg (aA x2)) (bK x2)) (aI (xR [0,1] (.eptr ((cL aa) v)) (mT au v)) (aI (xB [0,1] 0 0 0 rfl) trivial)))<|sf (aI (aI (rB (.cells [.func (.func 62) [] [.bptr 1 0],.func (.func 61) [] []] [])) (aI (rW []) (aI (xF [0,1] (.func 62) [] [.bptr 1 0] [] [.bptr 1 0] trivial (aI (xB [0,1] 1 1 0 rfl) trivial)) (aI (xR [0,1] (.func (.func 61) [] []) (aI trivial trivial)) trivial)))) (aI (aI (rB (.cells [sl cS m] [(0,9)])) (aI (rW [(0,9)]) (aI (xR [0,1] (sl cS m) (ak bD m)) trivial))) trivial))<|sf (aI (aI (rW []) (aI (xF [0,1] (.func 62) [] [.bptr 1 0] [] [.bptr 1 0] trivial (aI (xB [0,1] 1 1 0 rfl) trivial)) (aI (xR [0,1] (.func (.func 61) [] []) (aI trivial trivial)) trivial))) (aI (aI (rW [(0,9)]) (aI (xR [0,1] (sl cS r3.2) (ak bD r3.2)) trivial)) trivial))<|sf (xR [0,1] (.agg (aA r3.1)) (bK r3.1))<|sv (fO.mk' (v:=Qr) OV ([r3.1]:List aG) 1 (by kernel_rfl))<|sv (fO.ap bl4)<|ue 2 .normal (cx v t8 t9 l4 (bV (t10+1)) r3.2) rfl (dU (aI (aI trivial (aI (aZ (mT au v)) (aI (aW rfl) trivial))) (aI (up (ak bK l4)) (aI (up (ak bK t8)) (aI trivial (aI trivial trivial)))))) (aI (aI (aI trivial (aI (aW rfl) trivial)) (aI (aI trivial trivial) trivial)) (aI (aI (up (ak bD r3.2)) trivial) trivial))
  exact ed (A:=Ro) mixed z<|by kernel_rfl
 ·obtain rfl:=lf h
  have z:=sg 0 c1<|eF (.exit 0) (dC (out,m))
  exact jy Ro (Zn rfl) z<|by kernel_rfl
theorem kC(hR21:bG R21){x:(waD×waA)}(h:fQ R21 v t8 t9 out t10 m=some x):bh Pg GE 2 (.loop (cA Ry 119)) (EX (.exit 0) (dC x)) (cx v t8 t9 out t10 m):=
 ZL h fun _ _ hy=>kn _ _ _ _ _ _ _ hR21 hy
end
def gB(R21:aX)(a:waD)(c:(List ac))(k1:waA):Option (waD×waA):=
 (fQ R21 c a (a.length:Int) ([]:List aG) 0 k1).bind fun o5=>
 some (o5.1,o5.2)
theorem ls(R21:aX)(hR21:bG R21){a:waD}{c:(List ac)}{k1:waA}{r:waD×waA}(h:gB R21 a c k1=some r):C Pg GE 109 [sl aA a,.func (.func 110) [] [.eptr ((cL aa) c),.bptr 0 0]] [] [.cells [.func (.func 62) [] [.bptr 1 0],.func (.func 61) [] []] [],.cells [sl cS k1] [(0,9)]] (sl aA r.1) [(0,89)] [.cells [.func (.func 62) [] [.bptr 1 0],.func (.func 61) [] []] [],.cells [sl cS r.2] [(0,9)]]:=by
 obtain⟨o5,bo5,h⟩:=cP h
 obtain rfl:=lf h
 have z:=bW (fO.ln a)<|du (kC R21 c a (a.length:Int) ([]:List aG) 0 k1 hR21 bo5)<|en (aI (rP (sl aA o5.1))<|aI (up (n:=2) (ak bK o5.1))<|aI (rL [.cells [.func (.func 62) [] [.bptr 1 0],.func (.func 61) [] []] [],.cells [sl cS o5.2] [(0,9)]])<|(aI (aI (aI trivial (aI (aW (i:=1) (n:=2) rfl) trivial)) (aI (aI trivial trivial) trivial)) (aI (aI (up (n:=2) (ak bD o5.2)) trivial) trivial)))
 exact Z109.g (m:=2) rfl z<|by kernel_rfl
noncomputable def UZ:Code:=f56.body.getD .skip
def Lq:List Nat:=[33,63,73,80,88]
theorem Z56:ZF Lq 56 f56 UZ:=⟨call56,func56,rfl⟩
section
variable(scope:(List ac))(m:waA)(m2:Int)(m3:af)(m4:Int)(m5:waF)(m6:waE)(m7:waD)(m8:waB)(m9:waF)(m10:waE)(m11:waD)(m12:waB)(m13:(List ac))
def nu:aB:=bg 96 [(3,.bptr 1 0),(4,.bptr 2 0),(5,.eptr ((cL aa) scope)),(6,.bptr 4 0),(7,.bptr 5 0),(8,.bptr 6 0)] [.cells [sl cS m] [(0,9)],.cells [.func (.func 62) [] [.bptr 0 0],.func (.func 61) [] []] [],.cells [.int .i64 m2,.str m3,.int .i64 m4,sl ae m5,sl aw m6,sl aA m7,sl ai m8] [(6,60)],.dead,.cells [.int .i64 0,.str ([]:af),.int .i64 0,sl ae m9,sl aw m10,sl aA m11,sl ai m12] [(3,28),(4,85),(5,89),(6,60)],.cells [sl aa m13] [(0,137)],.cells [.func (.func 105) [] [.bptr 1 0,.eptr ((cL aa) scope),.bptr 5 0]] []] []
def cu(o:waA×af×(List ac)):aB:=bg 96 [(3,.bptr 1 0),(4,.bptr 2 0),(5,.eptr ((cL aa) scope)),(6,.bptr 4 0),(7,.bptr 5 0),(8,.bptr 6 0)] [.cells [sl cS o.1] [(0,9)],.cells [.func (.func 62) [] [.bptr 0 0],.func (.func 61) [] []] [],.cells [.int .i64 m2,.str o.2.1,.int .i64 m4,sl ae m5,sl aw m6,sl aA m7,sl ai m8] [(6,60)],.dead,.cells [.int .i64 0,.str ([]:af),.int .i64 0,sl ae m9,sl aw m10,sl aA m11,sl ai m12] [(3,28),(4,85),(5,89),(6,60)],.cells [sl aa o.2.2] [(0,137)],.cells [.func (.func 105) [] [.bptr 1 0,.eptr ((cL aa) scope),.bptr 5 0]] []] []
def iU:Option ((waA×af×(List ac))):=
 (fD (⟨m2,m3,m4,m5,m6,m7,m8⟩:ag)).bind fun r3=>
 if r3=true then
  (pS scope m3).bind fun r6=>
  if r6.2=true then
   some (m,r6.1,m13)
  else
   (H3 m3).bind fun r9=>
   some (m,r9,m13)
 else
  if(m2==7)=true then
   (fm m3 scope m m13).bind fun r12=>
   some (r12.2.1,r12.1,r12.2.2)
  else
   some (m,m3,m13)
theorem mW{x:(waA×af×(List ac))}(h:iU scope m m2 m3 m4 m5 m6 m7 m8 m13=some x):bh Pg GE 1 (cA UZ 62) (EX .normal (cu scope m2 m4 m5 m6 m7 m8 m9 m10 m11 m12 x)) (nu scope m m2 m3 m4 m5 m6 m7 m8 m9 m10 m11 m12 m13):=by
 obtain⟨r3,br3,h⟩:=cP h
 have p5:=fun{sc F} (r:PS sc F)=>sv (ce (⟨m2,m3,m4,m5,m6,m7,m8⟩:ag) [])<|dj (jI br3)<|r
 rcases aQ h with⟨c4,h⟩|⟨c4,h⟩
 ·obtain⟨r6,br6,h⟩:=cP h
  have p8:=fun{sc F} (r:PS sc F)=>p5<|sg 0 c4<|sv (cY Iy (sl aa scope) [])<|ss<|dj (BP br6)<|r
  rcases aQ h with⟨c7,h⟩|⟨c7,h⟩
  ·obtain rfl:=lf h
   exact bF Lq (p8<|sg 0 c7<|ss<|eF .normal (cu scope m2 m4 m5 m6 m7 m8 m9 m10 m11 m12 (m,r6.1,m13)))<|by kernel_rfl
  ·obtain⟨r9,br9,h⟩:=cP h
   obtain rfl:=lf h
   exact bF Lq (p8<|sg 0 c7<|ss<|ss<|dj (KB br9)<|ss<|eF .normal (cu scope m2 m4 m5 m6 m7 m8 m9 m10 m11 m12 (m,r9,m13)))<|by kernel_rfl
 ·have p11:=fun{sc F} (r:PS sc F)=>p5<|sg 0 c4<|ss<|r
  rcases aQ h with⟨c10,h⟩|⟨c10,h⟩
  ·obtain⟨r12,br12,h⟩:=cP h
   obtain rfl:=lf h
   exact bF Lq (p11<|sg 0 c10<|ss<|ss<|si (.cg ⟨[1,0,5],[.str m3,.bptr 0 0,.eptr ((cL aa) scope),.bptr 2 0],[],[.cells [.func (.func 62) [] [.bptr 0 0],.func (.func 61) [] []] [],.cells [sl cS m] [(0,9)],.cells [sl aa m13] [(0,137)]],[.cells [.func (.func 62) [] [.bptr 1 0],.func (.func 61) [] []] [],.cells [sl cS m] [(0,9)],.cells [sl aa m13] [(0,137)]],[.cells [.func (.func 62) [] [.bptr 0 0],.func (.func 61) [] []] [],.cells [sl cS r12.2.1] [(0,9)],.cells [sl aa r12.2.2] [(0,137)]],[.cells [.func (.func 62) [] [.bptr 1 0],.func (.func 61) [] []] [],.cells [sl cS r12.2.1] [(0,9)],.cells [sl aa r12.2.2] [(0,137)]],.str r12.1,.str r12.1,[]⟩) (ik br12)<|sf (aI (xR [1,0,5] (.str m3) trivial) (aI (xB [1,0,5] 0 1 0 rfl) (aI (xR [1,0,5] (.eptr ((cL aa) scope)) (mT au scope)) (aI (xB [1,0,5] 2 5 0 rfl) trivial))))<|sf (aI (aI (rB (.cells [.func (.func 62) [] [.bptr 0 0],.func (.func 61) [] []] [])) (aI (rW []) (aI (xF [1,0,5] (.func 62) [] [.bptr 0 0] [] [.bptr 1 0] trivial (aI (xB [1,0,5] 1 0 0 rfl) trivial)) (aI (xR [1,0,5] (.func (.func 61) [] []) (aI trivial trivial)) trivial)))) (aI (aI (rB (.cells [sl cS m] [(0,9)])) (aI (rW [(0,9)]) (aI (xR [1,0,5] (sl cS m) (ak bD m)) trivial))) (aI (aI (rB (.cells [sl aa m13] [(0,137)])) (aI (rW [(0,137)]) (aI (xR [1,0,5] (sl aa m13) (ak au m13)) trivial))) trivial)))<|sf (aI (aI (rW []) (aI (xF [1,0,5] (.func 62) [] [.bptr 0 0] [] [.bptr 1 0] trivial (aI (xB [1,0,5] 1 0 0 rfl) trivial)) (aI (xR [1,0,5] (.func (.func 61) [] []) (aI trivial trivial)) trivial))) (aI (aI (rW [(0,9)]) (aI (xR [1,0,5] (sl cS r12.2.1) (ak bD r12.2.1)) trivial)) (aI (aI (rW [(0,137)]) (aI (xR [1,0,5] (sl aa r12.2.2) (ak au r12.2.2)) trivial)) trivial)))<|sf (xR [1,0,5] (.str r12.1) trivial)<|ss<|eF .normal (cu scope m2 m4 m5 m6 m7 m8 m9 m10 m11 m12 (r12.2.1,r12.1,r12.2.2)))<|by kernel_rfl
  ·obtain rfl:=lf h
   exact bF Lq (p11<|sg 0 c10<|eF .normal (cu scope m2 m4 m5 m6 m7 m8 m9 m10 m11 m12 (m,m3,m13)))<|by kernel_rfl
end
section
variable(scope:(List ac))(kids:waF)(i:Int)(t59:waF)(t60:Int)(m:waA)(m2:Int)(m3:af)(m4:Int)(m5:waE)(m6:waD)(m7:waB)(m8:waF)(m9:waE)(m10:waD)(m11:waB)(m12:(List ac))(m13:Int)(m14:af)(m15:Int)(m16:waF)(m17:waE)(m18:waD)(m19:waB)
def nv:aB:=bg 96 [(3,.bptr 1 0),(4,.bptr 2 0),(5,.eptr ((cL aa) scope)),(6,.bptr 4 0),(7,.bptr 5 0),(12,sl ae kids),(13,.int .i64 i),(14,.bptr 8 0),(59,sl ae t59),(60,.int .i64 t60),(61,.int .i64 i)] [.cells [sl cS m] [(0,9)],.cells [.func (.func 62) [] [.bptr 0 0],.func (.func 61) [] []] [],.cells [.int .i64 m2,.str m3,.int .i64 m4,sl ae t59,sl aw m5,sl aA m6,sl ai m7] [(4,85),(6,60)],.dead,.cells [.int .i64 0,.str ([]:af),.int .i64 0,sl ae m8,sl aw m9,sl aA m10,sl ai m11] [(3,28),(4,85),(5,89),(6,60)],.cells [sl aa m12] [(0,137)],.cells [.func (.func 105) [] [.bptr 1 0,.eptr ((cL aa) scope),.bptr 5 0]] [],.dead,.cells [.int .i64 m13,.str m14,.int .i64 m15,sl ae m16,sl aw m17,sl aA m18,sl ai m19] []] [((12,0),28)]
def eG(o:Bool):aB:=bg 96 [(3,.bptr 1 0),(4,.bptr 2 0),(5,.eptr ((cL aa) scope)),(6,.bptr 4 0),(7,.bptr 5 0),(12,sl ae kids),(14,.bptr 8 0),(59,sl ae t59),(60,.int .i64 t60),(61,.int .i64 i),(72,.bool o)] [.cells [sl cS m] [(0,9)],.cells [.func (.func 62) [] [.bptr 0 0],.func (.func 61) [] []] [],.cells [.int .i64 m2,.str m3,.int .i64 m4,sl ae t59,sl aw m5,sl aA m6,sl ai m7] [(4,85),(6,60)],.dead,.cells [.int .i64 0,.str ([]:af),.int .i64 0,sl ae m8,sl aw m9,sl aA m10,sl ai m11] [(3,28),(4,85),(5,89),(6,60)],.cells [sl aa m12] [(0,137)],.cells [.func (.func 105) [] [.bptr 1 0,.eptr ((cL aa) scope),.bptr 5 0]] [],.dead,.cells [.int .i64 m13,.str m14,.int .i64 m15,sl ae m16,sl aw m17,sl aA m18,sl ai m19] []] [((12,0),28)]
def iV:Option Bool:=
 if(m2==7)=true then
  some (i==0)
 else
  some false
theorem mX{x:Bool}(h:iV i m2=some x):bh Pg GE 1 (cA UZ 523766) (EX .normal (eG scope kids i t59 t60 m m2 m3 m4 m5 m6 m7 m8 m9 m10 m11 m12 m13 m14 m15 m16 m17 m18 m19 x)) (nv scope kids i t59 t60 m m2 m3 m4 m5 m6 m7 m8 m9 m10 m11 m12 m13 m14 m15 m16 m17 m18 m19):=by
 rcases aQ h with⟨c17,h⟩|⟨c17,h⟩
 ·obtain rfl:=lf h
  exact bF Lq (ss<|sg 4 c17<|eF .normal (eG scope kids i t59 t60 m m2 m3 m4 m5 m6 m7 m8 m9 m10 m11 m12 m13 m14 m15 m16 m17 m18 m19 (i==0)))<|by kernel_rfl
 ·obtain rfl:=lf h
  exact bF Lq (ss<|sg 4 c17<|eF .normal (eG scope kids i t59 t60 m m2 m3 m4 m5 m6 m7 m8 m9 m10 m11 m12 m13 m14 m15 m16 m17 m18 m19 false))<|by kernel_rfl
end
section
variable(R21:aX)(scope:(List ac))(t59:waF)(t60:Int)(m2:Int)(m3:af)(m4:Int)(m5:waE)(m6:waD)(m7:waB)(m8:waF)(m9:waE)(m10:waD)(m11:waB)(m12:(List ac))(kids:waF)(t61:Int)(m:waA)
def cw:aB:=bg 96 [(3,.bptr 1 0),(4,.bptr 2 0),(5,.eptr ((cL aa) scope)),(6,.bptr 4 0),(7,.bptr 5 0),(12,sl ae kids),(59,sl ae t59),(60,.int .i64 t60),(61,.int .i64 t61)] [.cells [sl cS m] [(0,9)],.cells [.func (.func 62) [] [.bptr 0 0],.func (.func 61) [] []] [],.cells [.int .i64 m2,.str m3,.int .i64 m4,sl ae t59,sl aw m5,sl aA m6,sl ai m7] [(4,85),(6,60)],.dead,.cells [.int .i64 0,.str ([]:af),.int .i64 0,sl ae m8,sl aw m9,sl aA m10,sl ai m11] [(3,28),(4,85),(5,89),(6,60)],.cells [sl aa m12] [(0,137)],.cells [.func (.func 105) [] [.bptr 1 0,.eptr ((cL aa) scope),.bptr 5 0]] [],.dead] [((12,0),28)]
def eH(o:waF×waA):aB:=bg 96 [(3,.bptr 1 0),(4,.bptr 2 0),(5,.eptr ((cL aa) scope)),(6,.bptr 4 0),(12,sl ae o.1)] [.cells [sl cS o.2] [(0,9)],.cells [.func (.func 62) [] [.bptr 0 0],.func (.func 61) [] []] [],.cells [.int .i64 m2,.str m3,.int .i64 m4,sl ae t59,sl aw m5,sl aA m6,sl ai m7] [(4,85),(6,60)],.dead,.cells [.int .i64 0,.str ([]:af),.int .i64 0,sl ae m8,sl aw m9,sl aA m10,sl ai m11] [(3,28),(4,85),(5,89),(6,60)],.cells [sl aa m12] [(0,137)],.cells [.func (.func 105) [] [.bptr 1 0,.eptr ((cL aa) scope),.bptr 5 0]] [],.dead] [((12,0),28)]
def io:Option ((waF×Int×waA)⊕((waF×waA))):=
 if(decide (t61<t60))=true then
  (gn t59 t61).bind fun x16=>
  (iV t61 m2).bind fun o18=>
  if o18=true then
   (R21 x16 scope m).bind fun r21=>
   (app kids ([r21.1]:List ag)).bind fun l22=>
   some (.inl (l22,bV (t61+1),r21.2))
  else
   (R21 x16 m12 m).bind fun r23=>
   (app kids ([r23.1]:List ag)).bind fun l24=>
   some (.inl (l24,bV (t61+1),r23.2))
 else
  some (.inr (kids,m))
def iW:Option ((waF×waA)):=loop (fun(zz:waF×Int×waA)=>io R21 scope t59 t60 m2 m12 zz.1 zz.2.1 zz.2.2) (kids,t61,m)
theorem my(hR21:bG R21){y:(waF×Int×waA)⊕((waF×waA))}(h:io R21 scope t59 t60 m2 m12 kids t61 m=some y):bh Pg GE 1 (cA UZ 8183) (LQ (fun(zz:waF×Int×waA)=>cw scope t59 t60 m2 m3 m4 m5 m6 m7 m8 m9 m10 m11 m12 zz.1 zz.2.1 zz.2.2) (fun _=>.exit 1) (eH scope t59 m2 m3 m4 m5 m6 m7 m8 m9 m10 m11 m12) y) (cw scope t59 t60 m2 m3 m4 m5 m6 m7 m8 m9 m10 m11 m12 kids t61 m):=by
 rcases aQ h with⟨c15,h⟩|⟨c15,h⟩
 ·obtain⟨x16,bx16,o18,bo18,h⟩:=Zb2 h
  have p20:=fun{sc F} (r:PS sc F)=>sg 0 c15<|sv (jt.ia (k:=.i64) bx16)<|sv (b9 x16)<|sx zB<|sx (lb x16)<|rh 0<|du (mX scope kids t61 t59 t60 m m2 m3 m4 m5 m6 m7 m8 m9 m10 m11 m12 x16.Op x16.Name x16.N x16.Kids x16.Params x16.Alts x16.Types bo18)<|r
  rcases aQ h with⟨c19,h⟩|⟨c19,h⟩
  ·obtain⟨r21,br21,l22,bl22,h⟩:=Zb2 h
   obtain rfl:=lf h
   have z:=p20<|sg 0 c19<|sv (show bv Pg 95 [.func (.func 62) [] [.bptr 0 0],.func (.func 61) [] []]=some (.agg [.func (.func 62) [] [.bptr 0 0],.func (.func 61) [] []]) by kernel_rfl)<|sv (ce x16 [])<|sv (cY Iy (sl aa scope) [])<|si (.cg ⟨[0],[.agg [.func (.func 62) [] [.bptr 0 0],.func (.func 61) [] []],.agg (ae x16),sl aa scope],[],[.cells [sl cS m] [(0,9)]],[.cells [sl cS m] [(0,9)]],[.cells [sl cS r21.2] [(0,9)]],[.cells [sl cS r21.2] [(0,9)]],.agg (ae r21.1),.agg (ae r21.1),[(3,28),(4,85),(5,89),(6,60)]⟩) (hR21 _ _ _ _ br21)<|sf (aI (xA [0] [.func (.func 62) [] [.bptr 0 0],.func (.func 61) [] []] [.func (.func 62) [] [.bptr 0 0],.func (.func 61) [] []] (aI (xF [0] (.func 62) [] [.bptr 0 0] [] [.bptr 0 0] trivial (aI (xB [0] 0 0 0 rfl) trivial)) (aI (xR [0] (.func (.func 61) [] []) (aI trivial trivial)) trivial))) (aI (xR [0] (.agg (ae x16)) (ay x16)) (aI (xR [0] (sl aa scope) (ak au scope)) trivial)))<|sf (aI (aI (rB (.cells [sl cS m] [(0,9)])) (aI (rW [(0,9)]) (aI (xR [0] (sl cS m) (ak bD m)) trivial))) trivial)<|sf (aI (aI (rW [(0,9)]) (aI (xR [0] (sl cS r21.2) (ak bD r21.2)) trivial)) trivial)<|sf (xR [0] (.agg (ae r21.1)) (ay r21.1))<|sv (jt.mk' (v:=td) nR ([r21.1]:List ag) 1 (by kernel_rfl))<|sv (jt.ap bl22)<|ue 1 .normal (cw scope t59 t60 m2 m3 m4 m5 m6 m7 m8 m9 m10 m11 m12 l22 (bV (t61+1)) r21.2) rfl (dU (aI (aW rfl) (aI (aW rfl) (aI (aZ (mT au scope)) (aI (aW rfl) (aI (aW rfl) (aI (up (ak ay l22)) (aI (up (ak ay t59)) (aI trivial (aI trivial trivial)))))))))) (aI (aI (up (ak bD r21.2)) trivial) (aI (aI (aI trivial (aI (aW rfl) trivial)) (aI (aI trivial trivial) trivial)) (aI (aI trivial (aI trivial (aI trivial (aI (up (ak ay t59)) (aI (up (ak aY m5)) (aI (up (ak bK m6)) (aI (up (ak aE m7)) trivial))))))) (aI trivial (aI (aI trivial (aI trivial (aI trivial (aI (up (ak ay m8)) (aI (up (ak aY m9)) (aI (up (ak bK m10)) (aI (up (ak aE m11)) trivial))))))) (aI (aI (up (ak au m12)) trivial) (aI (aI (aI trivial (aI (aW rfl) (aI (aZ (mT au scope)) (aI (aW rfl) trivial)))) trivial) (aI trivial trivial))))))))
   exact ed (A:=Lq) mixed z<|by kernel_rfl
  ·obtain⟨r23,br23,l24,bl24,h⟩:=Zb2 h
   obtain rfl:=lf h
   have z:=p20<|sg 0 c19<|sv (show bv Pg 95 [.func (.func 62) [] [.bptr 0 0],.func (.func 61) [] []]=some (.agg [.func (.func 62) [] [.bptr 0 0],.func (.func 61) [] []]) by kernel_rfl)<|sv (ce x16 [])<|ss<|si (.cg ⟨[0],[.agg [.func (.func 62) [] [.bptr 0 0],.func (.func 61) [] []],.agg (ae x16),sl aa m12],[],[.cells [sl cS m] [(0,9)]],[.cells [sl cS m] [(0,9)]],[.cells [sl cS r23.2] [(0,9)]],[.cells [sl cS r23.2] [(0,9)]],.agg (ae r23.1),.agg (ae r23.1),[(3,28),(4,85),(5,89),(6,60)]⟩) (hR21 _ _ _ _ br23)<|sf (aI (xA [0] [.func (.func 62) [] [.bptr 0 0],.func (.func 61) [] []] [.func (.func 62) [] [.bptr 0 0],.func (.func 61) [] []] (aI (xF [0] (.func 62) [] [.bptr 0 0] [] [.bptr 0 0] trivial (aI (xB [0] 0 0 0 rfl) trivial)) (aI (xR [0] (.func (.func 61) [] []) (aI trivial trivial)) trivial))) (aI (xR [0] (.agg (ae x16)) (ay x16)) (aI (xR [0] (sl aa m12) (ak au m12)) trivial)))<|sf (aI (aI (rB (.cells [sl cS m] [(0,9)])) (aI (rW [(0,9)]) (aI (xR [0] (sl cS m) (ak bD m)) trivial))) trivial)<|sf (aI (aI (rW [(0,9)]) (aI (xR [0] (sl cS r23.2) (ak bD r23.2)) trivial)) trivial)<|sf (xR [0] (.agg (ae r23.1)) (ay r23.1))<|sv (jt.mk' (v:=td) nR ([r23.1]:List ag) 1 (by kernel_rfl))<|sv (jt.ap bl24)<|ue 1 .normal (cw scope t59 t60 m2 m3 m4 m5 m6 m7 m8 m9 m10 m11 m12 l24 (bV (t61+1)) r23.2) rfl (dU (aI (aW rfl) (aI (aW rfl) (aI (aZ (mT au scope)) (aI (aW rfl) (aI (aW rfl) (aI (up (ak ay l24)) (aI (up (ak ay t59)) (aI trivial (aI trivial trivial)))))))))) (aI (aI (up (ak bD r23.2)) trivial) (aI (aI (aI trivial (aI (aW rfl) trivial)) (aI (aI trivial trivial) trivial)) (aI (aI trivial (aI trivial (aI trivial (aI (up (ak ay t59)) (aI (up (ak aY m5)) (aI (up (ak bK m6)) (aI (up (ak aE m7)) trivial))))))) (aI trivial (aI (aI trivial (aI trivial (aI trivial (aI (up (ak ay m8)) (aI (up (ak aY m9)) (aI (up (ak bK m10)) (aI (up (ak aE m11)) trivial))))))) (aI (aI (up (ak au m12)) trivial) (aI (aI (aI trivial (aI (aW rfl) (aI (aZ (mT au scope)) (aI (aW rfl) trivial)))) trivial) (aI trivial trivial))))))))
   exact ed (A:=Lq) mixed z<|by kernel_rfl
 ·obtain rfl:=lf h
  have z:=sg 0 c15<|eF (.exit 1) (eH scope t59 m2 m3 m4 m5 m6 m7 m8 m9 m10 m11 m12 (kids,m))
  exact jy Lq (Zn rfl) z<|by kernel_rfl
theorem mY(hR21:bG R21){x:(waF×waA)}(h:iW R21 scope t59 t60 m2 m12 kids t61 m=some x):bh Pg GE 1 (.loop (cA UZ 8183)) (EX (.exit 1) (eH scope t59 m2 m3 m4 m5 m6 m7 m8 m9 m10 m11 m12 x)) (cw scope t59 t60 m2 m3 m4 m5 m6 m7 m8 m9 m10 m11 m12 kids t61 m):=
 ZL h fun _ _ hy=>my _ _ _ _ _ _ _ _ _ _ _ _ _ _ _ _ _ _ hR21 hy
end
def jn(R21:aX)(e:ag)(scope:(List ac))(k0:waA):Option (ag×waA):=
 (cG e.Types).bind fun r1=>
 (px scope).bind fun r2=>
 (iU scope k0 e.Op e.Name e.N e.Kids e.Params e.Alts r1 r2).bind fun o13=>
 (dV e.Params (e.Op==6) scope o13.1 o13.2.2).bind fun r14=>
 (iW R21 scope e.Kids (e.Kids.length:Int) e.Op r14.2.2 ([]:List ag) 0 r14.2.1).bind fun o25=>
 (gB R21 e.Alts scope o25.2).bind fun r26=>
 some ((⟨e.Op,o13.2.1,e.N,o25.1,r14.1,r26.1,r1⟩:ag),r26.2)
theorem nS(R21:aX)(hR21:bG R21){e:ag}{scope:(List ac)}{k0:waA}{r:ag×waA}(h:jn R21 e scope k0=some r):C Pg GE 56 [.agg [.func (.func 62) [] [.bptr 0 0],.func (.func 61) [] []],.agg (ae e),sl aa scope] [] [.cells [sl cS k0] [(0,9)]] (.agg (ae r.1)) [(3,28),(4,85),(5,89),(6,60)] [.cells [sl cS r.2] [(0,9)]]:=by
 obtain⟨r1,br1,r2,br2,o13,bo13,r14,br14,h⟩:=Zb4 h
 obtain⟨o25,bo25,r26,br26,h⟩:=Zb2 h
 obtain rfl:=lf h
 have z:=sx (YG [.func (.func 62) [] [.bptr 0 0],.func (.func 61) [] []])<|sx (lb e)<|se (qaU aa scope)<|sx zB<|ss<|dj (g8 br1)<|sv (cY Iy (sl aa scope) [])<|dj (wW br2)<|sx YL<|sx YK<|ss<|rh 0<|du (mW scope k0 e.Op e.Name e.N e.Kids e.Params e.Alts r1 ([]:List ag) ([]:List ax) ([]:List aG) ([]:List aj) r2 bo13)<|ss<|sx qaV<|ss<|qaE 7 [[.bool (e.Op==6)]] [3,4,5,6,7,8,11] [] (qaj (m:=1) (b:=7) rfl [.bool (e.Op==6)] rfl) (qak 7 (l:=[.bool (e.Op==6)]) (aI trivial trivial)) (qal (qay [.bool (e.Op==6)]))<|sf (Iu 7 (mT au scope))<|sf (J7 7 (p:=sl cS o13.1) (ak bD o13.1))<|sf (J7 7 (p:=sl ae e.Kids) (ak ay e.Kids))<|sf (J7 7 (p:=sl aw e.Params) (ak aY e.Params))<|sf (J7 7 (p:=sl aA e.Alts) (ak bK e.Alts))<|sf (J7 7 (p:=sl ai r1) (ak aE r1))<|sf (J7 7 (p:=sl ae ([]:List ag)) (ak ay ([]:List ag)))<|sf (J7 7 (p:=sl aw ([]:List ax)) (ak aY ([]:List ax)))<|sf (J7 7 (p:=sl aA ([]:List aG)) (ak bK ([]:List aG)))<|sf (J7 7 (p:=sl ai ([]:List aj)) (ak aE ([]:List aj)))<|sf (J7 7 (p:=sl aa o13.2.2) (ak au o13.2.2))<|sf (Iu 7 (mT au scope))<|ss<|si (.cg ⟨[6,1,0,5],[sl aw e.Params,.func (.func 108) [] [.eptr (cB (e.Op==6)),.bptr 0 0]],[],[.cells [.func (.func 105) [] [.bptr 1 0,.eptr ((cL aa) scope),.bptr 5 0]] [],.cells [.func (.func 62) [] [.bptr 0 0],.func (.func 61) [] []] [],.cells [sl cS o13.1] [(0,9)],.cells [sl aa o13.2.2] [(0,137)]],[.cells [.func (.func 105) [] [.bptr 1 0,.eptr ((cL aa) scope),.bptr 3 0]] [],.cells [.func (.func 62) [] [.bptr 2 0],.func (.func 61) [] []] [],.cells [sl cS o13.1] [(0,9)],.cells [sl aa o13.2.2] [(0,137)]],[.cells [.func (.func 105) [] [.bptr 1 0,.eptr ((cL aa) scope),.bptr 5 0]] [],.cells [.func (.func 62) [] [.bptr 0 0],.func (.func 61) [] []] [],.cells [sl cS r14.2.1] [(0,9)],.cells [sl aa r14.2.2] [(0,137)]],[.cells [.func (.func 105) [] [.bptr 1 0,.eptr ((cL aa) scope),.bptr 3 0]] [],.cells [.func (.func 62) [] [.bptr 2 0],.func (.func 61) [] []] [],.cells [sl cS r14.2.1] [(0,9)],.cells [sl aa r14.2.2] [(0,137)]],sl aw r14.1,sl aw r14.1,[(0,85)]⟩) (gO br14)<|sf (aI (xR [6,1,0,5] (sl aw e.Params) (ak aY e.Params)) (aI (xF [6,1,0,5] (.func 108) [] [.eptr (cB (e.Op==6)),.bptr 6 0] [] [.eptr (cB (e.Op==6)),.bptr 0 0] trivial (aI (xR [6,1,0,5] (.eptr (cB (e.Op==6))) (XJ (e.Op==6))) (aI (xB [6,1,0,5] 0 6 0 rfl) trivial))) trivial))<|sf (aI (aI (rB (.cells [.func (.func 105) [] [.bptr 1 0,.eptr ((cL aa) scope),.bptr 5 0]] [])) (aI (rW []) (aI (xF [6,1,0,5] (.func 105) [] [.bptr 1 0,.eptr ((cL aa) scope),.bptr 5 0] [] [.bptr 1 0,.eptr ((cL aa) scope),.bptr 3 0] trivial (aI (xB [6,1,0,5] 1 1 0 rfl) (aI (xR [6,1,0,5] (.eptr ((cL aa) scope)) (mT au scope)) (aI (xB [6,1,0,5] 3 5 0 rfl) trivial)))) trivial))) (aI (aI (rB (.cells [.func (.func 62) [] [.bptr 0 0],.func (.func 61) [] []] [])) (aI (rW []) (aI (xF [6,1,0,5] (.func 62) [] [.bptr 0 0] [] [.bptr 2 0] trivial (aI (xB [6,1,0,5] 2 0 0 rfl) trivial)) (aI (xR [6,1,0,5] (.func (.func 61) [] []) (aI trivial trivial)) trivial)))) (aI (aI (rB (.cells [sl cS o13.1] [(0,9)])) (aI (rW [(0,9)]) (aI (xR [6,1,0,5] (sl cS o13.1) (ak bD o13.1)) trivial))) (aI (aI (rB (.cells [sl aa o13.2.2] [(0,137)])) (aI (rW [(0,137)]) (aI (xR [6,1,0,5] (sl aa o13.2.2) (ak au o13.2.2)) trivial))) trivial))))<|sf (aI (aI (rW []) (aI (xF [6,1,0,5] (.func 105) [] [.bptr 1 0,.eptr ((cL aa) scope),.bptr 5 0] [] [.bptr 1 0,.eptr ((cL aa) scope),.bptr 3 0] trivial (aI (xB [6,1,0,5] 1 1 0 rfl) (aI (xR [6,1,0,5] (.eptr ((cL aa) scope)) (mT au scope)) (aI (xB [6,1,0,5] 3 5 0 rfl) trivial)))) trivial)) (aI (aI (rW []) (aI (xF [6,1,0,5] (.func 62) [] [.bptr 0 0] [] [.bptr 2 0] trivial (aI (xB [6,1,0,5] 2 0 0 rfl) trivial)) (aI (xR [6,1,0,5] (.func (.func 61) [] []) (aI trivial trivial)) trivial))) (aI (aI (rW [(0,9)]) (aI (xR [6,1,0,5] (sl cS r14.2.1) (ak bD r14.2.1)) trivial)) (aI (aI (rW [(0,137)]) (aI (xR [6,1,0,5] (sl aa r14.2.2) (ak au r14.2.2)) trivial)) trivial))))<|sf (xR [6,1,0,5] (sl aw r14.1) (ak aY r14.1))<|ss<|bW (jt.ln e.Kids)<|du (mY R21 scope e.Kids (e.Kids.length:Int) e.Op o13.2.1 e.N r14.1 e.Alts r1 ([]:List ag) ([]:List ax) ([]:List aG) ([]:List aj) r14.2.2 ([]:List ag) 0 r14.2.1 hR21 bo25)<|ss<|si (.cg ⟨[1,0],[sl aA e.Alts,.func (.func 110) [] [.eptr ((cL aa) scope),.bptr 0 0]],[],[.cells [.func (.func 62) [] [.bptr 0 0],.func (.func 61) [] []] [],.cells [sl cS o25.2] [(0,9)]],[.cells [.func (.func 62) [] [.bptr 1 0],.func (.func 61) [] []] [],.cells [sl cS o25.2] [(0,9)]],[.cells [.func (.func 62) [] [.bptr 0 0],.func (.func 61) [] []] [],.cells [sl cS r26.2] [(0,9)]],[.cells [.func (.func 62) [] [.bptr 1 0],.func (.func 61) [] []] [],.cells [sl cS r26.2] [(0,9)]],sl aA r26.1,sl aA r26.1,[(0,89)]⟩) (ls R21 hR21 br26)<|sf (aI (xR [1,0] (sl aA e.Alts) (ak bK e.Alts)) (aI (xF [1,0] (.func 110) [] [.eptr ((cL aa) scope),.bptr 1 0] [] [.eptr ((cL aa) scope),.bptr 0 0] trivial (aI (xR [1,0] (.eptr ((cL aa) scope)) (mT au scope)) (aI (xB [1,0] 0 1 0 rfl) trivial))) trivial))<|sf (aI (aI (rB (.cells [.func (.func 62) [] [.bptr 0 0],.func (.func 61) [] []] [])) (aI (rW []) (aI (xF [1,0] (.func 62) [] [.bptr 0 0] [] [.bptr 1 0] trivial (aI (xB [1,0] 1 0 0 rfl) trivial)) (aI (xR [1,0] (.func (.func 61) [] []) (aI trivial trivial)) trivial)))) (aI (aI (rB (.cells [sl cS o25.2] [(0,9)])) (aI (rW [(0,9)]) (aI (xR [1,0] (sl cS o25.2) (ak bD o25.2)) trivial))) trivial))<|sf (aI (aI (rW []) (aI (xF [1,0] (.func 62) [] [.bptr 0 0] [] [.bptr 1 0] trivial (aI (xB [1,0] 1 0 0 rfl) trivial)) (aI (xR [1,0] (.func (.func 61) [] []) (aI trivial trivial)) trivial))) (aI (aI (rW [(0,9)]) (aI (xR [1,0] (sl cS r26.2) (ak bD r26.2)) trivial)) trivial))<|sf (xR [1,0] (sl aA r26.1) (ak bK r26.1))<|sz (ce (⟨e.Op,o13.2.1,e.N,o25.1,r14.1,r26.1,r1⟩:ag) [])<|sy (bE (⟨e.Op,o13.2.1,e.N,o25.1,r14.1,r26.1,r1⟩:ag))<|en (aI (sj (⟨e.Op,o13.2.1,e.N,o25.1,r14.1,r26.1,r1⟩:ag))<|aI (YQ (n:=1) (ay (⟨e.Op,o13.2.1,e.N,o25.1,r14.1,r26.1,r1⟩:ag)))<|aI (rL [.cells [sl cS r26.2] [(0,9)]])<|aI (aI (aI (up (n:=1) (ak bD r26.2)) trivial) trivial)<|rT)
 exact Z56.g (m:=1) rfl z<|by kernel_rfl
def jo:((ag×(List ac)×waA)->Option (ag×waA))->(ag×(List ac)×waA)->Option (ag×waA):=fun(rec:(ag×(List ac)×waA)->Option (ag×waA)) (x:ag×(List ac)×waA)=>jn (fun e scope k0=>rec (e,scope,k0)) x.1 x.2.1 x.2.2
def jP(e:ag)(scope:(List ac))(k0:waA):Option (ag×waA):=tn jo (e,scope,k0)
theorem oz{e:ag}{scope:(List ac)}{k0:waA}{r:ag×waA}(h:jP e scope k0=some r):C Pg GE 56 [.agg [.func (.func 62) [] [.bptr 0 0],.func (.func 61) [] []],.agg (ae e),sl aa scope] [] [.cells [sl cS k0] [(0,9)]] (.agg (ae r.1)) [(3,28),(4,85),(5,89),(6,60)] [.cells [sl cS r.2] [(0,9)]]:=
 fj (F:=jo) (M:=fun(x:ag×(List ac)×waA) (r:ag×waA)=>C Pg GE 56 [.agg [.func (.func 62) [] [.bptr 0 0],.func (.func 61) [] []],.agg (ae x.1),sl aa x.2.1] [] [.cells [sl cS x.2.2] [(0,9)]] (.agg (ae r.1)) [(3,28),(4,85),(5,89),(6,60)] [.cells [sl cS r.2] [(0,9)]]) (fun rec hrec x r h=>nS _ (fun e scope k0 r h=>hrec (e,scope,k0) r h) h) h
noncomputable def qbn:Code:=f15.body.getD .skip
def qa1:List Nat:=[]
theorem Z15:ZF qa1 15 f15 qbn:=⟨call15,func15,rfl⟩
def Dy(e:ag):Option ag:=
 (np e).bind fun r1=>
 (jP e ([]:List ac) r1).bind fun r2=>
 some r2.1
theorem Hd{e:ag}{r:ag}(h:Dy e=some r):CC Pg GE 15 [.agg (ae e)] (.agg (ae r)) [(3,28),(4,85),(5,89),(6,60)]:=by
 obtain⟨r1,br1,r2,br2,h⟩:=Zb2 h
 obtain rfl:=lf h
 have z:=se (dy e)<|sx zB<|sv (b9 e)<|dj (qF br1)<|sx YJ<|sv (show dQ Pg 95 [(1,.func (.func 61) [] []),(0,.func (.func 62) [] [.bptr 2 0])]=some (.agg [.func (.func 62) [] [.bptr 2 0],.func (.func 61) [] []]) by kernel_rfl)<|sx YM<|sx (YG [.func (.func 62) [] [.bptr 2 0],.func (.func 61) [] []])<|sv (show bv Pg 95 [.func (.func 62) [] [.bptr 2 0],.func (.func 61) [] []]=some (.agg [.func (.func 62) [] [.bptr 2 0],.func (.func 61) [] []]) by kernel_rfl)<|sv (b9 e)<|si (.cg ⟨[2],[.agg [.func (.func 62) [] [.bptr 0 0],.func (.func 61) [] []],.agg (ae e),sl aa ([]:List ac)],[],[.cells [sl cS r1] [(0,9)]],[.cells [sl cS r1] [(0,9)]],[.cells [sl cS r2.2] [(0,9)]],[.cells [sl cS r2.2] [(0,9)]],.agg (ae r2.1),.agg (ae r2.1),[(3,28),(4,85),(5,89),(6,60)]⟩) (oz br2)<|sf (aI (xA [2] [.func (.func 62) [] [.bptr 2 0],.func (.func 61) [] []] [.func (.func 62) [] [.bptr 0 0],.func (.func 61) [] []] (aI (xF [2] (.func 62) [] [.bptr 2 0] [] [.bptr 0 0] trivial (aI (xB [2] 0 2 0 rfl) trivial)) (aI (xR [2] (.func (.func 61) [] []) (aI trivial trivial)) trivial))) (aI (xR [2] (.agg (ae e)) (ay e)) (aI (xR [2] (sl aa ([]:List ac)) (ak au ([]:List ac))) trivial)))<|sf (aI (aI (rB (.cells [sl cS r1] [(0,9)])) (aI (rW [(0,9)]) (aI (xR [2] (sl cS r1) (ak bD r1)) trivial))) trivial)<|sf (aI (aI (rW [(0,9)]) (aI (xR [2] (sl cS r2.2) (ak bD r2.2)) trivial)) trivial)<|sf (xR [2] (.agg (ae r2.1)) (ay r2.1))<|sy (bE r2.1)<|en (aI (sj r2.1)<|aI (ay r2.1)<|rT)
 exact Z15.v (aI (ay e) trivial) z<|by kernel_rfl
noncomputable def qbv:Code:=f49.body.getD .skip
def qa9:List Nat:=[]
theorem Z49:ZF qa9 49 f49 qbv:=⟨call49,func49,rfl⟩
def AY(a:af)(a2:af):Option ag:=
 (gW a).bind fun r1=>
 (gW a2).bind fun r2=>
 some (⟨10,([]:af),0,([r1,r2]:List ag),([]:List ax),([]:List aG),([]:List aj)⟩:ag)
theorem AZ{a:af}{a2:af}{r:ag}(h:AY a a2=some r):CC Pg GE 49 [.str a,.str a2] (.agg (ae r)) [(4,85),(5,89),(6,60)]:=by
 obtain⟨r1,br1,r2,br2,h⟩:=Zb2 h
 obtain rfl:=lf h
 have z:=sx zB<|dj (fp br1)<|dj (fp br2)<|sv (jt.mk' (v:=td) nR ([r1,r2]:List ag) 2 (by kernel_rfl))<|sb (MI 10 ([r1,r2]:List ag)) (MG 10 ([r1,r2]:List ag))<|sy (bE (⟨10,([]:af),0,([r1,r2]:List ag),([]:List ax),([]:List aG),([]:List aj)⟩:ag))<|en (aI (sj (⟨10,([]:af),0,([r1,r2]:List ag),([]:List ax),([]:List aG),([]:List aj)⟩:ag))<|aI (ay (⟨10,([]:af),0,([r1,r2]:List ag),([]:List ax),([]:List aG),([]:List aj)⟩:ag))<|rT)
 exact Z49.v (aI trivial (aI trivial trivial)) z<|by kernel_rfl
noncomputable def ZZ:Code:=f26.body.getD .skip
def YS:List Nat:=[]
theorem Z26:ZF YS 26 f26 ZZ:=⟨call26,func26,rfl⟩
section
variable(v:waA)(v2:waA)(i:Int)
def lz:aB:=bg 26 [(0,sl cS v),(1,sl cS v2),(5,.int .i64 i)] [] []
def lA(o:Unit⊕(Unit)):Exit:=match o with
 |(.inl _)=>.ret
 |(.inr _)=>.exit 0
def gH(o:Unit⊕(Unit)):aB:=match o with
 |(.inl o)=>bg 26 [(4,.bool false)] [] []
 |(.inr o)=>bg 26 [] [] []
def gG:Option (Int⊕(Unit⊕(Unit))):=
 if(decide (i<(v.length:Int)))=true then
  (gn v i).bind fun x4=>
  (gn v2 i).bind fun x5=>
  if(!(x4==x5))=true then
   some (.inr (.inl ()))
  else
   some (.inl (bV (i+1)))
 else
  some (.inr (.inr ()))
def rN:Option (Unit⊕(Unit)):=loop (fun(zz:Int)=>gG v v2 zz) i
theorem AN{y:Int⊕(Unit⊕(Unit))}(h:gG v v2 i=some y):bh Pg GE 0 (cA ZZ 119) (LQ (fun(zz:Int)=>lz v v2 zz) lA gH y) (lz v v2 i):=by
 rcases aQ h with⟨c3,h⟩|⟨c3,h⟩
 ·obtain⟨x4,bx4,x5,bx5,h⟩:=Zb2 h
  have p7:=fun{sc F} (r:PS sc F)=>bW (dp.ln v)<|sg 0 c3<|Kw [0,0,3,7,0,0,48,112,255]<|sv (dp.ia (k:=.i64) bx4)<|sv (cY ED (.str x4) [])<|sv (dp.ia (k:=.i64) bx5)<|sv (cY ED (.str x5) [])<|r
  rcases aQ h with⟨c6,h⟩|⟨c6,h⟩
  ·obtain rfl:=lf h
   have z:=p7<|sg 0 c6<|eF (lA (.inl ())) (gH (.inl ()))
   exact jy YS (Zn rfl) z<|by kernel_rfl
  ·obtain rfl:=lf h
   exact AC YS (p7<|sg 0 c6<|eF .normal (lz v v2 (bV (i+1))))<|by kernel_rfl
 ·obtain rfl:=lf h
  have z:=bW (dp.ln v)<|sg 0 c3<|eF (lA (.inr ())) (gH (.inr ()))
  exact jy YS (Zn rfl) z<|by kernel_rfl
theorem ub{x:Unit⊕(Unit)}(h:rN v v2 i=some x):bh Pg GE 0 (.loop (cA ZZ 119)) (EX (lA x) (gH x)) (lz v v2 i):=
 ZL h fun _ _ hy=>AN _ _ _ hy
end
def kq(a:waA)(a2:waA):Option Bool:=
 if((a.length:Int)!=(a2.length:Int))=true then
  some false
 else
  (rN a a2 0).bind fun o8=>match o8 with
  |(.inl o8)=>
   some false
  |(.inr o8)=>
   some true
theorem nz{a:waA}{a2:waA}{r:Bool}(h:kq a a2=some r):CC Pg GE 26 [sl cS a,sl cS a2] (.bool r) []:=by
 have p2:=fun{sc F} (r:PS sc F)=>bW (dp.ln a)<|bW (dp.ln a2)<|r
 rcases aQ h with⟨c1,h⟩|⟨c1,h⟩
 ·obtain rfl:=lf h
  have z:=p2<|sg 0 c1<|en (aI (rP (.bool false))<|trivial)
  exact Z26.v (aI (ak bD a) (aI (ak bD a2) trivial)) z<|by kernel_rfl
 ·obtain⟨o8,bo8,h⟩:=cP h
  rcases o8 with o8|o8
  ·obtain rfl:=lf h
   have z:=p2<|sg 0 c1<|du (e:=.ret) (s1:=gH (.inl o8)) (ub a a2 0 bo8)<|en (aI (rP (.bool false))<|trivial)
   exact Z26.v (aI (ak bD a) (aI (ak bD a2) trivial)) z<|by kernel_rfl
  ·obtain rfl:=lf h
   have z:=p2<|sg 0 c1<|du (e:=.exit 0) (s1:=gH (.inr o8)) (ub a a2 0 bo8)<|en (aI (rP (.bool true))<|trivial)
   exact Z26.v (aI (ak bD a) (aI (ak bD a2) trivial)) z<|by kernel_rfl
abbrev rO:=(ag->ag->Option Bool)
abbrev rK(R:rO):Prop:=∀(a:ag) (a2:ag) (r:Bool),R a a2=some r->CC Pg GE 12 [.agg (ae a),.agg (ae a2)] (.bool r) []
abbrev kR:=(aj->aj->Option Bool)
abbrev pY(R:kR):Prop:=∀(a:aj) (a2:aj) (r:Bool),R a a2=some r->CC Pg GE 97 [.agg (ai a),.agg (ai a2)] (.bool r) []
abbrev y8:=(am->am->Option Bool)
abbrev DJ(R:y8):Prop:=∀(a:am) (a2:am) (r:Bool),R a a2=some r->CC Pg GE 133 [.agg (al a),.agg (al a2)] (.bool r) []
noncomputable def Vm:Code:=f133.body.getD .skip
def NI:List Nat:=[39]
theorem Z133:ZF NI 133 f133 Vm:=⟨call133,func133,rfl⟩
section
variable(v:am)(v2:am)
def KK:aB:=bg 53 [(2,.eptr (al v)),(3,.eptr (al v2))] [.dead,.dead] []
def oB(o:Bool):aB:=bg 53 [(2,.eptr (al v)),(3,.eptr (al v2)),(33,.bool o)] [.dead,.dead] []
def Hs:Option Bool:=
 if(v.Op !=v2.Op)=true then
  some true
 else
  if(!(v.Name==v2.Name))=true then
   some true
  else
   if(v.N !=v2.N)=true then
    some true
   else
    some ((v.Kids.length:Int)!=(v2.Kids.length:Int))
theorem I7{x:Bool}(h:Hs v v2=some x):bh Pg GE 0 (cA Vm 12) (EX .normal (oB v v2 x)) (KK v v2):=by
 have p2:=fun{sc F} (r:PS sc F)=>sv (sX v)<|sv (sZ v)<|sv (sX v2)<|sv (sZ v2)<|r
 rcases aQ h with⟨c1,h⟩|⟨c1,h⟩
 ·obtain rfl:=lf h
  exact bF NI (p2<|sg 6 c1<|eF .normal (oB v v2 true))<|by kernel_rfl
 ·have p4:=fun{sc F} (r:PS sc F)=>p2<|sg 6 c1<|sv (oD v)<|sv (qi v)<|sv (oD v2)<|sv (qi v2)<|r
  rcases aQ h with⟨c3,h⟩|⟨c3,h⟩
  ·obtain rfl:=lf h
   exact bF NI (p4<|sg 13 c3<|eF .normal (oB v v2 true))<|by kernel_rfl
  ·have p6:=fun{sc F} (r:PS sc F)=>p4<|sg 13 c3<|sv (sY v)<|sv (uO v)<|sv (sY v2)<|sv (uO v2)<|r
   rcases aQ h with⟨c5,h⟩|⟨c5,h⟩
   ·obtain rfl:=lf h
    exact bF NI (p6<|sg 20 c5<|eF .normal (oB v v2 true))<|by kernel_rfl
   ·obtain rfl:=lf h
    exact bF NI (p6<|sg 20 c5<|sv (gY v)<|sv (g5 v)<|bW (oo.ln v.Kids)<|sv (gY v2)<|sv (g5 v2)<|bW (oo.ln v2.Kids)<|eF .normal (oB v v2 ((v.Kids.length:Int)!=(v2.Kids.length:Int))))<|by kernel_rfl
end
section
variable(R39:y8)(v:am)(v2:am)(t36:Int)(t37:Int)
def sL:aB:=bg 53 [(2,.eptr (al v)),(3,.eptr (al v2)),(36,.int .i64 t36),(37,.int .i64 t37)] [.dead,.dead] []
def sM(o:Unit⊕(Unit)):Exit:=match o with
 |(.inl _)=>.ret
 |(.inr _)=>.exit 0
def mj(o:Unit⊕(Unit)):aB:=match o with
 |(.inl o)=>bg 53 [(4,.bool false)] [.dead,.dead] []
 |(.inr o)=>bg 53 [] [.dead,.dead] []
def C3:Option (Int⊕(Unit⊕(Unit))):=
 if(decide (t37<t36))=true then
  (gn v.Kids t37).bind fun x11=>
  (gn v2.Kids t37).bind fun x12=>
  (R39 x11 x12).bind fun r13=>
  if(!r13)=true then
   some (.inr (.inl ()))
  else
   some (.inl (bV (t37+1)))
 else
  some (.inr (.inr ()))
def Ht:Option (Unit⊕(Unit)):=loop (fun(zz:Int)=>C3 R39 v v2 t36 zz) t37
theorem H7(hR39:DJ R39){y:Int⊕(Unit⊕(Unit))}(h:C3 R39 v v2 t36 t37=some y):bh Pg GE 0 (cA Vm 119) (LQ (fun(zz:Int)=>sL v v2 t36 zz) sM mj y) (sL v v2 t36 t37):=by
 rcases aQ h with⟨c10,h⟩|⟨c10,h⟩
 ·obtain⟨x11,bx11,x12,bx12,r13,br13,h⟩:=Zb3 h
  have p15:=fun{sc F} (r:PS sc F)=>sg 0 c10<|Kw [0,1,0,7,15,0,32,0,224,480,1023,2047]<|sv (gY v)<|sv (g5 v)<|sv (oo.ia (k:=.i64) bx11)<|sv (qj x11)<|sv (gY v2)<|sv (g5 v2)<|sv (oo.ia (k:=.i64) bx12)<|sv (qj x12)<|dj (hR39 _ _ _ br13)<|r
  rcases aQ h with⟨c14,h⟩|⟨c14,h⟩
  ·obtain rfl:=lf h
   have z:=p15<|sg 0 c14<|eF (sM (.inl ())) (mj (.inl ()))
   exact jy NI (Zn rfl) z<|by kernel_rfl
  ·obtain rfl:=lf h
   exact AC NI (p15<|sg 0 c14<|eF .normal (sL v v2 t36 (bV (t37+1))))<|by kernel_rfl
 ·obtain rfl:=lf h
  have z:=sg 0 c10<|eF (sM (.inr ())) (mj (.inr ()))
  exact jy NI (Zn rfl) z<|by kernel_rfl
theorem AJ(hR39:DJ R39){x:Unit⊕(Unit)}(h:Ht R39 v v2 t36 t37=some x):bh Pg GE 0 (.loop (cA Vm 119)) (EX (sM x) (mj x)) (sL v v2 t36 t37):=
 ZL h fun _ _ hy=>H7 _ _ _ _ _ hR39 hy
end
def I5(R39:y8)(a:am)(a2:am):Option Bool:=
 (Hs a a2).bind fun o7=>
 if o7=true then
  some false
 else
  (Ht R39 a a2 (a.Kids.length:Int) 0).bind fun o16=>match o16 with
  |(.inl o16)=>
   some false
  |(.inr o16)=>
   some true
theorem Mr(R39:y8)(hR39:DJ R39){a:am}{a2:am}{r:Bool}(h:I5 R39 a a2=some r):CC Pg GE 133 [.agg (al a),.agg (al a2)] (.bool r) []:=by
 obtain⟨o7,bo7,h⟩:=cP h
 have p9:=fun{sc F} (r:PS sc F)=>se (Fx a)<|se (Fx a2)<|rh 1<|du (I7 a a2 bo7)<|r
 rcases aQ h with⟨c8,h⟩|⟨c8,h⟩
 ·obtain rfl:=lf h
  have z:=p9<|sg 0 c8<|en (aI (rP (.bool false))<|trivial)
  exact Z133.v (aI (aR a) (aI (aR a2) trivial)) z<|by kernel_rfl
 ·obtain⟨o16,bo16,h⟩:=cP h
  rcases o16 with o16|o16
  ·obtain rfl:=lf h
   have z:=p9<|sg 0 c8<|sv (gY a)<|sv (g5 a)<|bW (oo.ln a.Kids)<|du (e:=.ret) (s1:=mj (.inl o16)) (AJ R39 a a2 (a.Kids.length:Int) 0 hR39 bo16)<|en (aI (rP (.bool false))<|trivial)
   exact Z133.v (aI (aR a) (aI (aR a2) trivial)) z<|by kernel_rfl
  ·obtain rfl:=lf h
   have z:=p9<|sg 0 c8<|sv (gY a)<|sv (g5 a)<|bW (oo.ln a.Kids)<|du (e:=.exit 0) (s1:=mj (.inr o16)) (AJ R39 a a2 (a.Kids.length:Int) 0 hR39 bo16)<|en (aI (rP (.bool true))<|trivial)
   exact Z133.v (aI (aR a) (aI (aR a2) trivial)) z<|by kernel_rfl
def I6:((am×am)->Option Bool)->(am×am)->Option Bool:=fun(rec:(am×am)->Option Bool) (x:am×am)=>I5 (fun a a2=>rec (a,a2)) x.1 x.2
def I4(a:am)(a2:am):Option Bool:=tn I6 (a,a2)
theorem Hu{a:am}{a2:am}{r:Bool}(h:I4 a a2=some r):CC Pg GE 133 [.agg (al a),.agg (al a2)] (.bool r) []:=
 fj (F:=I6) (M:=fun(x:am×am) (r:Bool)=>CC Pg GE 133 [.agg (al x.1),.agg (al x.2)] (.bool r) []) (fun rec hrec x r h=>Mr _ (fun a a2 r h=>hrec (a,a2) r h) h) h
noncomputable def Z2:Code:=f51.body.getD .skip
def YV:List Nat:=[]
theorem Z51:ZF YV 51 f51 Z2:=⟨call51,func51,rfl⟩
section
variable(R38:kR)(v:waB)(v2:waB)(i:Int)
def lB:aB:=bg 27 [(0,sl ai v),(1,sl ai v2),(5,.int .i64 i)] [] []
def lC(o:Unit⊕(Unit)):Exit:=match o with
 |(.inl _)=>.ret
 |(.inr _)=>.exit 0
def gI(o:Unit⊕(Unit)):aB:=match o with
 |(.inl o)=>bg 27 [(4,.bool false)] [] []
 |(.inr o)=>bg 27 [] [] []
def vo:Option (Int⊕(Unit⊕(Unit))):=
 if(decide (i<(v.length:Int)))=true then
  (gn v i).bind fun x4=>
  (gn v2 i).bind fun x5=>
  (R38 x4 x5).bind fun r6=>
  if(!r6)=true then
   some (.inr (.inl ()))
  else
   some (.inl (bV (i+1)))
 else
  some (.inr (.inr ()))
def yb:Option (Unit⊕(Unit)):=loop (fun(zz:Int)=>vo R38 v v2 zz) i
theorem AQ(hR38:pY R38){y:Int⊕(Unit⊕(Unit))}(h:vo R38 v v2 i=some y):bh Pg GE 0 (cA Z2 119) (LQ (fun(zz:Int)=>lB v v2 zz) lC gI y) (lB v v2 i):=by
 rcases aQ h with⟨c3,h⟩|⟨c3,h⟩
 ·obtain⟨x4,bx4,x5,bx5,r6,br6,h⟩:=Zb3 h
  have p8:=fun{sc F} (r:PS sc F)=>bW (er.ln v)<|sg 0 c3<|Kw [0,0,3,7,0,0,48,112,255,511]<|sv (er.ia (k:=.i64) bx4)<|sv (lT x4)<|sv (er.ia (k:=.i64) bx5)<|sv (lT x5)<|dj (hR38 _ _ _ br6)<|r
  rcases aQ h with⟨c7,h⟩|⟨c7,h⟩
  ·obtain rfl:=lf h
   have z:=p8<|sg 0 c7<|eF (lC (.inl ())) (gI (.inl ()))
   exact jy YV (Zn rfl) z<|by kernel_rfl
  ·obtain rfl:=lf h
   exact AC YV (p8<|sg 0 c7<|eF .normal (lB v v2 (bV (i+1))))<|by kernel_rfl
 ·obtain rfl:=lf h
  have z:=bW (er.ln v)<|sg 0 c3<|eF (lC (.inr ())) (gI (.inr ()))
  exact jy YV (Zn rfl) z<|by kernel_rfl
theorem uc(hR38:pY R38){x:Unit⊕(Unit)}(h:yb R38 v v2 i=some x):bh Pg GE 0 (.loop (cA Z2 119)) (EX (lC x) (gI x)) (lB v v2 i):=
 ZL h fun _ _ hy=>AQ _ _ _ _ hR38 hy
end
def xE(R38:kR)(a:waB)(a2:waB):Option Bool:=
 if((a.length:Int)!=(a2.length:Int))=true then
  some false
 else
  (yb R38 a a2 0).bind fun o9=>match o9 with
  |(.inl o9)=>
   some false
  |(.inr o9)=>
   some true
theorem yc(R38:kR)(hR38:pY R38){a:waB}{a2:waB}{r:Bool}(h:xE R38 a a2=some r):CC Pg GE 51 [sl ai a,sl ai a2] (.bool r) []:=by
 have p2:=fun{sc F} (r:PS sc F)=>bW (er.ln a)<|bW (er.ln a2)<|r
 rcases aQ h with⟨c1,h⟩|⟨c1,h⟩
 ·obtain rfl:=lf h
  have z:=p2<|sg 0 c1<|en (aI (rP (.bool false))<|trivial)
  exact Z51.v (aI (ak aE a) (aI (ak aE a2) trivial)) z<|by kernel_rfl
 ·obtain⟨o9,bo9,h⟩:=cP h
  rcases o9 with o9|o9
  ·obtain rfl:=lf h
   have z:=p2<|sg 0 c1<|du (e:=.ret) (s1:=gI (.inl o9)) (uc R38 a a2 0 hR38 bo9)<|en (aI (rP (.bool false))<|trivial)
   exact Z51.v (aI (ak aE a) (aI (ak aE a2) trivial)) z<|by kernel_rfl
  ·obtain rfl:=lf h
   have z:=p2<|sg 0 c1<|du (e:=.exit 0) (s1:=gI (.inr o9)) (uc R38 a a2 0 hR38 bo9)<|en (aI (rP (.bool true))<|trivial)
   exact Z51.v (aI (ak aE a) (aI (ak aE a2) trivial)) z<|by kernel_rfl
noncomputable def Y2:Code:=f97.body.getD .skip
def U9:List Nat:=[]
theorem Z97:ZF U9 97 f97 Y2:=⟨call97,func97,rfl⟩
section
variable(v:aj)(v2:aj)
def EF:aB:=bg 67 [(2,.eptr (ai v)),(3,.eptr (ai v2))] [.dead,.dead] []
def iB(o:Bool):aB:=bg 67 [(2,.eptr (ai v)),(3,.eptr (ai v2)),(42,.bool o)] [.dead,.dead] []
def zQ:Option Bool:=
 if(v.Op !=v2.Op)=true then
  some true
 else
  if(!(v.Name==v2.Name))=true then
   some true
  else
   (kq v.Names v2.Names).bind fun r5=>
   if(!r5)=true then
    some true
   else
    (I4 v.Pred v2.Pred).bind fun r8=>
    if(!r8)=true then
     some true
    else
     some ((v.Preds.length:Int)!=(v2.Preds.length:Int))
theorem DL{x:Bool}(h:zQ v v2=some x):bh Pg GE 0 (cA Y2 12) (EX .normal (iB v v2 x)) (EF v v2):=by
 have p2:=fun{sc F} (r:PS sc F)=>sv (de v)<|sv (df v)<|sv (de v2)<|sv (df v2)<|r
 rcases aQ h with⟨c1,h⟩|⟨c1,h⟩
 ·obtain rfl:=lf h
  exact bF U9 (p2<|sg 6 c1<|eF .normal (iB v v2 true))<|by kernel_rfl
 ·have p4:=fun{sc F} (r:PS sc F)=>p2<|sg 6 c1<|sv (gZ v)<|sv (jb v)<|sv (gZ v2)<|sv (jb v2)<|r
  rcases aQ h with⟨c3,h⟩|⟨c3,h⟩
  ·obtain rfl:=lf h
   exact bF U9 (p4<|sg 13 c3<|eF .normal (iB v v2 true))<|by kernel_rfl
  ·obtain⟨r5,br5,h⟩:=cP h
   have p7:=fun{sc F} (r:PS sc F)=>p4<|sg 13 c3<|sv (fi v)<|sv (fl v)<|sv (fi v2)<|sv (fl v2)<|dj (nz br5)<|r
   rcases aQ h with⟨c6,h⟩|⟨c6,h⟩
   ·obtain rfl:=lf h
    exact bF U9 (p7<|sg 21 c6<|eF .normal (iB v v2 true))<|by kernel_rfl
   ·obtain⟨r8,br8,h⟩:=cP h
    have p10:=fun{sc F} (r:PS sc F)=>p7<|sg 21 c6<|sv (oE v)<|sv (oF v)<|sv (oE v2)<|sv (oF v2)<|dj (Hu br8)<|r
    rcases aQ h with⟨c9,h⟩|⟨c9,h⟩
    ·obtain rfl:=lf h
     exact bF U9 (p10<|sg 29 c9<|eF .normal (iB v v2 true))<|by kernel_rfl
    ·obtain rfl:=lf h
     exact bF U9 (p10<|sg 29 c9<|sv (jj v)<|sv (jl v)<|bW (oo.ln v.Preds)<|sv (jj v2)<|sv (jl v2)<|bW (oo.ln v2.Preds)<|eF .normal (iB v v2 ((v.Preds.length:Int)!=(v2.Preds.length:Int))))<|by kernel_rfl
end
section
variable(v:aj)(v2:aj)(i:Int)
def mC:aB:=bg 67 [(2,.eptr (ai v)),(3,.eptr (ai v2)),(5,.int .i64 i)] [.dead,.dead] []
def mD(o:Unit⊕(Unit)):Exit:=match o with
 |(.inl _)=>.ret
 |(.inr _)=>.exit 0
def iC(o:Unit⊕(Unit)):aB:=match o with
 |(.inl o)=>bg 67 [(4,.bool false)] [.dead,.dead] []
 |(.inr o)=>bg 67 [(2,.eptr (ai v)),(3,.eptr (ai v2))] [.dead,.dead] []
def wM:Option (Int⊕(Unit⊕(Unit))):=
 if(decide (i<(v.Preds.length:Int)))=true then
  (gn v.Preds i).bind fun x16=>
  (gn v2.Preds i).bind fun x17=>
  (I4 x16 x17).bind fun r18=>
  if(!r18)=true then
   some (.inr (.inl ()))
  else
   some (.inl (bV (i+1)))
 else
  some (.inr (.inr ()))
def zR:Option (Unit⊕(Unit)):=loop (fun(zz:Int)=>wM v v2 zz) i
theorem CA{y:Int⊕(Unit⊕(Unit))}(h:wM v v2 i=some y):bh Pg GE 0 (cA Y2 119) (LQ (fun(zz:Int)=>mC v v2 zz) mD (iC v v2) y) (mC v v2 i):=by
 have p15:=fun{sc F} (r:PS sc F)=>sv (jj v)<|sv (jl v)<|bW (oo.ln v.Preds)<|r
 rcases aQ h with⟨c14,h⟩|⟨c14,h⟩
 ·obtain⟨x16,bx16,x17,bx17,r18,br18,h⟩:=Zb3 h
  have p20:=fun{sc F} (r:PS sc F)=>p15<|sg 0 c14<|Kw [0,1,0,7,15,0,32,0,224,480,1023,2047]<|sv (jj v)<|sv (jl v)<|sv (oo.ia (k:=.i64) bx16)<|sv (qj x16)<|sv (jj v2)<|sv (jl v2)<|sv (oo.ia (k:=.i64) bx17)<|sv (qj x17)<|dj (Hu br18)<|r
  rcases aQ h with⟨c19,h⟩|⟨c19,h⟩
  ·obtain rfl:=lf h
   have z:=p20<|sg 0 c19<|eF (mD (.inl ())) (iC v v2 (.inl ()))
   exact jy U9 (Zn rfl) z<|by kernel_rfl
  ·obtain rfl:=lf h
   exact AC U9 (p20<|sg 0 c19<|eF .normal (mC v v2 (bV (i+1))))<|by kernel_rfl
 ·obtain rfl:=lf h
  have z:=p15<|sg 0 c14<|eF (mD (.inr ())) (iC v v2 (.inr ()))
  exact jy U9 (Zn rfl) z<|by kernel_rfl
theorem vj{x:Unit⊕(Unit)}(h:zR v v2 i=some x):bh Pg GE 0 (.loop (cA Y2 119)) (EX (mD x) (iC v v2 x)) (mC v v2 i):=
 ZL h fun _ _ hy=>CA _ _ _ hy
end
def AO(R38:kR)(a:aj)(a2:aj):Option Bool:=
 (zQ a a2).bind fun o11=>
 if o11=true then
  some false
 else
  (zR a a2 0).bind fun o21=>match o21 with
  |(.inl o21)=>
   some false
  |(.inr o21)=>
   (xE R38 a.Args a2.Args).bind fun r22=>
   some r22
theorem Gl(R38:kR)(hR38:pY R38){a:aj}{a2:aj}{r:Bool}(h:AO R38 a a2=some r):CC Pg GE 97 [.agg (ai a),.agg (ai a2)] (.bool r) []:=by
 obtain⟨o11,bo11,h⟩:=cP h
 have p13:=fun{sc F} (r:PS sc F)=>se (qp a)<|se (qp a2)<|rh 1<|du (DL a a2 bo11)<|r
 rcases aQ h with⟨c12,h⟩|⟨c12,h⟩
 ·obtain rfl:=lf h
  have z:=p13<|sg 0 c12<|en (aI (rP (.bool false))<|trivial)
  exact Z97.v (aI (aE a) (aI (aE a2) trivial)) z<|by kernel_rfl
 ·obtain⟨o21,bo21,h⟩:=cP h
  rcases o21 with o21|o21
  ·obtain rfl:=lf h
   have z:=p13<|sg 0 c12<|du (e:=.ret) (s1:=iC a a2 (.inl o21)) (vj a a2 0 bo21)<|en (aI (rP (.bool false))<|trivial)
   exact Z97.v (aI (aE a) (aI (aE a2) trivial)) z<|by kernel_rfl
  ·obtain⟨r22,br22,h⟩:=cP h
   obtain rfl:=lf h
   have z:=p13<|sg 0 c12<|du (e:=.exit 0) (s1:=iC a a2 (.inr o21)) (vj a a2 0 bo21)<|sv (dH a)<|sv (dI a)<|sv (dH a2)<|sv (dI a2)<|dj (yc R38 hR38 br22)<|en (aI (rP (.bool r22))<|trivial)
   exact Z97.v (aI (aE a) (aI (aE a2) trivial)) z<|by kernel_rfl
def AP:((aj×aj)->Option Bool)->(aj×aj)->Option Bool:=fun(rec:(aj×aj)->Option Bool) (x:aj×aj)=>AO (fun a a2=>rec (a,a2)) x.1 x.2
def ur(a:aj)(a2:aj):Option Bool:=tn AP (a,a2)
theorem zS{a:aj}{a2:aj}{r:Bool}(h:ur a a2=some r):CC Pg GE 97 [.agg (ai a),.agg (ai a2)] (.bool r) []:=
 fj (F:=AP) (M:=fun(x:aj×aj) (r:Bool)=>CC Pg GE 97 [.agg (ai x.1),.agg (ai x.2)] (.bool r) []) (fun rec hrec x r h=>Gl _ (fun a a2 r h=>hrec (a,a2) r h) h) h
noncomputable def YY:Code:=f50.body.getD .skip
def XG:List Nat:=[]
theorem Z50:ZF XG 50 f50 YY:=⟨call50,func50,rfl⟩
section
variable(v:waE)(v2:waE)(i:Int)
def CB:aB:=bg 42 [(0,sl aw v),(1,sl aw v2),(5,.int .i64 i)] [] []
def od(o:Bool):aB:=bg 42 [(0,sl aw v),(1,sl aw v2),(5,.int .i64 i),(41,.bool o)] [] []
def wO:Option Bool:=
 (gn v i).bind fun x4=>
 (gn v2 i).bind fun x5=>
 if(!(x4.Name==x5.Name))=true then
  some true
 else
  (gn v i).bind fun x8=>
  (gn v2 i).bind fun x9=>
  (ur x8.Type_ x9.Type_).bind fun r10=>
  some (!r10)
theorem AU{x:Bool}(h:wO v v2 i=some x):bh Pg GE 0 (cA YY 1914) (EX .normal (od v v2 i x)) (CB v v2 i):=by
 obtain⟨x4,bx4,x5,bx5,h⟩:=Zb2 h
 have p7:=fun{sc F} (r:PS sc F)=>Kw [0,0,3,7,15,0,0,96,224,480,1023,2047,4095,4095,16383,32767,65535,4095,4095,397311,921599,1970175,4194303,8388607,16777215]<|sv (mV.ia (k:=.i64) bx4)<|sv (vL x4)<|sv (xO x4)<|sv (mV.ia (k:=.i64) bx5)<|sv (vL x5)<|sv (xO x5)<|r
 rcases aQ h with⟨c6,h⟩|⟨c6,h⟩
 ·obtain rfl:=lf h
  exact bF XG (p7<|sg 12 c6<|eF .normal (od v v2 i true))<|by kernel_rfl
 ·obtain⟨x8,bx8,x9,bx9,r10,br10,h⟩:=Zb3 h
  obtain rfl:=lf h
  exact bF XG (p7<|sg 12 c6<|sv (mV.ia (k:=.i64) bx8)<|sv (vM x8)<|sv (vQ x8)<|sv (mV.ia (k:=.i64) bx9)<|sv (vM x9)<|sv (vQ x9)<|dj (zS br10)<|eF .normal (od v v2 i (!r10)))<|by kernel_rfl
end
section
variable(v:waE)(v2:waE)(i:Int)
def kJ:aB:=bg 42 [(0,sl aw v),(1,sl aw v2),(5,.int .i64 i)] [] []
def kK(o:Unit⊕(Unit)):Exit:=match o with
 |(.inl _)=>.ret
 |(.inr _)=>.exit 0
def fZ(o:Unit⊕(Unit)):aB:=match o with
 |(.inl o)=>bg 42 [(4,.bool false)] [] []
 |(.inr o)=>bg 42 [] [] []
def ud:Option (Int⊕(Unit⊕(Unit))):=
 if(decide (i<(v.length:Int)))=true then
  (wO v v2 i).bind fun o11=>
  if o11=true then
   some (.inr (.inl ()))
  else
   some (.inl (bV (i+1)))
 else
  some (.inr (.inr ()))
def wP:Option (Unit⊕(Unit)):=loop (fun(zz:Int)=>ud v v2 zz) i
theorem Aq{y:Int⊕(Unit⊕(Unit))}(h:ud v v2 i=some y):bh Pg GE 0 (cA YY 119) (LQ (fun(zz:Int)=>kJ v v2 zz) kK fZ y) (kJ v v2 i):=by
 rcases aQ h with⟨c3,h⟩|⟨c3,h⟩
 ·obtain⟨o11,bo11,h⟩:=cP h
  have p13:=fun{sc F} (r:PS sc F)=>bW (mV.ln v)<|sg 0 c3<|rh 1<|du (AU v v2 i bo11)<|r
  rcases aQ h with⟨c12,h⟩|⟨c12,h⟩
  ·obtain rfl:=lf h
   have z:=p13<|sg 0 c12<|eF (kK (.inl ())) (fZ (.inl ()))
   exact jy XG (Zn rfl) z<|by kernel_rfl
  ·obtain rfl:=lf h
   exact AC XG (p13<|sg 0 c12<|eF .normal (kJ v v2 (bV (i+1))))<|by kernel_rfl
 ·obtain rfl:=lf h
  have z:=bW (mV.ln v)<|sg 0 c3<|eF (kK (.inr ())) (fZ (.inr ()))
  exact jy XG (Zn rfl) z<|by kernel_rfl
theorem tg{x:Unit⊕(Unit)}(h:wP v v2 i=some x):bh Pg GE 0 (.loop (cA YY 119)) (EX (kK x) (fZ x)) (kJ v v2 i):=
 ZL h fun _ _ hy=>Aq _ _ _ hy
end
def AT(a:waE)(a2:waE):Option Bool:=
 if((a.length:Int)!=(a2.length:Int))=true then
  some false
 else
  (wP a a2 0).bind fun o14=>match o14 with
  |(.inl o14)=>
   some false
  |(.inr o14)=>
   some true
theorem EG{a:waE}{a2:waE}{r:Bool}(h:AT a a2=some r):CC Pg GE 50 [sl aw a,sl aw a2] (.bool r) []:=by
 have p2:=fun{sc F} (r:PS sc F)=>bW (mV.ln a)<|bW (mV.ln a2)<|r
 rcases aQ h with⟨c1,h⟩|⟨c1,h⟩
 ·obtain rfl:=lf h
  have z:=p2<|sg 0 c1<|en (aI (rP (.bool false))<|trivial)
  exact Z50.v (aI (ak aY a) (aI (ak aY a2) trivial)) z<|by kernel_rfl
 ·obtain⟨o14,bo14,h⟩:=cP h
  rcases o14 with o14|o14
  ·obtain rfl:=lf h
   have z:=p2<|sg 0 c1<|du (e:=.ret) (s1:=fZ (.inl o14)) (tg a a2 0 bo14)<|en (aI (rP (.bool false))<|trivial)
   exact Z50.v (aI (ak aY a) (aI (ak aY a2) trivial)) z<|by kernel_rfl
  ·obtain rfl:=lf h
   have z:=p2<|sg 0 c1<|du (e:=.exit 0) (s1:=fZ (.inr o14)) (tg a a2 0 bo14)<|en (aI (rP (.bool true))<|trivial)
   exact Z50.v (aI (ak aY a) (aI (ak aY a2) trivial)) z<|by kernel_rfl
noncomputable def Wq:Code:=f12.body.getD .skip
def NH:List Nat:=[]
theorem Z12:ZF NH 12 f12 Wq:=⟨call12,func12,rfl⟩
section
variable(v:ag)(v2:ag)
def KO:aB:=bg 117 [(2,.eptr (ae v)),(3,.eptr (ae v2))] [.dead,.dead] []
def mo(o:Bool):aB:=bg 117 [(2,.eptr (ae v)),(3,.eptr (ae v2)),(43,.bool o)] [.dead,.dead] []
def Hv:Option Bool:=
 if(v.Op !=v2.Op)=true then
  some true
 else
  if(!(v.Name==v2.Name))=true then
   some true
  else
   if(v.N !=v2.N)=true then
    some true
   else
    (AT v.Params v2.Params).bind fun r7=>
    if(!r7)=true then
     some true
    else
     (xE ur v.Types v2.Types).bind fun r10=>
     some (!r10)
theorem Ji{x:Bool}(h:Hv v v2=some x):bh Pg GE 0 (cA Wq 12) (EX .normal (mo v v2 x)) (KO v v2):=by
 have p2:=fun{sc F} (r:PS sc F)=>sv (dZ v)<|sv (d7 v)<|sv (dZ v2)<|sv (d7 v2)<|r
 rcases aQ h with⟨c1,h⟩|⟨c1,h⟩
 ·obtain rfl:=lf h
  exact bF NH (p2<|sg 6 c1<|eF .normal (mo v v2 true))<|by kernel_rfl
 ·have p4:=fun{sc F} (r:PS sc F)=>p2<|sg 6 c1<|sv (eJ v)<|sv (ft v)<|sv (eJ v2)<|sv (ft v2)<|r
  rcases aQ h with⟨c3,h⟩|⟨c3,h⟩
  ·obtain rfl:=lf h
   exact bF NH (p4<|sg 13 c3<|eF .normal (mo v v2 true))<|by kernel_rfl
  ·have p6:=fun{sc F} (r:PS sc F)=>p4<|sg 13 c3<|sv (ji v)<|sv (kk v)<|sv (ji v2)<|sv (kk v2)<|r
   rcases aQ h with⟨c5,h⟩|⟨c5,h⟩
   ·obtain rfl:=lf h
    exact bF NH (p6<|sg 20 c5<|eF .normal (mo v v2 true))<|by kernel_rfl
   ·obtain⟨r7,br7,h⟩:=cP h
    have p9:=fun{sc F} (r:PS sc F)=>p6<|sg 20 c5<|sv (bP v)<|sv (bQ v)<|sv (bP v2)<|sv (bQ v2)<|dj (EG br7)<|r
    rcases aQ h with⟨c8,h⟩|⟨c8,h⟩
    ·obtain rfl:=lf h
     exact bF NH (p9<|sg 28 c8<|eF .normal (mo v v2 true))<|by kernel_rfl
    ·obtain⟨r10,br10,h⟩:=cP h
     obtain rfl:=lf h
     exact bF NH (p9<|sg 28 c8<|sv (aM v)<|sv (aN v)<|sv (aM v2)<|sv (aN v2)<|dj (yc ur (fun _ _ _ h=>zS h) br10)<|eF .normal (mo v v2 (!r10)))<|by kernel_rfl
end
section
variable(v:ag)(v2:ag)
def KP:aB:=bg 117 [(2,.eptr (ae v)),(3,.eptr (ae v2))] [.dead,.dead] []
def xG(o:Bool):aB:=bg 117 [(2,.eptr (ae v)),(3,.eptr (ae v2)),(59,.bool o)] [.dead,.dead] []
def Hw:Option Bool:=
 if((v.Kids.length:Int)!=(v2.Kids.length:Int))=true then
  some true
 else
  some ((v.Alts.length:Int)!=(v2.Alts.length:Int))
theorem Jj{x:Bool}(h:Hw v v2=some x):bh Pg GE 0 (cA Wq 28) (EX .normal (xG v v2 x)) (KP v v2):=by
 have p15:=fun{sc F} (r:PS sc F)=>sv (bw v)<|sv (bz v)<|bW (jt.ln v.Kids)<|sv (bw v2)<|sv (bz v2)<|bW (jt.ln v2.Kids)<|r
 rcases aQ h with⟨c14,h⟩|⟨c14,h⟩
 ·obtain rfl:=lf h
  exact bF NH (p15<|sg 8 c14<|eF .normal (xG v v2 true))<|by kernel_rfl
 ·obtain rfl:=lf h
  exact bF NH (p15<|sg 8 c14<|sv (aK v)<|sv (aL v)<|bW (fO.ln v.Alts)<|sv (aK v2)<|sv (aL v2)<|bW (fO.ln v2.Alts)<|eF .normal (xG v v2 ((v.Alts.length:Int)!=(v2.Alts.length:Int))))<|by kernel_rfl
end
section
variable(R36:rO)(v:ag)(v2:ag)(i:Int)
def sR:aB:=bg 117 [(2,.eptr (ae v)),(3,.eptr (ae v2)),(5,.int .i64 i)] [.dead,.dead] []
def sS(o:Unit⊕(Unit)):Exit:=match o with
 |(.inl _)=>.ret
 |(.inr _)=>.exit 0
def kr(o:Unit⊕(Unit)):aB:=match o with
 |(.inl o)=>bg 117 [(4,.bool false)] [.dead,.dead] []
 |(.inr o)=>bg 117 [(2,.eptr (ae v)),(3,.eptr (ae v2))] [.dead,.dead] []
def C4:Option (Int⊕(Unit⊕(Unit))):=
 if(decide (i<(v.Kids.length:Int)))=true then
  (gn v.Kids i).bind fun x21=>
  (gn v2.Kids i).bind fun x22=>
  (R36 x21 x22).bind fun r23=>
  if(!r23)=true then
   some (.inr (.inl ()))
  else
   some (.inl (bV (i+1)))
 else
  some (.inr (.inr ()))
def Hy:Option (Unit⊕(Unit)):=loop (fun(zz:Int)=>C4 R36 v v2 zz) i
theorem Ib(hR36:rK R36){y:Int⊕(Unit⊕(Unit))}(h:C4 R36 v v2 i=some y):bh Pg GE 0 (cA Wq 247) (LQ (fun(zz:Int)=>sR v v2 zz) sS (kr v v2) y) (sR v v2 i):=by
 have p20:=fun{sc F} (r:PS sc F)=>sv (bw v)<|sv (bz v)<|bW (jt.ln v.Kids)<|r
 rcases aQ h with⟨c19,h⟩|⟨c19,h⟩
 ·obtain⟨x21,bx21,x22,bx22,r23,br23,h⟩:=Zb3 h
  have p25:=fun{sc F} (r:PS sc F)=>p20<|sg 0 c19<|Kw [0,1,0,7,15,0,32,0,224,480,1023,2047]<|sv (bw v)<|sv (bz v)<|sv (jt.ia (k:=.i64) bx21)<|sv (b9 x21)<|sv (bw v2)<|sv (bz v2)<|sv (jt.ia (k:=.i64) bx22)<|sv (b9 x22)<|dj (hR36 _ _ _ br23)<|r
  rcases aQ h with⟨c24,h⟩|⟨c24,h⟩
  ·obtain rfl:=lf h
   have z:=p25<|sg 0 c24<|eF (sS (.inl ())) (kr v v2 (.inl ()))
   exact jy NH (Zn rfl) z<|by kernel_rfl
  ·obtain rfl:=lf h
   exact AC NH (p25<|sg 0 c24<|eF .normal (sR v v2 (bV (i+1))))<|by kernel_rfl
 ·obtain rfl:=lf h
  have z:=p20<|sg 0 c19<|eF (sS (.inr ())) (kr v v2 (.inr ()))
  exact jy NH (Zn rfl) z<|by kernel_rfl
theorem vp(hR36:rK R36){x:Unit⊕(Unit)}(h:Hy R36 v v2 i=some x):bh Pg GE 0 (.loop (cA Wq 247)) (EX (sS x) (kr v v2 x)) (sR v v2 i):=
 ZL h fun _ _ hy=>Ib _ _ _ _ hR36 hy
end
section
variable(R36:rO)(v:ag)(v2:ag)(i:Int)(m:af)(m2:waA)(m3:Int)(m4:af)(m5:Int)(m6:waF)(m7:waE)(m8:waD)(m9:waB)(m10:af)(m11:waA)(m12:Int)(m13:af)(m14:Int)(m15:waF)(m16:waE)(m17:waD)(m18:waB)
def KQ:aB:=bg 117 [(2,.eptr (ae v)),(3,.eptr (ae v2)),(6,.int .i64 i),(7,.bptr 2 0),(8,.bptr 3 0)] [.dead,.dead,.cells [.str m,sl cS m2,.int .i64 m3,.str m4,.int .i64 m5,sl ae m6,sl aw m7,sl aA m8,sl ai m9] [],.cells [.str m10,sl cS m11,.int .i64 m12,.str m13,.int .i64 m14,sl ae m15,sl aw m16,sl aA m17,sl ai m18] []] []
def sQ(o:Bool):aB:=bg 117 [(2,.eptr (ae v)),(3,.eptr (ae v2)),(6,.int .i64 i),(116,.bool o)] [.dead,.dead,.cells [.str m,sl cS m2,.int .i64 m3,.str m4,.int .i64 m5,sl ae m6,sl aw m7,sl aA m8,sl ai m9] [],.cells [.str m10,sl cS m11,.int .i64 m12,.str m13,.int .i64 m14,sl ae m15,sl aw m16,sl aA m17,sl ai m18] []] []
def Hx:Option Bool:=
 if(!(m==m10))=true then
  some true
 else
  (kq m2 m11).bind fun r33=>
  if(!r33)=true then
   some true
  else
   (R36 (⟨m3,m4,m5,m6,m7,m8,m9⟩:ag) (⟨m12,m13,m14,m15,m16,m17,m18⟩:ag)).bind fun r36=>
   some (!r36)
theorem Jk(hR36:rK R36){x:Bool}(h:Hx R36 m m2 m3 m4 m5 m6 m7 m8 m9 m10 m11 m12 m13 m14 m15 m16 m17 m18=some x):bh Pg GE 0 (cA Wq 16118) (EX .normal (sQ v v2 i m m2 m3 m4 m5 m6 m7 m8 m9 m10 m11 m12 m13 m14 m15 m16 m17 m18 x)) (KQ v v2 i m m2 m3 m4 m5 m6 m7 m8 m9 m10 m11 m12 m13 m14 m15 m16 m17 m18):=by
 have p32:=fun{sc F} (r:PS sc F)=>ss<|ss<|r
 rcases aQ h with⟨c31,h⟩|⟨c31,h⟩
 ·obtain rfl:=lf h
  exact bF NH (p32<|sg 6 c31<|eF .normal (sQ v v2 i m m2 m3 m4 m5 m6 m7 m8 m9 m10 m11 m12 m13 m14 m15 m16 m17 m18 true))<|by kernel_rfl
 ·obtain⟨r33,br33,h⟩:=cP h
  have p35:=fun{sc F} (r:PS sc F)=>p32<|sg 6 c31<|ss<|ss<|dj (nz br33)<|r
  rcases aQ h with⟨c34,h⟩|⟨c34,h⟩
  ·obtain rfl:=lf h
   exact bF NH (p35<|sg 14 c34<|eF .normal (sQ v v2 i m m2 m3 m4 m5 m6 m7 m8 m9 m10 m11 m12 m13 m14 m15 m16 m17 m18 true))<|by kernel_rfl
  ·obtain⟨r36,br36,h⟩:=cP h
   obtain rfl:=lf h
   exact bF NH (p35<|sg 14 c34<|sv (ce (⟨m3,m4,m5,m6,m7,m8,m9⟩:ag) [])<|sv (ce (⟨m12,m13,m14,m15,m16,m17,m18⟩:ag) [])<|dj (hR36 _ _ _ br36)<|eF .normal (sQ v v2 i m m2 m3 m4 m5 m6 m7 m8 m9 m10 m11 m12 m13 m14 m15 m16 m17 m18 (!r36)))<|by kernel_rfl
end
section
variable(R36:rO)(v:ag)(v2:ag)(i:Int)
def sT:aB:=bg 117 [(2,.eptr (ae v)),(3,.eptr (ae v2)),(6,.int .i64 i)] [.dead,.dead] []
def sU(o:Unit⊕(Unit)):Exit:=match o with
 |(.inl _)=>.ret
 |(.inr _)=>.exit 2
def mq(o:Unit⊕(Unit)):aB:=match o with
 |(.inl o)=>bg 117 [(4,.bool false)] [.dead,.dead] []
 |(.inr o)=>bg 117 [] [.dead,.dead] []
def C5:Option (Int⊕(Unit⊕(Unit))):=
 if(decide (i<(v.Alts.length:Int)))=true then
  (gn v.Alts i).bind fun x29=>
  (gn v2.Alts i).bind fun x30=>
  (Hx R36 x29.Con x29.Names x29.Body.Op x29.Body.Name x29.Body.N x29.Body.Kids x29.Body.Params x29.Body.Alts x29.Body.Types x30.Con x30.Names x30.Body.Op x30.Body.Name x30.Body.N x30.Body.Kids x30.Body.Params x30.Body.Alts x30.Body.Types).bind fun o37=>
  if o37=true then
   some (.inr (.inl ()))
  else
   some (.inl (bV (i+1)))
 else
  some (.inr (.inr ()))
def Hz:Option (Unit⊕(Unit)):=loop (fun(zz:Int)=>C5 R36 v v2 zz) i
theorem Ic(hR36:rK R36){y:Int⊕(Unit⊕(Unit))}(h:C5 R36 v v2 i=some y):bh Pg GE 0 (cA Wq 503) (LQ (fun(zz:Int)=>sT v v2 zz) sU mq y) (sT v v2 i):=by
 have p28:=fun{sc F} (r:PS sc F)=>sv (aK v)<|sv (aL v)<|bW (fO.ln v.Alts)<|r
 rcases aQ h with⟨c27,h⟩|⟨c27,h⟩
 ·obtain⟨x29,bx29,x30,bx30,o37,bo37,h⟩:=Zb3 h
  have p39:=fun{sc F} (r:PS sc F)=>p28<|sg 0 c27<|Xx (.dx [0,1,0,7,15,0,32,0,224,480,0,0,3103,8191] [] [] [741,765])<|sv (aK v)<|sv (aL v)<|sv (fO.ia (k:=.i64) bx29)<|sv (mH x29)<|sv (aK v2)<|sv (aL v2)<|sv (fO.ia (k:=.i64) bx30)<|sv (mH x30)<|sx (jz x29)<|sx (jz x30)<|rh 0<|du (Jk R36 v v2 i x29.Con x29.Names x29.Body.Op x29.Body.Name x29.Body.N x29.Body.Kids x29.Body.Params x29.Body.Alts x29.Body.Types x30.Con x30.Names x30.Body.Op x30.Body.Name x30.Body.N x30.Body.Kids x30.Body.Params x30.Body.Alts x30.Body.Types hR36 bo37)<|r
  rcases aQ h with⟨c38,h⟩|⟨c38,h⟩
  ·obtain rfl:=lf h
   have z:=p39<|sg 0 c38<|ue 0 (sU (.inl ())) (mq (.inl ())) rfl (dU (aI trivial trivial)) (aI trivial (aI trivial trivial))
   exact rY (A:=NH) mixed (Zn rfl) z<|by kernel_rfl
  ·obtain rfl:=lf h
   have z:=p39<|sg 0 c38<|ue 0 .normal (sT v v2 (bV (i+1))) rfl (dU (aI (aZ (ay v)) (aI (aZ (ay v2)) (aI trivial trivial)))) (aI trivial (aI trivial trivial))
   exact ed (A:=NH) mixed z<|by kernel_rfl
 ·obtain rfl:=lf h
  have z:=p28<|sg 0 c27<|eF (sU (.inr ())) (mq (.inr ()))
  exact jy NH (Zn rfl) z<|by kernel_rfl
theorem AR(hR36:rK R36){x:Unit⊕(Unit)}(h:Hz R36 v v2 i=some x):bh Pg GE 0 (.loop (cA Wq 503)) (EX (sU x) (mq x)) (sT v v2 i):=
 ZL h fun _ _ hy=>Ic _ _ _ _ hR36 hy
end
def Jg(R36:rO)(a:ag)(a2:ag):Option Bool:=
 (Hv a a2).bind fun o11=>
 if o11=true then
  some false
 else
  (Hw a a2).bind fun o16=>
  if o16=true then
   some false
  else
   (Hy R36 a a2 0).bind fun o26=>match o26 with
   |(.inl o26)=>
    some false
   | (.inr o26) =>
    (Hz R36 a a2 0).bind fun o40=>match o40 with
    |(.inl o40)=>
     some false
    |(.inr o40)=>
     some true
theorem Mt(R36:rO)(hR36:rK R36){a:ag}{a2:ag}{r:Bool}(h:Jg R36 a a2=some r):CC Pg GE 12 [.agg (ae a),.agg (ae a2)] (.bool r) []:=by
 obtain⟨o11,bo11,h⟩:=cP h
 have p13:=fun{sc F} (r:PS sc F)=>se (dy a)<|se (dy a2)<|rh 1<|du (Ji a a2 bo11)<|r
 rcases aQ h with⟨c12,h⟩|⟨c12,h⟩
 ·obtain rfl:=lf h
  have z:=p13<|sg 0 c12<|en (aI (rP (.bool false))<|trivial)
  exact Z12.v (aI (ay a) (aI (ay a2) trivial)) z<|by kernel_rfl
 ·obtain⟨o16,bo16,h⟩:=cP h
  have p18:=fun{sc F} (r:PS sc F)=>p13<|sg 0 c12<|rh 1<|du (Jj a a2 bo16)<|r
  rcases aQ h with⟨c17,h⟩|⟨c17,h⟩
  ·obtain rfl:=lf h
   have z:=p18<|sg 0 c17<|en (aI (rP (.bool false))<|trivial)
   exact Z12.v (aI (ay a) (aI (ay a2) trivial)) z<|by kernel_rfl
  ·obtain⟨o26,bo26,h⟩:=cP h
   rcases o26 with o26|o26
   ·obtain rfl:=lf h
    have z:=p18<|sg 0 c17<|du (e:=.ret) (s1:=kr a a2 (.inl o26)) (vp R36 a a2 0 hR36 bo26)<|en (aI (rP (.bool false))<|trivial)
    exact Z12.v (aI (ay a) (aI (ay a2) trivial)) z<|by kernel_rfl
   ·obtain⟨o40,bo40,h⟩:=cP h
    rcases o40 with o40|o40
    ·obtain rfl:=lf h
     have z:=p18<|sg 0 c17<|du (e:=.exit 0) (s1:=kr a a2 (.inr o26)) (vp R36 a a2 0 hR36 bo26)<|du (e:=.ret) (s1:=mq (.inl o40)) (AR R36 a a2 0 hR36 bo40)<|en (aI (rP (.bool false))<|trivial)
     exact Z12.v (aI (ay a) (aI (ay a2) trivial)) z<|by kernel_rfl
    ·obtain rfl:=lf h
     have z:=p18<|sg 0 c17<|du (e:=.exit 0) (s1:=kr a a2 (.inr o26)) (vp R36 a a2 0 hR36 bo26)<|du (e:=.exit 2) (s1:=mq (.inr o40)) (AR R36 a a2 0 hR36 bo40)<|en (aI (rP (.bool true))<|trivial)
     exact Z12.v (aI (ay a) (aI (ay a2) trivial)) z<|by kernel_rfl
def Jh:((ag×ag)->Option Bool)->(ag×ag)->Option Bool:=fun(rec:(ag×ag)->Option Bool) (x:ag×ag)=>Jg (fun a a2=>rec (a,a2)) x.1 x.2
def Jf(a:ag)(a2:ag):Option Bool:=tn Jh (a,a2)
theorem HA{a:ag}{a2:ag}{r:Bool}(h:Jf a a2=some r):CC Pg GE 12 [.agg (ae a),.agg (ae a2)] (.bool r) []:=
 fj (F:=Jh) (M:=fun(x:ag×ag) (r:Bool)=>CC Pg GE 12 [.agg (ae x.1),.agg (ae x.2)] (.bool r) []) (fun rec hrec x r h=>Mt _ (fun a a2 r h=>hrec (a,a2) r h) h) h
abbrev ek:=(ag->(List (af×Bool))->Option (Bool×(List (af×Bool))))
abbrev ei(R:ek):Prop:=∀(e:ag) (k2:(List (af×Bool))) (r:Bool×(List (af×Bool))),R e k2=some r->C Pg GE 64 [.agg (ae e),.func (.func 99) [] [.bptr 0 0]] [] [.cells [.func (.func 81) [.bptr 1 0] []] [],.cells [.mapr 2] [],.map (aJ PVal.bool k2)] (.bool r.1) [] [.cells [.func (.func 81) [.bptr 1 0] []] [],.cells [.mapr 2] [],.map (aJ PVal.bool r.2)]
end Go.Proofs.YtkdahfeiedaahaaGreatDoor
