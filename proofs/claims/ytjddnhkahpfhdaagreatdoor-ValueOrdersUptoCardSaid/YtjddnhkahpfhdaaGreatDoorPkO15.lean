/- PROVED: a part of the proof. Conditions: none. -/
import Derived.Test.YtjddnhkahpfhdaaGreatDoorPkO14
set_option linter.unusedSimpArgs false
set_option linter.unusedVariables false
noncomputable section
namespace Go.Proofs.YtjddnhkahpfhdaaGreatDoor
open Go Go.Proofs.Tryz
set_option linter.unusedVariables false
set_option linter.defProp false
set_option maxRecDepth 100000
abbrev lp:=(aa->Option aa)
abbrev pO(R:lp):Prop:=∀(v:aa),OV 69 [.agg (ac v)] (R v) (λr=>.agg (ac r)) [(3,36)]
noncomputable def Vj:Code:=f69.body.getD .skip
theorem U7:ZF Pg [13,19] 69 f69 Vj:=zf call69 func69 rfl mixed
section
variable(R33:lp)(t7:waA)(t8:Int)(m:Int)(m2:Int)(m3:ai)(m4:waB)(m5:waF)(m6:waH)(m7:waA)(m8:waF)(m9:waH)(kids:waA)(t9:Int)
def la:ax:=bT 22 [(1,.bptr 0 0),(2,.bptr 1 0),(3,sl ac kids),(7,sl ac t7),(8,.int .i64 t8),(9,.int .i64 t9)] [.cells [.int .i64 m,.int .i64 m2,.str m3,sl ac t7,sl cS m4,sl ak m5,sl aL m6] [],.cells [.int .i64 0,.int .i64 0,.str ([]:ai),sl ac m7,sl cS ([]:List ai),sl ak m8,sl aL m9] [(3,36),(4,9),(5,52),(6,113)]] [((3,0),36)]
def qJ(o:waA):ax:=bT 22 [(1,.bptr 0 0),(2,.bptr 1 0),(3,sl ac o)] [.cells [.int .i64 m,.int .i64 m2,.str m3,sl ac t7,sl cS m4,sl ak m5,sl aL m6] [],.cells [.int .i64 0,.int .i64 0,.str ([]:ai),sl ac m7,sl cS ([]:List ai),sl ak m8,sl aL m9] [(3,36),(4,9),(5,52),(6,113)]] [((3,0),36)]
instance iS_value_clone_L1:KS 0 (la t7 t8 m m2 m3 m4 m5 m6 m7 m8 m9 kids t9):=ks 2 rfl
instance iO_value_clone_L1{o:waA}:KS 0 (qJ t7 m m2 m3 m4 m5 m6 m7 m8 m9 o):=ks 2 rfl
def qI:Option ((waA×Int)⊕(waA)):=
 if decide (t9<t8)=true then
  (ed t7 t9).bind λx2=>
  (R33 x2).bind λr3=>
  (app kids ([r3]:List aa)).bind λl4=>
  some (.inl (l4,cc (t9+1)))
 else
  some (.inr kids)
def D5:Option waA:=loop (λ(zz:waA×Int)=>qI R33 t7 t8 zz.1 zz.2) (kids,t9)
theorem xJ(hR33:pO R33):OL 0 (cA Vj 119) (qI R33 t7 t8 kids t9) (λ(zz:waA×Int)=>la t7 t8 m m2 m3 m4 m5 m6 m7 m8 m9 zz.1 zz.2) (λ_=>.exit 0) (qJ t7 m m2 m3 m4 m5 m6 m7 m8 m9) (la t7 t8 m m2 m3 m4 m5 m6 m7 m8 m9 kids t9):=U7.lx<|
 tF (tb λx2 bx2=>tb λr3 br3=>tb λl4 bl4=>tv (aZ.ia (k:=.i64) bx2)<|tv (al x2)<|tx vI<|tx (dz x2)<|tv (aF x2 [])<|bz (hR33 _ _ br3)<|tv (aZ.mk' (v:=oh) kR ([r3]:List aa) 1 (by kernel_rfl))<|tv (aZ.ap bl4)<|tE)<|tE
def zl(hR33:pO R33):=Dd (s:=(kids,t9)) λzz=>xJ R33 t7 t8 m m2 m3 m4 m5 m6 m7 m8 m9 zz.1 zz.2 hR33
end
def wF(R33:lp)(v:aa):Option aa:=
 (D5 R33 v.Kids (v.Kids.length:Int) ([]:List aa) 0).bind λo5=>
 some (⟨v.Op,v.N,v.Name,o5,v.Params,v.Body,v.Binds⟩:aa)
theorem BD(R33:lp)(hR33:pO R33){v:aa}:OV 69 [.agg (ac v)] (wF R33 v) (λr=>.agg (ac r)) [(3,36)]:=U7.va<|
 tb λo5 bo5=>WQ (dz v) rfl<|tx vI<|ts<|cO (aZ.ln v.Kids)<|dZ (zl R33 v.Kids (v.Kids.length:Int) v.Op v.N v.Name v.Params v.Body v.Binds ([]:List aa) ([]:List aj) ([]:List aA) ([]:List aa) 0 hR33 _ bo5)<|tz (aF (⟨v.Op,v.N,v.Name,o5,v.Params,v.Body,v.Binds⟩:aa) [])<|ty (bm (⟨v.Op,v.N,v.Name,o5,v.Params,v.Body,v.Binds⟩:aa))<|MI λq=>aI (DF (⟨v.Op,v.N,v.Name,o5,v.Params,v.Body,v.Binds⟩:aa)) q.2
def wG:(aa->Option aa)->(aa)->Option aa:=λ(rec:aa->Option aa) (x:aa)=>wF (λv=>rec v) x
def A5(v:aa):Option aa:=kM wG v
theorem D6{v:aa}:OV 69 [.agg (ac v)] (A5 v) (λr=>.agg (ac r)) [(3,36)]:=lY λ_ h=>
 cd (F:=wG) (M:=λ(x:aa) (r:aa)=>CC Pg GE 69 [.agg (ac x)] (.agg (ac r)) [(3,36)]) (λrec hrec x r h=>BD _ (λv=>lY λr h=>hrec v r h) _ h) h
noncomputable def S9:Code:=f27.body.getD .skip
theorem S2:ZF Pg [31,51,57] 27 f27 S9:=zf call27 func27 rfl mixed
section
variable(size:Int)(most:Int)(t:ae)(out:waA)(n:Int)(m2:(List (ai×waA)))(m:(List aS))(m3:(List eD))(m4:(List bN))(m5:(List ce))(m6:(List gj))(m7:(List kW))
def wz:Option Bool:=
 if decide (n<=(if 7<size then 7 else size))=true then
  some (decide ((out.length:Int)<(if 2000<most then 2000 else most)))
 else
  some false
theorem Al:OU 0 (cA S9 988) (wz size most out n) .normal (λo=>[(28,.bool o)]) (bT 58 [(2,.int .i64 size),(3,.int .i64 most),(5,.eptr (af t)),(9,.bptr 3 0),(10,sl ac out),(11,.int .i64 n)] [.dead,.dead,.map (jp (sl ac) m2),.cells [sl aC m,sl ee m3,sl bS m4,sl cj m5,sl eJ m6,sl fF m7,.mapr 2] []] [((10,0),36)]):=S2.j<|
 tf (λc1=>tg 5 c1<|cO (aZ.ln out)<|tE) λc1=>tg 5 c1<|tE
end
section
variable(size:Int)(most:Int)(t:ae)(m:(List aS))(m3:(List eD))(m4:(List bN))(m5:(List ce))(m6:(List gj))(m7:(List kW))(out:waA)(n:Int)(m2:(List (ai×waA)))
def sw:ax:=bT 58 [(2,.int .i64 size),(3,.int .i64 most),(5,.eptr (af t)),(9,.bptr 3 0),(10,sl ac out),(11,.int .i64 n)] [.dead,.dead,.map (jp (sl ac) m2),.cells [sl aC m,sl ee m3,sl bS m4,sl cj m5,sl eJ m6,sl fF m7,.mapr 2] []] [((10,0),36)]
def BA(o:waA×(List (ai×waA))):ax:=bT 58 [(3,.int .i64 most),(10,sl ac o.1)] [.dead,.dead,.map (jp (sl ac) o.2),.cells [sl aC m,sl ee m3,sl bS m4,sl cj m5,sl eJ m6,sl fF m7,.mapr 2] []] [((10,0),36)]
def sy:Option ((waA×Int×(List (ai×waA)))⊕((waA×(List (ai×waA))))):=
 (wz size most out n).bind λo2=>
 if o2=true then
  (A4 t).bind λr4=>
  (A7 m m3 m4 m5 m6 m7 r4 n m2).bind λr5=>
  (app out r5.1).bind λl6=>
  some (.inl (l6,cc (n+1),r5.2))
 else
  some (.inr (out,m2))
def E9:Option ((waA×(List (ai×waA)))):=loop (λ(zz:waA×Int×(List (ai×waA)))=>sy size most t m m3 m4 m5 m6 m7 zz.1 zz.2.1 zz.2.2) (out,n,m2)
theorem zc:OL 0 (cA S9 247) (sy size most t m m3 m4 m5 m6 m7 out n m2) (λ(zz:waA×Int×(List (ai×waA)))=>sw size most t m m3 m4 m5 m6 m7 zz.1 zz.2.1 zz.2.2) (λ_=>.exit 0) (BA most m m3 m4 m5 m6 m7) (sw size most t m m3 m4 m5 m6 m7 out n m2):=S2.l<|
 tb λo2 bo2=>xO 1<|dZ (Al size most t out n m2 m m3 m4 m5 m6 m7 _ bo2)<|tF (tb λr4 br4=>tb λr5 br5=>tb λl6 bl6=>VF (.dx [0,0,0,4,0,30,63,127] [] [] [19,289])<|tv (show aO Pg 135 [sl aC m,sl ee m3,sl bS m4,sl cj m5,sl eJ m6,sl fF m7,.mapr 2]=some (.agg [sl aC m,sl ee m3,sl bS m4,sl cj m5,sl eJ m6,sl fF m7,.mapr 2]) by kernel_rfl)<|tv (eI t)<|bz (DU _ br4)<|tc [2] (D9 br5)<|tv (aZ.ap bl6)<|tE)<|tE
def Am:=Dd (s:=(out,n,m2)) λzz=>zc size most t m m3 m4 m5 m6 m7 zz.1 zz.2.1 zz.2.2
end
section
variable(t45:waA)(t46:Int)(m2:(List (ai×waA)))(m:(List aS))(m3:(List eD))(m4:(List bN))(m5:(List ce))(m6:(List gj))(m7:(List kW))(copies:waA)(t47:Int)
def mw:ax:=bT 58 [(12,sl ac copies),(45,sl ac t45),(46,.int .i64 t46),(47,.int .i64 t47)] [.dead,.dead,.map (jp (sl ac) m2),.cells [sl aC m,sl ee m3,sl bS m4,sl cj m5,sl eJ m6,sl fF m7,.mapr 2] []] [((12,0),36)]
def sB(o:waA):ax:=bT 58 [(12,sl ac o)] [.dead,.dead,.map (jp (sl ac) m2),.cells [sl aC m,sl ee m3,sl bS m4,sl cj m5,sl eJ m6,sl fF m7,.mapr 2] []] [((12,0),36)]
instance iS_value_Enum_L3:KS 0 (mw t45 t46 m2 m m3 m4 m5 m6 m7 copies t47):=ks 4 rfl
instance iO_value_Enum_L3{o:waA}:KS 0 (sB m2 m m3 m4 m5 m6 m7 o):=ks 4 rfl
def sA:Option ((waA×Int)⊕(waA)):=
 if decide (t47<t46)=true then
  (ed t45 t47).bind λx10=>
  (A5 x10).bind λr11=>
  (app copies ([r11]:List aa)).bind λl12=>
  some (.inl (l12,cc (t47+1)))
 else
  some (.inr copies)
def Fa:Option waA:=loop (λ(zz:waA×Int)=>sA t45 t46 zz.1 zz.2) (copies,t47)
theorem zd:OL 0 (cA S9 2039) (sA t45 t46 copies t47) (λ(zz:waA×Int)=>mw t45 t46 m2 m m3 m4 m5 m6 m7 zz.1 zz.2) (λ_=>.exit 2) (sB m2 m m3 m4 m5 m6 m7) (mw t45 t46 m2 m m3 m4 m5 m6 m7 copies t47):=S2.lx<|
 tF (tb λx10 bx10=>tb λr11 br11=>tb λl12 bl12=>tv (aZ.ia (k:=.i64) bx10)<|tv (al x10)<|tx vI<|tx (dz x10)<|tv (aF x10 [])<|bz (D6 _ br11)<|tv (aZ.mk' (v:=oh) kR ([r11]:List aa) 1 (by kernel_rfl))<|tv (aZ.ap bl12)<|tE)<|tE
def An:=Dd (s:=(copies,t47)) λzz=>zd t45 t46 m2 m m3 m4 m5 m6 m7 zz.1 zz.2
end
def xE(m:aB)(t:ae)(size:Int)(most:Int):Option waA:=
 (E9 size most t m.Datas m.Classes m.Instances m.Measures m.Quals m.Defs ([]:List aa) 1 ([]:List (ai×waA))).bind λo7=>
 (SV o7.1 none (some (if(if 2000<(if most<(o7.1.length:Int)then most else(o7.1.length:Int))then 2000 else(if most<(o7.1.length:Int)then most else(o7.1.length:Int)))>0 then(if 2000<(if most<(o7.1.length:Int)then most else(o7.1.length:Int))then 2000 else(if most<(o7.1.length:Int)then most else(o7.1.length:Int)))else 0))).bind λl8=>
 (Fa l8 (l8.length:Int) ([]:List aa) 0).bind λo13=>
 some o13
theorem wB{m:aB}{t:ae}{size:Int}{most:Int}:OV 27 [.agg (aX m),.agg (af t),.int .i64 size,.int .i64 most] (xE m t size most) (λr=>sl ac r) [(0,36)]:=S2.v<|
 tb λo7 bo7=>tb λl8 bl8=>tb λo13 bo13=>te (iw m)<|te (iy t)<|tv (gA m)<|tv (show dy Pg 135 [(0,.agg (aX m)),(1,.mapr 2)]=some (.agg [sl aC m.Datas,sl ee m.Classes,sl bS m.Instances,sl cj m.Measures,sl eJ m.Quals,sl fF m.Defs,.mapr 2]) by kernel_rfl)<|tx SB<|tx (WD [sl aC m.Datas,sl ee m.Classes,sl bS m.Instances,sl cj m.Measures,sl eJ m.Quals,sl fF m.Defs,.mapr 2])<|dZ (Am size most t m.Datas m.Classes m.Instances m.Measures m.Quals m.Defs ([]:List aa) 1 ([]:List (ai×waA)) _ bo7)<|cO (aZ.ln o7.1)<|tv (aZ.sc bl8)<|cO (aZ.ln l8)<|dZ (An l8 (l8.length:Int) o7.2 m.Datas m.Classes m.Instances m.Measures m.Quals m.Defs ([]:List aa) 0 _ bo13)<|tE
abbrev gV:=(aB->aa->Option Int)
abbrev lc(R:gV):Prop:=∀(m:aB) (v:aa),OV 13 [.agg (aX m),.agg (ac v)] (R m v) (λr=>.int .i64 r) []
noncomputable def V2:Code:=f36.body.getD .skip
theorem VN:ZF Pg [31] 36 f36 V2:=zf call36 func36 rfl mixed
def D8(m:aB)(v:aa):Option (ae×Bool):=
 if(v.Op==1)=true then
  some ((⟨1,([]:ai),([]:List ae),([]:List ai),(⟨0,([]:ai),0,([]:List ah)⟩:ah),([]:List ah)⟩:ae),true)
 else if(v.Op==2)=true then
  some ((⟨2,([]:ai),([]:List ae),([]:List ai),(⟨0,([]:ai),0,([]:List ah)⟩:ah),([]:List ah)⟩:ae),true)
 else if(v.Op==4)=true then
  some ((⟨3,([]:ai),([]:List ae),([]:List ai),(⟨0,([]:ai),0,([]:List ah)⟩:ah),([]:List ah)⟩:ae),true)
 else
  (jJ m v.Name).bind λr4=>
  some ((⟨4,r4.1.Name,([]:List ae),([]:List ai),(⟨0,([]:ai),0,([]:List ah)⟩:ah),([]:List ah)⟩:ae),r4.2.2)
theorem A6{m:aB}{v:aa}:OV 36 [.agg (aX m),.agg (ac v)] (D8 m v) (λr=>.tuple [.agg (af r.1),.bool r.2]) []:=VN.v<|
 te (iw m)<|te (bV v)<|tx Aa<|tw (aH v)<|tF (E5 (nN 1) (nK 1)<|ty (bg (⟨1,([]:ai),([]:List ae),([]:List ai),(⟨0,([]:ai),0,([]:List ah)⟩:ah),([]:List ah)⟩:ae))<|MI λq=>aI (vbo PVal.tuple (i7 (kS (⟨1,([]:ai),([]:List ae),([]:List ai),(⟨0,([]:ai),0,([]:List ah)⟩:ah),([]:List ah)⟩:ae)) (i7 (rP (.bool true)) (rfl:([]:List PVal)=[])))) q.2)<|tF (E5 (nN 2) (nK 2)<|ty (bg (⟨2,([]:ai),([]:List ae),([]:List ai),(⟨0,([]:ai),0,([]:List ah)⟩:ah),([]:List ah)⟩:ae))<|MI λq=>aI (vbo PVal.tuple (i7 (kS (⟨2,([]:ai),([]:List ae),([]:List ai),(⟨0,([]:ai),0,([]:List ah)⟩:ah),([]:List ah)⟩:ae)) (i7 (rP (.bool true)) (rfl:([]:List PVal)=[])))) q.2)<|tF (E5 (nN 3) (nK 3)<|ty (bg (⟨3,([]:ai),([]:List ae),([]:List ai),(⟨0,([]:ai),0,([]:List ah)⟩:ah),([]:List ah)⟩:ae))<|MI λq=>aI (vbo PVal.tuple (i7 (kS (⟨3,([]:ai),([]:List ae),([]:List ai),(⟨0,([]:ai),0,([]:List ah)⟩:ah),([]:List ah)⟩:ae)) (i7 (rP (.bool true)) (rfl:([]:List PVal)=[])))) q.2)<|tb λr4 br4=>tv (gA m)<|tw (aM v)<|bz (jw _ br4)<|tx E2<|tx (gY r4.1)<|ts<|E5 (rj 4 r4.1.Name) (ri 4 r4.1.Name)<|ty (bg (⟨4,r4.1.Name,([]:List ae),([]:List ai),(⟨0,([]:ai),0,([]:List ah)⟩:ah),([]:List ah)⟩:ae))<|MI λq=>aI (vbo PVal.tuple (i7 (kS (⟨4,r4.1.Name,([]:List ae),([]:List ai),(⟨0,([]:ai),0,([]:List ah)⟩:ah),([]:List ah)⟩:ae)) (i7 (rP (.bool r4.2.2)) (rfl:([]:List PVal)=[])))) q.2
abbrev mQ:=(ae->ae->Option Bool)
abbrev qO(R:mQ):Prop:=∀(a:ae) (a2:ae),OV 47 [.agg (af a),.agg (af a2)] (R a a2) (λr=>.bool r) []
noncomputable def Tb:Code:=f47.body.getD .skip
theorem TC:ZF Pg [32] 47 f47 Tb:=zf call47 func47 rfl mixed
section
variable(v:ae)(v2:ae)
def wt:Option Bool:=
 if(v.Op !=v2.Op)=true then
  some true
 else if(!(v.Name==v2.Name))=true then
  some true
 else
  some ((v.Args.length:Int)!=(v2.Args.length:Int))
theorem Ah:OU 0 (cA Tb 12) (wt v v2) .normal (λo=>[(26,.bool o)]) (bT 46 [(2,.eptr (af v)),(3,.eptr (af v2))] [.dead,.dead] []):=TC.j<|
 have pp2:=λ{X Y Z} (r:PV _ X Y Z)=>tw (cm v)<|tw (cm v2)<|r;tf (λc1=>pp2<|tg 6 c1<|tE) λc1=>have pp4:=λ{X Y Z} (r:PV _ X Y Z)=>pp2<|tg 6 c1<|tw (cb v)<|tw (cb v2)<|r;tf (λc3=>pp4<|tg 13 c3<|tE) λc3=>pp4<|tg 13 c3<|tw (aY v)<|cO (fK.ln v.Args)<|tw (aY v2)<|cO (fK.ln v2.Args)<|tE
end
section
variable(R38:mQ)(v:ae)(v2:ae)(t29:Int)(t30:Int)
def mr:ax:=bT 46 [(2,.eptr (af v)),(3,.eptr (af v2)),(29,.int .i64 t29),(30,.int .i64 t30)] [.dead,.dead] []
def sb(o:Unit⊕(Unit)):Exit:=match o with
 |(.inl _)=>.ret
 |(.inr _)=>.exit 0
def si(o:Unit⊕(Unit)):ax:=match o with
 |(.inl o)=>bT 46 [(4,.bool false)] [.dead,.dead] []
 |(.inr o)=>bT 46 [] [.dead,.dead] []
def sa:Option (Int⊕(Unit⊕(Unit))):=
 if decide (t30<t29)=true then
  (ed v.Args t30).bind λx8=>
  (ed v2.Args t30).bind λx9=>
  (R38 x8 x9).bind λr10=>
  if(!r10)=true then
   some (.inr (.inl ()))
  else
   some (.inl (cc (t30+1)))
 else
  some (.inr (.inr ()))
def wu:Option (Unit⊕(Unit)):=loop (λ(zz:Int)=>sa R38 v v2 t29 zz) t30
theorem yZ(hR38:qO R38):OL 0 (cA Tb 119) (sa R38 v v2 t29 t30) (λ(zz:Int)=>mr v v2 t29 zz) sb si (mr v v2 t29 t30):=TC.l<|
 tF (tb λx8 bx8=>tb λx9 bx9=>tb λr10 br10=>pG [0,1,0,7,15,0,32,0,224,480,1023,2047]<|tw (aY v)<|tv (fK.ia (k:=.i64) bx8)<|tv (eI x8)<|tw (aY v2)<|tv (fK.ia (k:=.i64) bx9)<|tv (eI x9)<|bz (hR38 _ _ _ br10)<|tF tE<|tE)<|tE
theorem qD(hR38:qO R38):OK 0 (.loop (cA Tb 119)) (wu R38 v v2 t29 t30) sb si (mr v v2 t29 t30):=yA λ_=>yZ _ _ _ _ _ hR38
end
def yX(R38:mQ)(a:ae)(a2:ae):Option Bool:=
 (wt a a2).bind λo5=>
 if o5=true then
  some false
 else
  (wu R38 a a2 (a.Args.length:Int) 0).bind λo12=>match o12 with
  |(.inl o12)=>
   some false
  |(.inr o12)=>
   some true
theorem DV(R38:mQ)(hR38:qO R38){a:ae}{a2:ae}:OV 47 [.agg (af a),.agg (af a2)] (yX R38 a a2) (λr=>.bool r) []:=TC.v<|
 tb λo5 bo5=>te (iy a)<|te (iy a2)<|xO 1<|dZ (Ah a a2 _ bo5)<|tF tE<|tw (aY a)<|cO (fK.ln a.Args)<|t2 (λo12 bo12=>dZ (qD R38 a a2 (a.Args.length:Int) 0 hR38 _ bo12)<|tE) λo12 bo12=>dZ (qD R38 a a2 (a.Args.length:Int) 0 hR38 _ bo12)<|tE
def yY:((ae×ae)->Option Bool)->(ae×ae)->Option Bool:=λ(rec:(ae×ae)->Option Bool) (x:ae×ae)=>yX (λa a2=>rec (a,a2)) x.1 x.2
def xz(a:ae)(a2:ae):Option Bool:=kM yY (a,a2)
theorem wv{a:ae}{a2:ae}:OV 47 [.agg (af a),.agg (af a2)] (xz a a2) (λr=>.bool r) []:=lY λ_ h=>
 cd (F:=yY) (M:=λ(x:ae×ae) (r:Bool)=>CC Pg GE 47 [.agg (af x.1),.agg (af x.2)] (.bool r) []) (λrec hrec x r h=>DV _ (λa a2=>lY λr h=>hrec (a,a2) r h) _ h) h
noncomputable def TN:Code:=f38.body.getD .skip
theorem UV:ZF Pg [44,52] 38 f38 TN:=zf call38 func38 rfl mixed
section
variable(R35:gV)(m:aB)(fields:waC)(t40:waA)(t41:Int)(m2:ai)(m3:waB)(m4:waD)(m5:waE)(t42:Int)
def jD:ax:=bT 67 [(2,.eptr (aX m)),(8,sl af fields),(40,sl ac t40),(41,.int .i64 t41),(42,.int .i64 t42)] [.dead,.dead,.cells [.str m2,sl cS m3,sl cw m4,sl aT m5] []] []
def sE(o:Int⊕(Unit)):Exit:=match o with
 |(.inl _)=>.ret
 |(.inr _)=>.exit 0
def mB(o:Int⊕(Unit)):ax:=match o with
 |(.inl o)=>bT 67 [(4,.int .i64 o)] [.dead,.dead,.cells [.str m2,sl cS m3,sl cw m4,sl aT m5] []] []
 |(.inr o)=>bT 67 [] [.dead,.dead,.cells [.str m2,sl cS m3,sl cw m4,sl aT m5] []] []
instance iS_value_data_L1:KS 0 (jD m fields t40 t41 m2 m3 m4 m5 t42):=ks 3 rfl
instance iO_value_data_L1{o:Int⊕(Unit)}:KS 0 (mB m2 m3 m4 m5 o):=match o with
 |(.inl o)=>ks 3 rfl
 |(.inr o)=>ks 3 rfl
def sD:Option (Int⊕(Int⊕(Unit))):=
 if decide (t42<t41)=true then
  (ed t40 t42).bind λx7=>
  (R35 m x7).bind λr8=>
  if(r8 !=0)=true then
   some (.inr (.inl r8))
  else
   (D8 m x7).bind λr10=>
   (ed fields t42).bind λx11=>
   (xz r10.1 x11).bind λr12=>
   if(!r12)=true then
    some (.inr (.inl 12))
   else
    some (.inl (cc (t42+1)))
 else
  some (.inr (.inr ()))
def wH:Option (Int⊕(Unit)):=loop (λ(zz:Int)=>sD R35 m fields t40 t41 zz) t42
theorem zm(hR35:lc R35):OL 0 (cA TN 2039) (sD R35 m fields t40 t41 t42) (λ(zz:Int)=>jD m fields t40 t41 m2 m3 m4 m5 zz) sE (mB m2 m3 m4 m5) (jD m fields t40 t41 m2 m3 m4 m5 t42):=UV.lx<|
 tF (tb λx7 bx7=>tb λr8 br8=>tv (aZ.ia (k:=.i64) bx7)<|tv (al x7)<|tx vI<|tx (dz x7)<|tv (gA m)<|tv (aF x7 [])<|bz (hR35 _ _ _ br8)<|tF tE<|tb λr10 br10=>tb λx11 bx11=>tb λr12 br12=>tv (gA m)<|tv (aF x7 [])<|bz (A6 _ br10)<|tx Aa<|tx (iO r10.1)<|pG [0,0,0,6,14,31,63]<|tv (fR r10.1 [])<|tv (fK.ia (k:=.i64) bx11)<|tv (eI x11)<|bz (wv _ br12)<|tF tE<|tE)<|tE
theorem qK(hR35:lc R35):OK 0 (.loop (cA TN 2039)) (wH R35 m fields t40 t41 t42) sE (mB m2 m3 m4 m5) (jD m fields t40 t41 m2 m3 m4 m5 t42):=yA λ_=>zm _ _ _ _ _ _ _ _ _ _ hR35
end
def D7(R35:gV)(m:aB)(v:aa):Option Int:=
 if(v.N !=0)=true then
  some 1
 else
  (jJ m v.Name).bind λr2=>
  if(!r2.2.2)=true then
   some 5
  else
   (ed r2.1.Cons r2.2.1).bind λx4=>
   if((x4.Fields.length:Int)!=(v.Kids.length:Int))=true then
    some 13
   else
    (wH R35 m x4.Fields v.Kids (v.Kids.length:Int) 0).bind λo14=>match o14 with
    |(.inl o14)=>
     some o14
    |(.inr o14)=>
     some 0
theorem Fd(R35:gV)(hR35:lc R35){m:aB}{v:aa}:OV 38 [.agg (aX m),.agg (ac v)] (D7 R35 m v) (λr=>.int .i64 r) []:=UV.v<|
 te (iw m)<|te (bV v)<|tw (az v)<|tF tE<|tb λr2 br2=>tv (gA m)<|tw (aM v)<|bz (jw _ br2)<|tx E2<|tx (gY r2.1)<|tF tE<|tb λx4 bx4=>ts<|tv (MD.ia (k:=.i64) bx4)<|tw (yu x4)<|cO (fK.ln x4.Fields)<|tw (av v)<|cO (aZ.ln v.Kids)<|tF tE<|tw (av v)<|cO (aZ.ln v.Kids)<|t2 (λo14 bo14=>dZ (qK R35 m x4.Fields v.Kids (v.Kids.length:Int) r2.1.Name r2.1.Vars r2.1.Preds r2.1.Cons 0 hR35 _ bo14)<|tE) λo14 bo14=>dZ (qK R35 m x4.Fields v.Kids (v.Kids.length:Int) r2.1.Name r2.1.Vars r2.1.Preds r2.1.Cons 0 hR35 _ bo14)<|tE
noncomputable def V3:Code:=f39.body.getD .skip
theorem VO:ZF Pg [] 39 f39 V3:=zf call39 func39 rfl mixed
def NS(n:Int):Option Bool:=
 if decide (n>=(-1000000000000))=true then
  some (decide (n<=1000000000000))
 else
  some false
theorem Mb{n:Int}:OV 39 [.int .i64 n] (NS n) (λr=>.bool r) []:=VO.v<|
 tf (λc1=>tg 3 c1<|tE) λc1=>tg 3 c1<|tE
noncomputable def Rx:Code:=f13.body.getD .skip
theorem Ru:ZF Pg [] 13 f13 Rx:=zf call13 func13 rfl mixed
section
variable(m:aB)(v:aa)
def uD:Option Bool:=
 if decide (v.Op<1)=true then
  some true
 else
  some (decide (v.Op>5))
theorem y5:OU 0 (cA Rx 26) (uD v) .normal (λo=>[(5,.bool o)]) (bT 70 [(2,.eptr (aX m)),(3,.eptr (ac v))] [.dead,.dead] []):=Ru.j<|
 have pp2:=λ{X Y Z} (r:PV _ X Y Z)=>tw (aH v)<|r;tf (λc1=>pp2<|tg 4 c1<|tE) λc1=>pp2<|tg 4 c1<|tw (aH v)<|tE
end
section
variable(m:aB)(v:aa)
def uE:Option Bool:=
 if decide ((v.Params.length:Int)>0)=true then
  some true
 else if decide ((v.Body.length:Int)>0)=true then
  some true
 else
  some (decide ((v.Binds.length:Int)>0))
theorem y6:OU 0 (cA Rx 446) (uE v) .normal (λo=>[(18,.bool o)]) (bT 70 [(2,.eptr (aX m)),(3,.eptr (ac v))] [.dead,.dead] []):=Ru.j<|
 have pp7:=λ{X Y Z} (r:PV _ X Y Z)=>tw (dK v)<|cO (sJ.ln v.Params)<|r;tf (λc6=>pp7<|tg 5 c6<|tE) λc6=>have pp9:=λ{X Y Z} (r:PV _ X Y Z)=>pp7<|tg 5 c6<|tw (bW v)<|cO (oC.ln v.Body)<|r;tf (λc8=>pp9<|tg 11 c8<|tE) λc8=>pp9<|tg 11 c8<|tw (cr v)<|cO (sL.ln v.Binds)<|tE
end
section
variable(v:aa)
def uF:Option Bool:=
 if(!(v.Name==([]:ai)))=true then
  some true
 else
  some (decide ((v.Kids.length:Int)>0))
theorem y7:OU 0 (cA Rx 7166) (uF v) .normal (λo=>[(42,.bool o)]) (bT 70 [(3,.eptr (ac v))] [.dead,.dead] []):=Ru.j<|
 have pp15:=λ{X Y Z} (r:PV _ X Y Z)=>tw (aM v)<|r;tf (λc14=>pp15<|tg 4 c14<|tE) λc14=>pp15<|tg 4 c14<|tw (av v)<|cO (aZ.ln v.Kids)<|tE
end
section
variable(v:aa)
def uH:Option Bool:=
 if(v.Op==2)=true then
  if(v.N !=0)=true then
   some (v.N !=1)
  else
   some false
 else
  some false
theorem y9:OU 0 (cA Rx 57340) (uH v) .normal (λo=>[(52,.bool o)]) (bT 70 [(3,.eptr (ac v))] [.dead,.dead] []):=Ru.j<|
 have pp19:=λ{X Y Z} (r:PV _ X Y Z)=>tw (aH v)<|r;tf (λc18=>have pp21:=λ{X Y Z} (r:PV _ X Y Z)=>pp19<|tg 4 c18<|tw (az v)<|r;tf (λc20=>pp21<|tg 9 c20<|tw (az v)<|tE) λc20=>pp21<|tg 9 c20<|tE) λc18=>pp19<|tg 4 c18<|tE
end
section
variable(v:aa)
def uG:Option Bool:=
 (uH v).bind λo22=>
 if o22=true then
  some o22
 else
  (NS v.N).bind λr24=>
  some (!r24)
theorem y8:OU 0 (cA Rx 28670) (uG v) .normal (λo=>[(3,.undef),(52,.bool o)]) (bT 70 [(3,.eptr (ac v))] [.dead,.dead] []):=Ru.j<|
 tb λo22 bo22=>xO 0<|dZ (y9 v _ bo22)<|tF tE<|tb λr24 br24=>tw (az v)<|bz (Mb _ br24)<|tE
end
def wx(R35:gV)(m:aB)(v:aa):Option Int:=
 (uD v).bind λo3=>
 if o3=true then
  some 1
 else if(v.Op==5)=true then
  some 12
 else
  (uE v).bind λo10=>
  if o10=true then
   some 1
  else if(v.Op==3)=true then
   (D7 R35 m v).bind λr13=>
   some r13
  else
   (uF v).bind λo16=>
   if o16=true then
    some 1
   else
    (uG v).bind λo25=>
    if o25=true then
     some 2
    else
     some 0
theorem Bz(R35:gV)(hR35:lc R35){m:aB}{v:aa}:OV 13 [.agg (aX m),.agg (ac v)] (wx R35 m v) (λr=>.int .i64 r) []:=Ru.v<|
 tb λo3 bo3=>te (iw m)<|te (bV v)<|xO 1<|dZ (y5 m v _ bo3)<|tF tE<|tw (aH v)<|tF tE<|tb λo10 bo10=>xO 0<|dZ (y6 m v _ bo10)<|tF tE<|tw (aH v)<|tF (tb λr13 br13=>tv (gA m)<|tv (al v)<|bz (Fd R35 hR35 _ br13)<|tE)<|tb λo16 bo16=>xO 0<|dZ (y7 v _ bo16)<|tF tE<|tb λo25 bo25=>xO 0<|dZ (y8 v _ bo25)<|tF tE<|tE
def wy:((aB×aa)->Option Int)->(aB×aa)->Option Int:=λ(rec:(aB×aa)->Option Int) (x:aB×aa)=>wx (λm v=>rec (m,v)) x.1 x.2
def uC(m:aB)(v:aa):Option Int:=kM wy (m,v)
theorem iD{m:aB}{v:aa}:OV 13 [.agg (aX m),.agg (ac v)] (uC m v) (λr=>.int .i64 r) []:=lY λ_ h=>
 cd (F:=wy) (M:=λ(x:aB×aa) (r:Int)=>CC Pg GE 13 [.agg (aX x.1),.agg (ac x.2)] (.int .i64 r) []) (λrec hrec x r h=>Bz _ (λm v=>lY λr h=>hrec (m,v) r h) _ h) h
noncomputable def VY:Code:=f11.body.getD .skip
theorem VK:ZF Pg [] 11 f11 VY:=zf call11 func11 rfl mixed
def xG(m:aB)(v:aa):Option (ae×Bool):=
 (uC m v).bind λr1=>
 if(r1 !=0)=true then
  some ((⟨0,([]:ai),([]:List ae),([]:List ai),(⟨0,([]:ai),0,([]:List ah)⟩:ah),([]:List ah)⟩:ae),false)
 else
  (D8 m v).bind λr3=>
  some (r3.1,r3.2)
theorem wE{m:aB}{v:aa}:OV 11 [.agg (aX m),.agg (ac v)] (xG m v) (λr=>.tuple [.agg (af r.1),.bool r.2]) []:=VK.v<|
 tb λr1 br1=>te (iw m)<|te (bV v)<|tx Aa<|tv (gA m)<|tv (al v)<|bz (iD _ br1)<|tF (E5 (JB) (Jz)<|ty (bg (⟨0,([]:ai),([]:List ae),([]:List ai),(⟨0,([]:ai),0,([]:List ah)⟩:ah),([]:List ah)⟩:ae))<|MI λq=>aI (vbo PVal.tuple (i7 (kS (⟨0,([]:ai),([]:List ae),([]:List ai),(⟨0,([]:ai),0,([]:List ah)⟩:ah),([]:List ah)⟩:ae)) (i7 (rP (.bool false)) (rfl:([]:List PVal)=[])))) q.2)<|tb λr3 br3=>tv (gA m)<|tv (al v)<|bz (A6 _ br3)<|tx (iO r3.1)<|MI λq=>aI (vbo PVal.tuple (i7 (kS r3.1) (i7 (rP (.bool r3.2)) (rfl:([]:List PVal)=[])))) q.2
abbrev mR:=(aa->Option ai)
abbrev qQ(R:mR):Prop:=∀(v:aa),OV 24 [.agg (ac v)] (R v) (λr=>.str r) []
noncomputable def Vh:Code:=f24.body.getD .skip
theorem UU:ZF Pg [40] 24 f24 Vh:=zf call24 func24 rfl mixed
section
variable(R40:mR)(v:aa)(t34:waA)(t35:Int)(v2:waB)(t36:Int)
def mz:ax:=bT 53 [(1,.eptr (ac v)),(3,sl cS v2),(34,sl ac t34),(35,.int .i64 t35),(36,.int .i64 t36)] [.dead] [((3,0),9)]
def sC(o:waB):ax:=bT 53 [(1,.eptr (ac v)),(3,sl cS o)] [.dead] [((3,0),9)]
instance iS_value_Text_L1:KS 0 (mz v t34 t35 v2 t36):=ks 1 rfl
instance iO_value_Text_L1{o:waB}:KS 0 (sC v o):=ks 1 rfl
def eE:Option ((waB×Int)⊕(waB)):=
 if decide (t36<t35)=true then
  (ed t34 t36).bind λx12=>
  (R40 x12).bind λr13=>
  (app v2 ([r13]:List ai)).bind λl14=>
  some (.inl (l14,cc (t36+1)))
 else
  some (.inr v2)
def wD:Option waB:=loop (λ(zz:waB×Int)=>eE R40 t34 t35 zz.1 zz.2) (v2,t36)
theorem zh(hR40:qQ R40):OL 0 (cA Vh 458679) (eE R40 t34 t35 v2 t36) (λ(zz:waB×Int)=>mz v t34 t35 zz.1 zz.2) (λ_=>.exit 1) (sC v) (mz v t34 t35 v2 t36):=UU.lx<|
 tF (tb λx12 bx12=>tb λr13 br13=>tb λl14 bl14=>tv (aZ.ia (k:=.i64) bx12)<|tv (al x12)<|tx vI<|tx (dz x12)<|tv (aF x12 [])<|bz (hR40 _ _ br13)<|tv (Ss [r13] 1 rfl)<|tv (sJ.ap bl14)<|tE)<|tE
def Aq(hR40:qQ R40):=Dd (s:=(v2,t36)) λzz=>zh R40 v t34 t35 zz.1 zz.2 hR40
end
def nh(R40:mR)(v:aa):Option ai:=
 if(v.Op==1)=true then
  (qm v.N).bind λr2=>
  some r2
 else if(v.Op==2)=true then
  if(v.N !=0)=true then
   some Ed
  else
   some zn
 else if(v.Op==4)=true then
  (qm v.N).bind λr6=>
  (zC iE r6).bind λs7=>
  (zC s7 uK).bind λs8=>
  some s8
 else if(v.Op==3)=true then
  if((v.Kids.length:Int)==0)=true then
   some v.Name
  else
   (wD R40 v.Kids (v.Kids.length:Int) ([]:List ai) 0).bind λo15=>
   (zC v.Name ga).bind λs16=>
   (K3 o15 dn).bind λr17=>
   (zC s16 r17).bind λs18=>
   (zC s18 uK).bind λs19=>
   some s19
 else
  some Jp
theorem D1(R40:mR)(hR40:qQ R40){v:aa}:OV 24 [.agg (ac v)] (nh R40 v) (λr=>.str r) []:=UU.v<|
 te (bV v)<|tw (aH v)<|tF (tb λr2 br2=>tw (az v)<|bz (tZ _ br2)<|tE)<|tF (tw (az v)<|tF tE<|tE)<|tF (tb λr6 br6=>tb λs7 bs7=>tb λs8 bs8=>tw (az v)<|bz (tZ _ br6)<|tv (fm (P:=Pg) (t:=9) bs7)<|tv (fm (P:=Pg) (t:=9) bs8)<|tE)<|tF (tw (av v)<|cO (aZ.ln v.Kids)<|tF (tw (aM v)<|tE)<|tb λo15 bo15=>tb λs16 bs16=>tb λr17 br17=>tb λs18 bs18=>tb λs19 bs19=>tw (av v)<|cO (aZ.ln v.Kids)<|dZ (Aq R40 v v.Kids (v.Kids.length:Int) ([]:List ai) 0 hR40 _ bo15)<|pG [0,1,3,0,8,31,63,127]<|tw (aM v)<|tv (fm (P:=Pg) (t:=9) bs16)<|bz (NC br17)<|tv (fm (P:=Pg) (t:=9) bs18)<|tv (fm (P:=Pg) (t:=9) bs19)<|tE)<|tE
def rL:(aa->Option ai)->(aa)->Option ai:=λ(rec:aa->Option ai) (x:aa)=>nh (λv=>rec v) x
def kZ(v:aa):Option ai:=kM rL v
theorem aK{v:aa}:OV 24 [.agg (ac v)] (kZ v) (λr=>.str r) []:=lY λ_ h=>
 cd (F:=rL) (M:=λ(x:aa) (r:ai)=>CC Pg GE 24 [.agg (ac x)] (.str r) []) (λrec hrec x r h=>D1 _ (λv=>lY λr h=>hrec v r h) _ h) h
abbrev dv:=(aa->aa->Option Bool)
abbrev ft(R:dv):Prop:=∀(a:aa) (a2:aa),OV 18 [.agg (ac a),.agg (ac a2)] (R a a2) (λr=>.bool r) []
noncomputable def TQ:Code:=f48.body.getD .skip
theorem UY:ZF Pg [19] 48 f48 TQ:=zf call48 func48 rfl mixed
section
variable(R41:dv)(s2:waA)(t15:waA)(t16:Int)(t17:Int)
def fi:ax:=bT 32 [(1,sl ac s2),(2,.func (.func 18) [] []),(15,sl ac t15),(16,.int .i64 t16),(17,.int .i64 t17)] [] []
def kC(o:Unit⊕(Unit)):Exit:=match o with
 |(.inl _)=>.ret
 |(.inr _)=>.exit 0
def ic(o:Unit⊕(Unit)):ax:=match o with
 |(.inl o)=>bT 32 [(6,.bool false)] [] []
 |(.inr o)=>bT 32 [] [] []
instance iS_slices_EqualFunc_L1:KS 0 (fi s2 t15 t16 t17):=ks 0 rfl
instance iO_slices_EqualFunc_L1{o:Unit⊕(Unit)}:KS 0 (ic o):=match o with
 |(.inl o)=>ks 0 rfl
 |(.inr o)=>ks 0 rfl
def cX:Option (Int⊕(Unit⊕(Unit))):=
 if decide (t17<t16)=true then
  (ed t15 t17).bind λx3=>
  (ed s2 t17).bind λx4=>
  (R41 x3 x4).bind λr5=>
  if(!r5)=true then
   some (.inr (.inl ()))
  else
   some (.inl (cc (t17+1)))
 else
  some (.inr (.inr ()))
def je:Option (Unit⊕(Unit)):=loop (λ(zz:Int)=>cX R41 s2 t15 t16 zz) t17
theorem qr(hR41:ft R41):OL 0 (cA TQ 119) (cX R41 s2 t15 t16 t17) (λ(zz:Int)=>fi s2 t15 t16 zz) kC ic (fi s2 t15 t16 t17):=UY.lx<|
 tF (tb λx3 bx3=>tb λx4 bx4=>tb λr5 br5=>tv (aZ.ia (k:=.i64) bx3)<|tv (al x3)<|tx vI<|tx (dz x3)<|tv (aZ.ia (k:=.i64) bx4)<|tv (al x4)<|tx vI<|tx (dz x4)<|tv (aF x3 [])<|tv (aF x4 [])<|bz (hR41 _ _ _ br5)<|tF tE<|tE)<|tE
theorem ky(hR41:ft R41):OK 0 (.loop (cA TQ 119)) (je R41 s2 t15 t16 t17) kC ic (fi s2 t15 t16 t17):=yA λ_=>qr _ _ _ _ _ hR41
end
def iU(R41:dv)(s1:waA)(s2:waA):Option Bool:=
 if((s1.length:Int)!=(s2.length:Int))=true then
  some false
 else
  (je R41 s2 s1 (s1.length:Int) 0).bind λo7=>match o7 with
  |(.inl o7)=>
   some false
  |(.inr o7)=>
   some true
theorem vJ(R41:dv)(hR41:ft R41){s1:waA}{s2:waA}:OV 48 [sl ac s1,sl ac s2,.func (.func 18) [] []] (iU R41 s1 s2) (λr=>.bool r) []:=UY.v<|
 cO (aZ.ln s1)<|cO (aZ.ln s2)<|tF tE<|cO (aZ.ln s1)<|t2 (λo7 bo7=>dZ (ky R41 s2 s1 (s1.length:Int) 0 hR41 _ bo7)<|tE) λo7 bo7=>dZ (ky R41 s2 s1 (s1.length:Int) 0 hR41 _ bo7)<|tE
noncomputable def TR:Code:=f49.body.getD .skip
theorem UZ:ZF Pg [15] 49 f49 TR:=zf call49 func49 rfl mixed
section
variable(s1:waB)(s2:waB)(t12:Int)(t13:Int)
def kA:ax:=bT 26 [(0,sl cS s1),(1,sl cS s2),(12,.int .i64 t12),(13,.int .i64 t13)] [] []
def pC(o:Unit⊕(Unit)):Exit:=match o with
 |(.inl _)=>.ret
 |(.inr _)=>.exit 0
def pD(o:Unit⊕(Unit)):ax:=match o with
 |(.inl o)=>bT 26 [(4,.bool false)] [] []
 |(.inr o)=>bT 26 [] [] []
def ez:Option (Int⊕(Unit⊕(Unit))):=
 if decide (t13<t12)=true then
  (ed s1 t13).bind λx3=>
  (ed s2 t13).bind λx4=>
  if(!(x3==x4))=true then
   some (.inr (.inl ()))
  else
   some (.inl (cc (t13+1)))
 else
  some (.inr (.inr ()))
def mm:Option (Unit⊕(Unit)):=loop (λ(zz:Int)=>ez s1 s2 t12 zz) t13
theorem vK:OL 0 (cA TR 119) (ez s1 s2 t12 t13) (λ(zz:Int)=>kA s1 s2 t12 zz) pC pD (kA s1 s2 t12 t13):=UZ.l<|
 tF (tb λx3 bx3=>tb λx4 bx4=>pG [0,0,3,7,0,0,48,112,255]<|tv (sJ.ia (k:=.i64) bx3)<|tv (uf SU (.str x3) [])<|tv (sJ.ia (k:=.i64) bx4)<|tv (uf SU (.str x4) [])<|tF tE<|tE)<|tE
theorem od:OK 0 (.loop (cA TR 119)) (mm s1 s2 t12 t13) pC pD (kA s1 s2 t12 t13):=yA λ_=>vK _ _ _ _
end
def iT(s1:waB)(s2:waB):Option Bool:=
 if((s1.length:Int)!=(s2.length:Int))=true then
  some false
 else
  (mm s1 s2 (s1.length:Int) 0).bind λo6=>match o6 with
  |(.inl o6)=>
   some false
  |(.inr o6)=>
   some true
theorem mn{s1:waB}{s2:waB}:OV 49 [sl cS s1,sl cS s2] (iT s1 s2) (λr=>.bool r) []:=UZ.v<|
 cO (sJ.ln s1)<|cO (sJ.ln s2)<|tF tE<|cO (sJ.ln s1)<|t2 (λo6 bo6=>dZ (od s1 s2 (s1.length:Int) 0 _ bo6)<|tE) λo6 bo6=>dZ (od s1 s2 (s1.length:Int) 0 _ bo6)<|tE
abbrev bC:=(waF->waF->Option Bool)
abbrev di(R:bC):Prop:=∀(s1:waF) (s2:waF),OV 50 [sl ak s1,sl ak s2,.func (.func 51) [] []] (R s1 s2) (λr=>.bool r) []
abbrev eM:=(aj->aj->Option Bool)
abbrev jh(R:eM):Prop:=∀(a:aj) (a2:aj),OV 51 [.agg (ak a),.agg (ak a2)] (R a a2) (λr=>.bool r) []
abbrev bU:=(waC->waC->Option Bool)
abbrev dp(R:bU):Prop:=∀(s1:waC) (s2:waC),OV 73 [sl af s1,sl af s2,.func (.func 74) [] []] (R s1 s2) (λr=>.bool r) []
abbrev jM:=(ah->ah->Option Bool)
abbrev oK(R:jM):Prop:=∀(a:ah) (a2:ah),OV 100 [.agg (am a),.agg (am a2)] (R a a2) (λr=>.bool r) []
noncomputable def Qz:Code:=f127.body.getD .skip
theorem RP:ZF Pg [17] 127 f127 Qz:=zf call127 func127 rfl mixed
section
variable(R48:jM)(v:waG)(v2:waG)(t14:Int)(t15:Int)
def mh:ax:=bT 30 [(0,sl am v),(1,sl am v2),(2,.func (.func 100) [] []),(14,.int .i64 t14),(15,.int .i64 t15)] [] []
def rU(o:Unit⊕(Unit)):Exit:=match o with
 |(.inl _)=>.ret
 |(.inr _)=>.exit 0
def rV(o:Unit⊕(Unit)):ax:=match o with
 |(.inl o)=>bT 30 [(6,.bool false)] [] []
 |(.inr o)=>bT 30 [] [] []
def gH:Option (Int⊕(Unit⊕(Unit))):=
 if decide (t15<t14)=true then
  (ed v t15).bind λx3=>
  (ed v2 t15).bind λx4=>
  (R48 x3 x4).bind λr5=>
  if(!r5)=true then
   some (.inr (.inl ()))
  else
   some (.inl (cc (t15+1)))
 else
  some (.inr (.inr ()))
def p5:Option (Unit⊕(Unit)):=loop (λ(zz:Int)=>gH R48 v v2 t14 zz) t15
theorem yL(hR48:oK R48):OL 0 (cA Qz 119) (gH R48 v v2 t14 t15) (λ(zz:Int)=>mh v v2 t14 zz) rU rV (mh v v2 t14 t15):=RP.l<|
 tF (tb λx3 bx3=>tb λx4 bx4=>tb λr5 br5=>pG [0,0,0,6,14,0,0,96,224,511,1023]<|tv (lV.ia (k:=.i64) bx3)<|tv (lS x3)<|tv (lV.ia (k:=.i64) bx4)<|tv (lS x4)<|bz (hR48 _ _ _ br5)<|tF tE<|tE)<|tE
theorem qp(hR48:oK R48):OK 0 (.loop (cA Qz 119)) (p5 R48 v v2 t14 t15) rU rV (mh v v2 t14 t15):=yA λ_=>yL _ _ _ _ _ hR48
end
def rF(R48:jM)(a:waG)(a2:waG):Option Bool:=
 if((a.length:Int)!=(a2.length:Int))=true then
  some false
 else
  (p5 R48 a a2 (a.length:Int) 0).bind λo7=>match o7 with
  |(.inl o7)=>
   some false
  |(.inr o7)=>
   some true
theorem E0(R48:jM)(hR48:oK R48){a:waG}{a2:waG}:OV 127 [sl am a,sl am a2,.func (.func 100) [] []] (rF R48 a a2) (λr=>.bool r) []:=RP.v<|
 cO (lV.ln a)<|cO (lV.ln a2)<|tF tE<|cO (lV.ln a)<|t2 (λo7 bo7=>dZ (qp R48 a a2 (a.length:Int) 0 hR48 _ bo7)<|tE) λo7 bo7=>dZ (qp R48 a a2 (a.length:Int) 0 hR48 _ bo7)<|tE
noncomputable def TI:Code:=f100.body.getD .skip
theorem Tu:ZF Pg [] 100 f100 TI:=zf call100 func100 rfl mixed
def pz(R48:jM)(a:ah)(a2:ah):Option Bool:=
 if (a.Op == a2.Op) = true then
  if(a.Name==a2.Name)=true then
   if(a.N==a2.N)=true then
    (rF R48 a.Kids a2.Kids).bind λr7=>
    some r7
   else
    some false
  else
   some false
 else
  some false
theorem EZ(R48:jM)(hR48:oK R48){a:ah}{a2:ah}:OV 100 [.agg (am a),.agg (am a2)] (pz R48 a a2) (λr=>.bool r) []:=Tu.v<|
 te (yE a)<|te (yE a2)<|have pp2:=λ{X Y Z} (r:PV _ X Y Z)=>tw (gy a)<|tw (gy a2)<|r;tf (λc1=>have pp4:=λ{X Y Z} (r:PV _ X Y Z)=>pp2<|tg 6 c1<|tw (fx a)<|tw (fx a2)<|r;tf (λc3=>have pp6:=λ{X Y Z} (r:PV _ X Y Z)=>pp4<|tg 13 c3<|tw (ij a)<|tw (ij a2)<|r;tf (λc5=>tb λr7 br7=>pp6<|tg 20 c5<|tw (cD a)<|tw (cD a2)<|bz (E0 R48 hR48 _ br7)<|tE) λc5=>pp6<|tg 20 c5<|tE) λc3=>pp4<|tg 13 c3<|tE) λc1=>pp2<|tg 6 c1<|tE
def uj:((ah×ah)->Option Bool)->(ah×ah)->Option Bool:=λ(rec:(ah×ah)->Option Bool) (x:ah×ah)=>pz (λa a2=>rec (a,a2)) x.1 x.2
def vj(a:ah)(a2:ah):Option Bool:=kM uj (a,a2)
theorem yK{a:ah}{a2:ah}:OV 100 [.agg (am a),.agg (am a2)] (vj a a2) (λr=>.bool r) []:=lY λ_ h=>
 cd (F:=uj) (M:=λ(x:ah×ah) (r:Bool)=>CC Pg GE 100 [.agg (am x.1),.agg (am x.2)] (.bool r) []) (λrec hrec x r h=>EZ _ (λa a2=>lY λr h=>hrec (a,a2) r h) _ h) h
noncomputable def Qy:Code:=f101.body.getD .skip
theorem RN:ZF Pg [19] 101 f101 Qy:=zf call101 func101 rfl mixed
section
variable(s2:waG)(t15:waG)(t16:Int)(t17:Int)
def ek:ax:=bT 32 [(1,sl am s2),(2,.func (.func 100) [] []),(15,sl am t15),(16,.int .i64 t16),(17,.int .i64 t17)] [] []
def jT(o:Unit⊕(Unit)):Exit:=match o with
 |(.inl _)=>.ret
 |(.inr _)=>.exit 0
def fX(o:Unit⊕(Unit)):ax:=match o with
 |(.inl o)=>bT 32 [(6,.bool false)] [] []
 |(.inr o)=>bT 32 [] [] []
instance iS_slices_EqualFunc_2_L1:KS 0 (ek s2 t15 t16 t17):=ks 0 rfl
instance iO_slices_EqualFunc_2_L1{o:Unit⊕(Unit)}:KS 0 (fX o):=match o with
 |(.inl o)=>ks 0 rfl
 |(.inr o)=>ks 0 rfl
def cz:Option (Int⊕(Unit⊕(Unit))):=
 if decide (t17<t16)=true then
  (ed t15 t17).bind λx3=>
  (ed s2 t17).bind λx4=>
  (vj x3 x4).bind λr5=>
  if(!r5)=true then
   some (.inr (.inl ()))
  else
   some (.inl (cc (t17+1)))
 else
  some (.inr (.inr ()))
def hZ:Option (Unit⊕(Unit)):=loop (λ(zz:Int)=>cz s2 t15 t16 zz) t17
theorem oF:OL 0 (cA Qy 119) (cz s2 t15 t16 t17) (λ(zz:Int)=>ek s2 t15 t16 zz) jT fX (ek s2 t15 t16 t17):=RN.lx<|
 tF (tb λx3 bx3=>tb λx4 bx4=>tb λr5 br5=>tv (lV.ia (k:=.i64) bx3)<|tv (lS x3)<|tx SC<|tx (F9 x3)<|tv (lV.ia (k:=.i64) bx4)<|tv (lS x4)<|tx SC<|tx (F9 x4)<|tv (FO x3 [])<|tv (FO x4 [])<|bz (yK _ br5)<|tF tE<|tE)<|tE
theorem jt:OK 0 (.loop (cA Qy 119)) (hZ s2 t15 t16 t17) jT fX (ek s2 t15 t16 t17):=yA λ_=>oF _ _ _ _
end
def gD(s1:waG)(s2:waG):Option Bool:=
 if((s1.length:Int)!=(s2.length:Int))=true then
  some false
 else
  (hZ s2 s1 (s1.length:Int) 0).bind λo7=>match o7 with
  |(.inl o7)=>
   some false
  |(.inr o7)=>
   some true
theorem sN{s1:waG}{s2:waG}:OV 101 [sl am s1,sl am s2,.func (.func 100) [] []] (gD s1 s2) (λr=>.bool r) []:=RN.v<|
 cO (lV.ln s1)<|cO (lV.ln s2)<|tF tE<|cO (lV.ln s1)<|t2 (λo7 bo7=>dZ (jt s2 s1 (s1.length:Int) 0 _ bo7)<|tE) λo7 bo7=>dZ (jt s2 s1 (s1.length:Int) 0 _ bo7)<|tE
noncomputable def Wb:Code:=f74.body.getD .skip
theorem VU:ZF Pg [] 74 f74 Wb:=zf call74 func74 rfl mixed
def fq(R46:bU)(a:ae)(a2:ae):Option Bool:=
 if (a.Op == a2.Op) = true then
  if (a.Name == a2.Name) = true then
   (iT a.Names a2.Names).bind λr5=>
   if r5=true then
    (vj a.Pred a2.Pred).bind λr8=>
    if r8=true then
     (gD a.Preds a2.Preds).bind λr11=>
     if r11=true then
      (R46 a.Args a2.Args).bind λr14=>
      some r14
     else
      some false
    else
     some false
   else
    some false
  else
   some false
 else
  some false
theorem oe(R46:bU)(hR46:dp R46){a:ae}{a2:ae}:OV 74 [.agg (af a),.agg (af a2)] (fq R46 a a2) (λr=>.bool r) []:=VU.v<|
 te (iy a)<|te (iy a2)<|have pp2:=λ{X Y Z} (r:PV _ X Y Z)=>tw (cm a)<|tw (cm a2)<|r;tf (λc1=>have pp4:=λ{X Y Z} (r:PV _ X Y Z)=>pp2<|tg 6 c1<|tw (cb a)<|tw (cb a2)<|r;tf (λc3=>tb λr5 br5=>have pp7:=λ{X Y Z} (r:PV _ X Y Z)=>pp4<|tg 13 c3<|tw (eU a)<|tw (eU a2)<|bz (mn _ br5)<|r;tf (λc6=>tb λr8 br8=>have pp10:=λ{X Y Z} (r:PV _ X Y Z)=>pp7<|tg 20 c6<|tw (eW a)<|tw (eW a2)<|bz (yK _ br8)<|r;tf (λc9=>tb λr11 br11=>have pp13:=λ{X Y Z} (r:PV _ X Y Z)=>pp10<|tg 27 c9<|tw (cE a)<|tw (cE a2)<|bz (sN _ br11)<|r;tf (λc12=>tb λr14 br14=>pp13<|tg 34 c12<|tw (aY a)<|tw (aY a2)<|bz (hR46 _ _ _ br14)<|tE) λc12=>pp13<|tg 34 c12<|tE) λc9=>pp10<|tg 27 c9<|tE) λc6=>pp7<|tg 20 c6<|tE) λc3=>pp4<|tg 13 c3<|tE) λc1=>pp2<|tg 6 c1<|tE
noncomputable def TX:Code:=f73.body.getD .skip
theorem U8:ZF Pg [19] 73 f73 TX:=zf call73 func73 rfl mixed
section
variable(R46:bU)(s2:waC)(t15:waC)(t16:Int)(t17:Int)
def cU:ax:=bT 32 [(1,sl af s2),(2,.func (.func 74) [] []),(15,sl af t15),(16,.int .i64 t16),(17,.int .i64 t17)] [] []
def f0(o:Unit⊕(Unit)):Exit:=match o with
 |(.inl _)=>.ret
 |(.inr _)=>.exit 0
def dY(o:Unit⊕(Unit)):ax:=match o with
 |(.inl o)=>bT 32 [(6,.bool false)] [] []
 |(.inr o)=>bT 32 [] [] []
instance iS_slices_EqualFunc_sameType_L1:KS 0 (cU s2 t15 t16 t17):=ks 0 rfl
instance iO_slices_EqualFunc_sameType_L1{o:Unit⊕(Unit)}:KS 0 (dY o):=match o with
 |(.inl o)=>ks 0 rfl
 |(.inr o)=>ks 0 rfl
def bJ:Option (Int⊕(Unit⊕(Unit))):=
 if decide (t17<t16)=true then
  (ed t15 t17).bind λx3=>
  (ed s2 t17).bind λx4=>
  (fq R46 x3 x4).bind λr5=>
  if(!r5)=true then
   some (.inr (.inl ()))
  else
   some (.inl (cc (t17+1)))
 else
  some (.inr (.inr ()))
def eC:Option (Unit⊕(Unit)):=loop (λ(zz:Int)=>bJ R46 s2 t15 t16 zz) t17
theorem kz(hR46:dp R46):OL 0 (cA TX 119) (bJ R46 s2 t15 t16 t17) (λ(zz:Int)=>cU s2 t15 t16 zz) f0 dY (cU s2 t15 t16 t17):=U8.lx<|
 tF (tb λx3 bx3=>tb λx4 bx4=>tb λr5 br5=>tv (fK.ia (k:=.i64) bx3)<|tv (eI x3)<|tx Aa<|tx (iO x3)<|tv (fK.ia (k:=.i64) bx4)<|tv (eI x4)<|tx Aa<|tx (iO x4)<|tv (fR x3 [])<|tv (fR x4 [])<|bz (oe R46 hR46 _ br5)<|tF tE<|tE)<|tE
theorem fJ(hR46:dp R46):OK 0 (.loop (cA TX 119)) (eC R46 s2 t15 t16 t17) f0 dY (cU s2 t15 t16 t17):=yA λ_=>kz _ _ _ _ _ hR46
end
def dq(R46:bU)(s1:waC)(s2:waC):Option Bool:=
 if((s1.length:Int)!=(s2.length:Int))=true then
  some false
 else
  (eC R46 s2 s1 (s1.length:Int) 0).bind λo7=>match o7 with
  |(.inl o7)=>
   some false
  |(.inr o7)=>
   some true
theorem lW(R46:bU)(hR46:dp R46){s1:waC}{s2:waC}:OV 73 [sl af s1,sl af s2,.func (.func 74) [] []] (dq R46 s1 s2) (λr=>.bool r) []:=U8.v<|
 cO (fK.ln s1)<|cO (fK.ln s2)<|tF tE<|cO (fK.ln s1)<|t2 (λo7 bo7=>dZ (fJ R46 s2 s1 (s1.length:Int) 0 hR46 _ bo7)<|tE) λo7 bo7=>dZ (fJ R46 s2 s1 (s1.length:Int) 0 hR46 _ bo7)<|tE
def eL:((waC×waC)->Option Bool)->(waC×waC)->Option Bool:=λ(rec:(waC×waC)->Option Bool) (x:waC×waC)=>dq (λs1 s2=>rec (s1,s2)) x.1 x.2
def ch(s1:waC)(s2:waC):Option Bool:=kM eL (s1,s2)
theorem gK{s1:waC}{s2:waC}:OV 73 [sl af s1,sl af s2,.func (.func 74) [] []] (ch s1 s2) (λr=>.bool r) []:=lY λ_ h=>
 cd (F:=eL) (M:=λ(x:waC×waC) (r:Bool)=>CC Pg GE 73 [sl af x.1,sl af x.2,.func (.func 74) [] []] (.bool r) []) (λrec hrec x r h=>lW _ (λs1 s2=>lY λr h=>hrec (s1,s2) r h) _ h) h
noncomputable def Wc:Code:=f76.body.getD .skip
theorem VV:ZF Pg [] 76 f76 Wc:=zf call76 func76 rfl mixed
def lA(a:bO)(a2:bO):Option Bool:=
 if(a.Name==a2.Name)=true then
  (fq ch a.Type_ a2.Type_).bind λr3=>
  some r3
 else
  some false
theorem Ae{a:bO}{a2:bO}:OV 76 [.agg (aG a),.agg (aG a2)] (lA a a2) (λr=>.bool r) []:=VV.v<|
 te (FX a)<|te (FX a2)<|have pp2:=λ{X Y Z} (r:PV _ X Y Z)=>tw (df a)<|tw (df a2)<|r;tf (λc1=>tb λr3 br3=>pp2<|tg 6 c1<|tw (eH a)<|tw (eH a2)<|bz (oe ch (λ_ _=>gK) _ br3)<|tE) λc1=>pp2<|tg 6 c1<|tE
noncomputable def TY:Code:=f75.body.getD .skip
theorem U9:ZF Pg [19] 75 f75 TY:=zf call75 func75 rfl mixed
section
variable(s2:waI)(t15:waI)(t16:Int)(t17:Int)
def cZ:ax:=bT 32 [(1,sl aG s2),(2,.func (.func 76) [] []),(15,sl aG t15),(16,.int .i64 t16),(17,.int .i64 t17)] [] []
def gI(o:Unit⊕(Unit)):Exit:=match o with
 |(.inl _)=>.ret
 |(.inr _)=>.exit 0
def eA(o:Unit⊕(Unit)):ax:=match o with
 |(.inl o)=>bT 32 [(6,.bool false)] [] []
 |(.inr o)=>bT 32 [] [] []
instance iS_slices_EqualFunc_Same_1_L1:KS 0 (cZ s2 t15 t16 t17):=ks 0 rfl
instance iO_slices_EqualFunc_Same_1_L1{o:Unit⊕(Unit)}:KS 0 (eA o):=match o with
 |(.inl o)=>ks 0 rfl
 |(.inr o)=>ks 0 rfl
def bQ:Option (Int⊕(Unit⊕(Unit))):=
 if decide (t17<t16)=true then
  (ed t15 t17).bind λx3=>
  (ed s2 t17).bind λx4=>
  (lA x3 x4).bind λr5=>
  if(!r5)=true then
   some (.inr (.inl ()))
  else
   some (.inl (cc (t17+1)))
 else
  some (.inr (.inr ()))
def fa:Option (Unit⊕(Unit)):=loop (λ(zz:Int)=>bQ s2 t15 t16 zz) t17
theorem kT:OL 0 (cA TY 119) (bQ s2 t15 t16 t17) (λ(zz:Int)=>cZ s2 t15 t16 zz) gI eA (cZ s2 t15 t16 t17):=U9.lx<|
 tF (tb λx3 bx3=>tb λx4 bx4=>tb λr5 br5=>tv (uq.ia (k:=.i64) bx3)<|tv (FK x3)<|tx SF<|tx (Do x3)<|tv (uq.ia (k:=.i64) bx4)<|tv (FK x4)<|tx SF<|tx (Do x4)<|tv (C7 x3 [])<|tv (C7 x4 [])<|bz (Ae _ br5)<|tF tE<|tE)<|tE
theorem gh:OK 0 (.loop (cA TY 119)) (fa s2 t15 t16 t17) gI eA (cZ s2 t15 t16 t17):=yA λ_=>kT _ _ _ _
end
def er(s1:waI)(s2:waI):Option Bool:=
 if((s1.length:Int)!=(s2.length:Int))=true then
  some false
 else
  (fa s2 s1 (s1.length:Int) 0).bind λo7=>match o7 with
  |(.inl o7)=>
   some false
  |(.inr o7)=>
   some true
theorem n9{s1:waI}{s2:waI}:OV 75 [sl aG s1,sl aG s2,.func (.func 76) [] []] (er s1 s2) (λr=>.bool r) []:=U9.v<|
 cO (uq.ln s1)<|cO (uq.ln s2)<|tF tE<|cO (uq.ln s1)<|t2 (λo7 bo7=>dZ (gh s2 s1 (s1.length:Int) 0 _ bo7)<|tE) λo7 bo7=>dZ (gh s2 s1 (s1.length:Int) 0 _ bo7)<|tE
noncomputable def Wd:Code:=f78.body.getD .skip
theorem VW:ZF Pg [] 78 f78 Wd:=zf call78 func78 rfl mixed
def lB(R45:eM)(a:dE)(a2:dE):Option Bool:=
 if(a.Con==a2.Con)=true then
  (iT a.Names a2.Names).bind λr3=>
  if r3=true then
   (R45 a.Body a2.Body).bind λr6=>
   some r6
  else
   some false
 else
  some false
theorem Af(R45:eM)(hR45:jh R45){a:dE}{a2:dE}:OV 78 [.agg (bk a),.agg (bk a2)] (lB R45 a a2) (λr=>.bool r) []:=VW.v<|
 te (Lk a)<|te (Lk a2)<|have pp2:=λ{X Y Z} (r:PV _ X Y Z)=>tw (kN a)<|tw (kN a2)<|r;tf (λc1=>tb λr3 br3=>have pp5:=λ{X Y Z} (r:PV _ X Y Z)=>pp2<|tg 6 c1<|tw (kh a)<|tw (kh a2)<|bz (mn _ br3)<|r;tf (λc4=>tb λr6 br6=>pp5<|tg 13 c4<|tw (ki a)<|tw (ki a2)<|bz (hR45 _ _ _ br6)<|tE) λc4=>pp5<|tg 13 c4<|tE) λc1=>pp2<|tg 6 c1<|tE
noncomputable def TZ:Code:=f77.body.getD .skip
theorem Va:ZF Pg [19] 77 f77 TZ:=zf call77 func77 rfl mixed
section
variable(R45:eM)(s2:waJ)(t15:waJ)(t16:Int)(t17:Int)
def da:ax:=bT 32 [(1,sl bk s2),(2,.func (.func 78) [] []),(15,sl bk t15),(16,.int .i64 t16),(17,.int .i64 t17)] [] []
def gJ(o:Unit⊕(Unit)):Exit:=match o with
 |(.inl _)=>.ret
 |(.inr _)=>.exit 0
def eB(o:Unit⊕(Unit)):ax:=match o with
 |(.inl o)=>bT 32 [(6,.bool false)] [] []
 |(.inr o)=>bT 32 [] [] []
instance iS_slices_EqualFunc_Same_2_L1:KS 0 (da s2 t15 t16 t17):=ks 0 rfl
instance iO_slices_EqualFunc_Same_2_L1{o:Unit⊕(Unit)}:KS 0 (eB o):=match o with
 |(.inl o)=>ks 0 rfl
 |(.inr o)=>ks 0 rfl
def bR:Option (Int⊕(Unit⊕(Unit))):=
 if decide (t17<t16)=true then
  (ed t15 t17).bind λx3=>
  (ed s2 t17).bind λx4=>
  (lB R45 x3 x4).bind λr5=>
  if(!r5)=true then
   some (.inr (.inl ()))
  else
   some (.inl (cc (t17+1)))
 else
  some (.inr (.inr ()))
def fb:Option (Unit⊕(Unit)):=loop (λ(zz:Int)=>bR R45 s2 t15 t16 zz) t17
theorem kU(hR45:jh R45):OL 0 (cA TZ 119) (bR R45 s2 t15 t16 t17) (λ(zz:Int)=>da s2 t15 t16 zz) gJ eB (da s2 t15 t16 t17):=Va.lx<|
 tF (tb λx3 bx3=>tb λx4 bx4=>tb λr5 br5=>tv (yO.ia (k:=.i64) bx3)<|tv (BM x3)<|tx SG<|tx (yF x3)<|tv (yO.ia (k:=.i64) bx4)<|tv (BM x4)<|tx SG<|tx (yF x4)<|tv (ID x3 [])<|tv (ID x4 [])<|bz (Af R45 hR45 _ br5)<|tF tE<|tE)<|tE
theorem gi(hR45:jh R45):OK 0 (.loop (cA TZ 119)) (fb R45 s2 t15 t16 t17) gJ eB (da s2 t15 t16 t17):=yA λ_=>kU _ _ _ _ _ hR45
end
def eu(R45:eM)(s1:waJ)(s2:waJ):Option Bool:=
 if((s1.length:Int)!=(s2.length:Int))=true then
  some false
 else
  (fb R45 s2 s1 (s1.length:Int) 0).bind λo7=>match o7 with
  |(.inl o7)=>
   some false
  |(.inr o7)=>
   some true
theorem oc(R45:eM)(hR45:jh R45){s1:waJ}{s2:waJ}:OV 77 [sl bk s1,sl bk s2,.func (.func 78) [] []] (eu R45 s1 s2) (λr=>.bool r) []:=Va.v<|
 cO (yO.ln s1)<|cO (yO.ln s2)<|tF tE<|cO (yO.ln s1)<|t2 (λo7 bo7=>dZ (gi R45 s2 s1 (s1.length:Int) 0 hR45 _ bo7)<|tE) λo7 bo7=>dZ (gi R45 s2 s1 (s1.length:Int) 0 hR45 _ bo7)<|tE
noncomputable def V4:Code:=f51.body.getD .skip
theorem VP:ZF Pg [] 51 f51 V4:=zf call51 func51 rfl mixed
def lC (R44:bC) (R45:eM) (a:aj) (a2:aj):Option Bool :=
 if (a.Op == a2.Op) = true then
  if (a.Name == a2.Name) = true then
   if (a.N == a2.N) = true then
    (R44 a.Kids a2.Kids).bind λr7=>
    if r7=true then
     (ch a.Types a2.Types).bind λr10=>
     if r10=true then
      (er a.Params a2.Params).bind λr13=>
      if r13=true then
       (eu R45 a.Alts a2.Alts).bind λr16=>
       some r16
      else
       some false
     else
      some false
    else
     some false
   else
    some false
  else
   some false
 else
  some false
theorem Bx(R44:bC)(hR44:di R44)(R45:eM)(hR45:jh R45){a:aj}{a2:aj}:OV 51 [.agg (ak a),.agg (ak a2)] (lC R44 R45 a a2) (λr=>.bool r) []:=VP.v<|
 te (ub a)<|te (ub a2)<|have pp2:=λ{X Y Z} (r:PV _ X Y Z)=>tw (gw a)<|tw (gw a2)<|r;tf (λc1=>have pp4:=λ{X Y Z} (r:PV _ X Y Z)=>pp2<|tg 6 c1<|tw (fw a)<|tw (fw a2)<|r;tf (λc3=>have pp6:=λ{X Y Z} (r:PV _ X Y Z)=>pp4<|tg 13 c3<|tw (ii a)<|tw (ii a2)<|r;tf (λc5=>tb λr7 br7=>have pp9:=λ{X Y Z} (r:PV _ X Y Z)=>pp6<|tg 20 c5<|tw (ck a)<|tw (ck a2)<|bz (hR44 _ _ _ br7)<|r;tf (λc8=>tb λr10 br10=>have pp12:=λ{X Y Z} (r:PV _ X Y Z)=>pp9<|tg 27 c8<|tw (eT a)<|tw (eT a2)<|bz (gK _ br10)<|r;tf (λc11=>tb λr13 br13=>have pp15:=λ{X Y Z} (r:PV _ X Y Z)=>pp12<|tg 34 c11<|tw (de a)<|tw (de a2)<|bz (n9 _ br13)<|r;tf (λc14=>tb λr16 br16=>pp15<|tg 41 c14<|tw (bL a)<|tw (bL a2)<|bz (oc R45 hR45 _ br16)<|tE) λc14=>pp15<|tg 41 c14<|tE) λc11=>pp12<|tg 34 c11<|tE) λc8=>pp9<|tg 27 c8<|tE) λc5=>pp6<|tg 20 c5<|tE) λc3=>pp4<|tg 13 c3<|tE) λc1=>pp2<|tg 6 c1<|tE
def p8(R44:bC):((aj×aj)->Option Bool)->(aj×aj)->Option Bool:=λ(rec:(aj×aj)->Option Bool) (x:aj×aj)=>lC R44 (λa a2=>rec (a,a2)) x.1 x.2
def uy(R44:bC)(a:aj)(a2:aj):Option Bool:=kM (p8 R44) (a,a2)
theorem DP(R44:bC)(hR44:di R44){a:aj}{a2:aj}:OV 51 [.agg (ak a),.agg (ak a2)] (uy R44 a a2) (λr=>.bool r) []:=lY λ_ h=>
 cd (F:=p8 R44) (M:=λ(x:aj×aj) (r:Bool)=>CC Pg GE 51 [.agg (ak x.1),.agg (ak x.2)] (.bool r) []) (λrec hrec x r h=>Bx R44 hR44 _ (λa a2=>lY λr h=>hrec (a,a2) r h) _ h) h
noncomputable def TS:Code:=f50.body.getD .skip
theorem U0:ZF Pg [19] 50 f50 TS:=zf call50 func50 rfl mixed
section
variable(R44:bC)(s2:waF)(t15:waF)(t16:Int)(t17:Int)
def dD:ax:=bT 32 [(1,sl ak s2),(2,.func (.func 51) [] []),(15,sl ak t15),(16,.int .i64 t16),(17,.int .i64 t17)] [] []
def iC(o:Unit⊕(Unit)):Exit:=match o with
 |(.inl _)=>.ret
 |(.inr _)=>.exit 0
def fc(o:Unit⊕(Unit)):ax:=match o with
 |(.inl o)=>bT 32 [(6,.bool false)] [] []
 |(.inr o)=>bT 32 [] [] []
instance iS_slices_EqualFunc_Same_L1:KS 0 (dD s2 t15 t16 t17):=ks 0 rfl
instance iO_slices_EqualFunc_Same_L1{o:Unit⊕(Unit)}:KS 0 (fc o):=match o with
 |(.inl o)=>ks 0 rfl
 |(.inr o)=>ks 0 rfl
def ca:Option (Int⊕(Unit⊕(Unit))):=
 if decide (t17<t16)=true then
  (ed t15 t17).bind λx3=>
  (ed s2 t17).bind λx4=>
  (uy R44 x3 x4).bind λr5=>
  if(!r5)=true then
   some (.inr (.inl ()))
  else
   some (.inl (cc (t17+1)))
 else
  some (.inr (.inr ()))
def fH:Option (Unit⊕(Unit)):=loop (λ(zz:Int)=>ca R44 s2 t15 t16 zz) t17
theorem ml(hR44:di R44):OL 0 (cA TS 119) (ca R44 s2 t15 t16 t17) (λ(zz:Int)=>dD s2 t15 t16 zz) iC fc (dD s2 t15 t16 t17):=U0.lx<|
 tF (tb λx3 bx3=>tb λx4 bx4=>tb λr5 br5=>tv (oC.ia (k:=.i64) bx3)<|tv (lR x3)<|tx SD<|tx (F8 x3)<|tv (oC.ia (k:=.i64) bx4)<|tv (lR x4)<|tx SD<|tx (F8 x4)<|tv (uV x3 [])<|tv (uV x4 [])<|bz (DP R44 hR44 _ br5)<|tF tE<|tE)<|tE
theorem im(hR44:di R44):OK 0 (.loop (cA TS 119)) (fH R44 s2 t15 t16 t17) iC fc (dD s2 t15 t16 t17):=yA λ_=>ml _ _ _ _ _ hR44
end
def ey(R44:bC)(s1:waF)(s2:waF):Option Bool:=
 if((s1.length:Int)!=(s2.length:Int))=true then
  some false
 else
  (fH R44 s2 s1 (s1.length:Int) 0).bind λo7=>match o7 with
  |(.inl o7)=>
   some false
  |(.inr o7)=>
   some true
theorem oI(R44:bC)(hR44:di R44){s1:waF}{s2:waF}:OV 50 [sl ak s1,sl ak s2,.func (.func 51) [] []] (ey R44 s1 s2) (λr=>.bool r) []:=U0.v<|
 cO (oC.ln s1)<|cO (oC.ln s2)<|tF tE<|cO (oC.ln s1)<|t2 (λo7 bo7=>dZ (im R44 s2 s1 (s1.length:Int) 0 hR44 _ bo7)<|tE) λo7 bo7=>dZ (im R44 s2 s1 (s1.length:Int) 0 hR44 _ bo7)<|tE
def fZ:((waF×waF)->Option Bool)->(waF×waF)->Option Bool:=λ(rec:(waF×waF)->Option Bool) (x:waF×waF)=>ey (λs1 s2=>rec (s1,s2)) x.1 x.2
def ie(s1:waF)(s2:waF):Option Bool:=kM fZ (s1,s2)
theorem p7{s1:waF}{s2:waF}:OV 50 [sl ak s1,sl ak s2,.func (.func 51) [] []] (ie s1 s2) (λr=>.bool r) []:=lY λ_ h=>
 cd (F:=fZ) (M:=λ(x:waF×waF) (r:Bool)=>CC Pg GE 50 [sl ak x.1,sl ak x.2,.func (.func 51) [] []] (.bool r) []) (λrec hrec x r h=>oI _ (λs1 s2=>lY λr h=>hrec (s1,s2) r h) _ h) h
noncomputable def V5:Code:=f53.body.getD .skip
theorem VQ:ZF Pg [] 53 f53 V5:=zf call53 func53 rfl mixed
def nc(R41:dv)(a:aA)(a2:aA):Option Bool:=
 if(a.Name==a2.Name)=true then
  (R41 a.Value a2.Value).bind λr3=>
  some r3
 else
  some false
theorem BB(R41:dv)(hR41:ft R41){a:aA}{a2:aA}:OV 53 [.agg (aL a),.agg (aL a2)] (nc R41 a a2) (λr=>.bool r) []:=VQ.v<|
 te (IR a)<|te (IR a2)<|have pp2:=λ{X Y Z} (r:PV _ X Y Z)=>tw (dc a)<|tw (dc a2)<|r;tf (λc1=>tb λr3 br3=>pp2<|tg 6 c1<|tw (eG a)<|tw (eG a2)<|bz (hR41 _ _ _ br3)<|tE) λc1=>pp2<|tg 6 c1<|tE
noncomputable def TT:Code:=f52.body.getD .skip
theorem U1:ZF Pg [19] 52 f52 TT:=zf call52 func52 rfl mixed
section
variable(R41:dv)(s2:waH)(t15:waH)(t16:Int)(t17:Int)
def eo:ax:=bT 32 [(1,sl aL s2),(2,.func (.func 53) [] []),(15,sl aL t15),(16,.int .i64 t16),(17,.int .i64 t17)] [] []
def jU(o:Unit⊕(Unit)):Exit:=match o with
 |(.inl _)=>.ret
 |(.inr _)=>.exit 0
def fY(o:Unit⊕(Unit)):ax:=match o with
 |(.inl o)=>bT 32 [(6,.bool false)] [] []
 |(.inr o)=>bT 32 [] [] []
instance iS_slices_EqualFunc_3_L1:KS 0 (eo s2 t15 t16 t17):=ks 0 rfl
instance iO_slices_EqualFunc_3_L1{o:Unit⊕(Unit)}:KS 0 (fY o):=match o with
 |(.inl o)=>ks 0 rfl
 |(.inr o)=>ks 0 rfl
def cB:Option (Int⊕(Unit⊕(Unit))):=
 if decide (t17<t16)=true then
  (ed t15 t17).bind λx3=>
  (ed s2 t17).bind λx4=>
  (nc R41 x3 x4).bind λr5=>
  if(!r5)=true then
   some (.inr (.inl ()))
  else
   some (.inl (cc (t17+1)))
 else
  some (.inr (.inr ()))
def ib:Option (Unit⊕(Unit)):=loop (λ(zz:Int)=>cB R41 s2 t15 t16 zz) t17
theorem oG(hR41:ft R41):OL 0 (cA TT 119) (cB R41 s2 t15 t16 t17) (λ(zz:Int)=>eo s2 t15 t16 zz) jU fY (eo s2 t15 t16 t17):=U1.lx<|
 tF (tb λx3 bx3=>tb λx4 bx4=>tb λr5 br5=>tv (sL.ia (k:=.i64) bx3)<|tv (IB x3)<|tx Ql<|tx (FY x3)<|tv (sL.ia (k:=.i64) bx4)<|tv (IB x4)<|tx Ql<|tx (FY x4)<|tv (FL x3 [])<|tv (FL x4 [])<|bz (BB R41 hR41 _ br5)<|tF tE<|tE)<|tE
theorem jv(hR41:ft R41):OK 0 (.loop (cA TT 119)) (ib R41 s2 t15 t16 t17) jU fY (eo s2 t15 t16 t17):=yA λ_=>oG _ _ _ _ _ hR41
end
def gE(R41:dv)(s1:waH)(s2:waH):Option Bool:=
 if((s1.length:Int)!=(s2.length:Int))=true then
  some false
 else
  (ib R41 s2 s1 (s1.length:Int) 0).bind λo7=>match o7 with
  |(.inl o7)=>
   some false
  |(.inr o7)=>
   some true
theorem sO(R41:dv)(hR41:ft R41){s1:waH}{s2:waH}:OV 52 [sl aL s1,sl aL s2,.func (.func 53) [] []] (gE R41 s1 s2) (λr=>.bool r) []:=U1.v<|
 cO (sL.ln s1)<|cO (sL.ln s2)<|tF tE<|cO (sL.ln s1)<|t2 (λo7 bo7=>dZ (jv R41 s2 s1 (s1.length:Int) 0 hR41 _ bo7)<|tE) λo7 bo7=>dZ (jv R41 s2 s1 (s1.length:Int) 0 hR41 _ bo7)<|tE
noncomputable def Vf:Code:=f18.body.getD .skip
theorem UR:ZF Pg [] 18 f18 Vf:=zf call18 func18 rfl mixed
section
variable(v:aa)(v2:aa)
def p9:Option Bool:=
 if(v.Op !=v2.Op)=true then
  some true
 else if(v.N !=v2.N)=true then
  some true
 else if(!(v.Name==v2.Name))=true then
  some true
 else
  some ((v.Body.length:Int)!=(v2.Body.length:Int))
theorem Ao:OU 0 (cA Vf 12) (p9 v v2) .normal (λo=>[(32,.bool o)]) (bT 59 [(2,.eptr (ac v)),(3,.eptr (ac v2))] [.dead,.dead] []):=UR.j<|
 have pp2:=λ{X Y Z} (r:PV _ X Y Z)=>tw (aH v)<|tw (aH v2)<|r;tf (λc1=>pp2<|tg 6 c1<|tE) λc1=>have pp4:=λ{X Y Z} (r:PV _ X Y Z)=>pp2<|tg 6 c1<|tw (az v)<|tw (az v2)<|r;tf (λc3=>pp4<|tg 13 c3<|tE) λc3=>have pp6:=λ{X Y Z} (r:PV _ X Y Z)=>pp4<|tg 13 c3<|tw (aM v)<|tw (aM v2)<|r;tf (λc5=>pp6<|tg 20 c5<|tE) λc5=>pp6<|tg 20 c5<|tw (bW v)<|cO (oC.ln v.Body)<|tw (bW v2)<|cO (oC.ln v2.Body)<|tE
end
def nf(R41:dv)(a:aa)(a2:aa):Option Bool:=
 (p9 a a2).bind λo7=>
 if o7=true then
  some false
 else
  (iU R41 a.Kids a2.Kids).bind λr9=>
  if r9=true then
   (iT a.Params a2.Params).bind λr12=>
   if r12=true then
    (ie a.Body a2.Body).bind λr15=>
    if r15=true then
     (gE R41 a.Binds a2.Binds).bind λr18=>
     some r18
    else
     some false
   else
    some false
  else
   some false
theorem DZ(R41:dv)(hR41:ft R41){a:aa}{a2:aa}:OV 18 [.agg (ac a),.agg (ac a2)] (nf R41 a a2) (λr=>.bool r) []:=UR.v<|
 tb λo7 bo7=>te (bV a)<|te (bV a2)<|xO 1<|dZ (Ao a a2 _ bo7)<|tF tE<|tb λr9 br9=>have pp11:=λ{X Y Z} (r:PV _ X Y Z)=>tw (av a)<|tw (av a2)<|bz (vJ R41 hR41 _ br9)<|r;tf (λc10=>tb λr12 br12=>have pp14:=λ{X Y Z} (r:PV _ X Y Z)=>pp11<|tg 6 c10<|tw (dK a)<|tw (dK a2)<|bz (mn _ br12)<|r;tf (λc13=>tb λr15 br15=>have pp17:=λ{X Y Z} (r:PV _ X Y Z)=>pp14<|tg 13 c13<|tw (bW a)<|tw (bW a2)<|bz (p7 _ br15)<|r;tf (λc16=>tb λr18 br18=>pp17<|tg 20 c16<|tw (cr a)<|tw (cr a2)<|bz (sO R41 hR41 _ br18)<|tE) λc16=>pp17<|tg 20 c16<|tE) λc13=>pp14<|tg 13 c13<|tE) λc10=>pp11<|tg 6 c10<|tE
def rK:((aa×aa)->Option Bool)->(aa×aa)->Option Bool:=λ(rec:(aa×aa)->Option Bool) (x:aa×aa)=>nf (λa a2=>rec (a,a2)) x.1 x.2
def om(a:aa)(a2:aa):Option Bool:=kM rK (a,a2)
theorem bD{a:aa}{a2:aa}:OV 18 [.agg (ac a),.agg (ac a2)] (om a a2) (λr=>.bool r) []:=lY λ_ h=>
 cd (F:=rK) (M:=λ(x:aa×aa) (r:Bool)=>CC Pg GE 18 [.agg (ac x.1),.agg (ac x.2)] (.bool r) []) (λrec hrec x r h=>DZ _ (λa a2=>lY λr h=>hrec (a,a2) r h) _ h) h
noncomputable def VZ:Code:=f16.body.getD .skip
theorem VL:ZF Pg [] 16 f16 VZ:=zf call16 func16 rfl mixed
def DY(m:aB)(v:aa)(t:ae):Option Bool:=
 (xG m v).bind λr1=>
 if r1.2=true then
  (xz r1.1 t).bind λr3=>
  some r3
 else
  some false
theorem Fb{m:aB}{v:aa}{t:ae}:OV 16 [.agg (aX m),.agg (ac v),.agg (af t)] (DY m v t) (λr=>.bool r) []:=VL.v<|
 tb λr1 br1=>te (iw m)<|te (bV v)<|te (iy t)<|tv (gA m)<|tv (al v)<|bz (wE _ br1)<|tx Aa<|tx (iO r1.1)<|tf (λc2=>tb λr3 br3=>tg 2 c2<|tv (fR r1.1 [])<|tv (eI t)<|bz (wv _ br3)<|tE) λc2=>tg 2 c2<|tE
end Go.Proofs.YtjddnhkahpfhdaaGreatDoor
