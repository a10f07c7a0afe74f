/- PROVED: a part of the proof. Conditions: none. -/
import Derived.Test.YtibglelmlnfojaaGreatDoorpt21
set_option linter.unusedSimpArgs false
set_option linter.unusedVariables false
noncomputable section
namespace Go.Proofs.YtibglelmlnfojaaGreatDoor
open Go
set_option linter.unusedVariables false
set_option linter.unusedSimpArgs false
theorem qeg(l:List cP)(hl:l.length<=1073741824):sN l=some (l.map (·.Name)):=by
 unfold sN
 have h:=ej l.length (λzz:(List ae)×Int=>fo l (l.length:Int) zz.1 zz.2) (λi=>((l.take i).map (·.Name),(i:Int))) (l.map (·.Name)) (λi hi=>?_) ?_
 ·have h':qd l (l.length:Int) ([]:List ae) 0=some (l.map (·.Name)):=by unfold qd;simpa using h
  rw[h'];rfl
 ·show fo l (l.length:Int) _ (i:Int)=_
  unfold fo
  rw[vad (by simpa using hi),aT _ _ hi,vaa,qn (by simp;omega),vaa,cC (by omega) (by omega),vav hi,vaA]
  rfl
 ·show fo l (l.length:Int) _ (l.length:Int)=_
  unfold fo
  rw[vab (by simp),va1]
theorem Qw(l:List cK)(hl:l.length<=1073741824):kl l=some (l.map (·.Con)):=by
 unfold kl
 have h:=ej l.length (λzz:(List ae)×Int=>dC l (l.length:Int) zz.1 zz.2) (λi=>((l.take i).map (·.Con),(i:Int))) (l.map (·.Con)) (λi hi=>?_) ?_
 ·have h':hO l (l.length:Int) ([]:List ae) 0=some (l.map (·.Con)):=by unfold hO;simpa using h
  rw[h'];rfl
 ·show dC l (l.length:Int) _ (i:Int)=_
  unfold dC
  rw[vad (by simpa using hi),aT _ _ hi,vaa,qn (by simp;omega),vaa,cC (by omega) (by omega),vav hi,vaA]
  rfl
 ·show dC l (l.length:Int) _ (l.length:Int)=_
  unfold dC
  rw[vab (by simp),va1]
theorem TT(l:List ae)(hl:l.length<9223372036854775808):oB l=some (!decide l.Nodup):=by
 unfold oB
 rw[Xg l hl];rfl
def wP(l:List cK):List ae:=l.flatMap λa=>a.Con::a.Names
theorem KQ:∀(l:List cK),(wP l).length<=SZ l
 |[]=>by simp[wP,SZ]
 |a::l=>by
  have h1:=KQ l
  have h2:=YV a
  have h3:=Oe a.Body
  unfold wP at *
  rw[vbW,SZ,vam,vaG]
  omega
theorem YX(l:List cK)(i:Nat)(h:i<l.length):wP (l.take (i+1))=wP (l.take i)++([l[i].Con]++l[i].Names):=by
 unfold wP
 rw[vav h,vcV]
 simp
theorem qeY(l:List cK)(i:Nat):SZ (l.take i)<=SZ l:=by
 have:∀(l:List cK) (i:Nat),SZ (l.take i)<=SZ l:=by
  intro l
  induction l with
  |nil=>intro i;simp
  |cons x l ih=>
   intro i
   cases i with
   |zero=>simp[SZ]
   |succ i=>have:=ih i;simp only[List.take_succ_cons,SZ];omega
 exact this l i
theorem Pu(l:List cK)(v:List ae)(d:Bool)(h:v.length+SZ l<=1073741824):qe l (l.length:Int) v d 0=some (v++wP l,d||l.any λa=>!decide a.Names.Nodup):=by
 have hl:=Ra l
 have g:=ej l.length (λzz:(List ae)×Bool×Int=>fp l (l.length:Int) zz.1 zz.2.1 zz.2.2) (λi=>(v++wP (l.take i),d||(l.take i).any λa=>!decide a.Names.Nodup,(i:Int))) (v++wP l,d||l.any λa=>!decide a.Names.Nodup) (λi hi=>?_) ?_
 ·unfold qe;simpa[wP]using g
 ·have h1:=KQ (l.take (i+1))
  have h2:=qeY l (i+1)
  have h3:=YX l i hi
  have h4:=vaW List.length h3
  simp only[vam,List.length_singleton]at h4
  show fp l (l.length:Int) _ _ (i:Int)=_
  unfold fp
  rw[vad (by simpa using hi),aT _ _ hi,vaa,qn (by simp only[vam,List.length_singleton];omega),vaa,qn (by simp only[vam,List.length_singleton];omega),vaa,h3,vav hi,vcO,TT _ (by omega),cC (by omega) (by omega)]
  by_cases hd:(d||(l.take i).any λa=>!decide a.Names.Nodup)=true
  ·rw[vad hd]
   rw[<-vcg,hd]
   simp[vbn]
  ·rw[vab hd]
   have hd':(d||(l.take i).any λa=>!decide a.Names.Nodup)=false:=by simpa using hd
   rw[<-vcg,hd']
   simp[vbn]
 ·show fp l (l.length:Int) _ _ (l.length:Int)=_
  unfold fp
  rw[vab (by simp),va1]
theorem UW(l:List ae)(hl:l.length<9223372036854775808):e9 l=some (l.any λs=>!bS s):=by
 unfold e9 jU g9
 rw[SX l hl (λi=>i) (λzz=>dV l (l.length:Int) zz) (λs=>!bS s) (λi=>.inl (i:Int)) (.inr ()) (λi h=>?_) ?_]
 ·cases hf:l.findIdx? (λs=>!bS s)with
  |none=>
   simp only[Option.elim,vaa]
   rw[vbw]at hf
   congr 1
   have:l.any (λs=>!bS s)=false:=by rw[vbh];exact λx hx=>by simpa using hf x hx
   rw[this];rfl
  |some j=>
   simp only[Option.elim,vaa]
   obtain⟨h1,h2,_⟩:=va9.1 hf
   congr 1
   have:l.any (λs=>!bS s)=true:=by rw[vcF];exact⟨_,vag h1,h2⟩
   rw[this,decide_eq_true_iff];omega
 ·unfold dV
  rw[vab (by simp)]
 ·unfold dV Am
  rw[vad (by simpa using h),aT _ _ h]
  simp only[vaa]
  rw[pC]
  simp only[vaa,rO]
  by_cases hc:bS l[i]=true<;>simp[hc]
def qee(e:ag)(nm:Bool):Bool:=(nm&&!bS e.Name)||(e.Params.any (λp=>!bS p.Name)||e.Alts.any λa=>!bS a.Con||a.Names.any λs=>!bS s)
def qew(e:ag):Bool:=!decide (e.Params.map (·.Name)).Nodup||(!decide (e.Alts.map (·.Con)).Nodup||e.Alts.any λa=>!decide a.Names.Nodup)
theorem qe1(e:ag)(he:UB e)(sh:aA):yM e sh=some (if qee e sh.name=true then 3 else if qew e=true then 4 else 0):=by
 have hB:nE e<=1073741824:=tI he
 have hn:=HQ e
 have l2:=n9 e
 have l3:=kT e
 have hA:=KQ e.Alts
 have hany:∀v:List ae,((v++wP e.Alts).any λs=>!bS s)=(v.any (λs=>!bS s)||e.Alts.any λa=>!bS a.Con||a.Names.any λs=>!bS s):=λv=>by
  rw[vcO]
  congr 1
  unfold wP
  rw[List.any_flatMap]
  rfl
 unfold yM xi xj
 rw[qeg _ (by omega),vaa,Qw _ (by omega),vaa,TT _ (by simp;omega)]
 simp only[vaa]
 rw[TT _ (by simp;omega)]
 simp only[vaa,qie]
 unfold qee qew
 cases sh.name with
 |true=>
  rw[vad rfl,qn (by simp;omega)]
  simp only[vaa]
  rw[Pu _ _ _ (by simp;omega)]
  simp only[vaa]
  rw[UW _ (by simp;omega)]
  simp only[vaa,hany,vbl]
  have e1:((e.Params.map (·.Name)++[e.Name]).any λs=>!bS s)=(e.Params.any (λp=>!bS p.Name)||!bS e.Name):=by simp[vcO,List.any_map,Function.comp_def]
  rw[e1]
  generalize (e.Params.any λp=>!bS p.Name)=b1
  generalize (!bS e.Name)=b2
  generalize (e.Alts.any λa=>!bS a.Con||a.Names.any λs=>!bS s)=b3
  generalize (!decide (e.Params.map (·.Name)).Nodup)=d1
  generalize (!decide (e.Alts.map (·.Con)).Nodup)=d2
  generalize (e.Alts.any λa=>!decide a.Names.Nodup)=d3
  cases b1<;>cases b2<;>cases b3<;>cases d1<;>cases d2<;>cases d3<;>rfl
 |false=>
  rw[vab (by simp)]
  simp only[vaa]
  rw[Pu _ _ _ (by simp;omega)]
  simp only[vaa]
  rw[UW _ (by simp;omega)]
  simp only[vaa,hany,vb7,vbV]
  have e1:((e.Params.map (·.Name)).any λs=>!bS s)=(e.Params.any (λp=>!bS p.Name)):=by simp[List.any_map,Function.comp_def]
  rw[e1]
  generalize (e.Params.any λp=>!bS p.Name)=b1
  generalize (e.Alts.any λa=>!bS a.Con||a.Names.any λs=>!bS s)=b3
  generalize (!decide (e.Params.map (·.Name)).Nodup)=d1
  generalize (!decide (e.Alts.map (·.Con)).Nodup)=d2
  generalize (e.Alts.any λa=>!decide a.Names.Nodup)=d3
  cases b1<;>cases b3<;>cases d1<;>cases d2<;>cases d3<;>rfl
theorem qaE(e:ag)(he:UB e)(u:aj):Ir e u=some (!qee e u.name):=by
 have hB:nE e<=1073741824:=tI he
 have l2:=n9 e
 have l3:=kT e
 have h1:yc e 0=some (if(e.Params.any λp=>!bS p.Name)=true then .inl ()else .inr ()):=by
  unfold yc
  refine nu e.Params (by omega) (λzz=>mZ e zz) (λp=>!bS p.Name) (.inl ()) (.inr ()) (λi h=>?_) ?_ 0 (va0 _)
  ·unfold mZ
   rw[vad (by simpa using h),aT _ _ h]
   simp only[vaa]
   rw[mU]
   simp only[vaa,rO]
   by_cases hc:bS e.Params[i].Name=true<;>simp[hc]
  ·unfold mZ
   rw[vab (by simp)]
 have h2:yd e 0=some (if(e.Alts.any λa=>!bS a.Con||a.Names.any λs=>!bS s)=true then .inl ()else .inr ()):=by
  unfold yd
  refine nu e.Alts (by omega) (λzz=>na e zz) (λa=>!bS a.Con||a.Names.any λs=>!bS s) (.inl ()) (.inr ()) (λi h=>?_) ?_ 0 (va0 _)
  ·have hm:=Iu (vag h)
   have h3:ye e (i:Int) 0=some (if(e.Alts[i].Names.any λs=>!bS s)=true then .inl ()else .inr ()):=by
    unfold ye
    refine nu e.Alts[i].Names (by omega) (λzz=>nc e (i:Int) zz) (λs=>!bS s) (.inl ()) (.inr ()) (λk hk=>?_) ?_ 0 (va0 _)
    ·unfold nc
     rw[aT _ _ h]
     simp only[vaa]
     rw[vad (by simpa using hk),aT _ _ hk]
     simp only[vaa]
     rw[mU]
     simp only[vaa,rO]
     by_cases hc:bS e.Alts[i].Names[k]=true<;>simp[hc]
    ·unfold nc
     rw[aT _ _ h]
     simp only[vaa]
     rw[vab (by simp)]
   unfold na
   rw[vad (by simpa using h),aT _ _ h]
   simp only[vaa]
   rw[mU,h3]
   simp only[vaa,rO]
   by_cases hc:bS e.Alts[i].Con=true
   ·by_cases hd:(e.Alts[i].Names.any λs=>!bS s)=true<;>simp[hc,hd]
   ·simp[hc]
  ·unfold na
   rw[vab (by simp)]
 unfold Ir Ed
 rw[h1,h2,mU]
 simp only[vaa,rO]
 unfold qee
 generalize (e.Params.any λp=>!bS p.Name)=b1
 generalize (e.Alts.any λa=>!bS a.Con||a.Names.any λs=>!bS s)=b3
 generalize bS e.Name=b2
 cases u.name<;>cases b1<;>cases b2<;>cases b3<;>rfl
theorem Xv(e:ag)(he:UB e):yb e=some (!qew e):=by
 have hB:nE e<=1073741824:=tI he
 have l2:=n9 e
 have l3:=kT e
 have h1:pV e ([]:List ae) 0=some (e.Params.map (·.Name)):=by
  have h:=ej e.Params.length (λzz:(List ae)×Int=>fg e zz.1 zz.2) (λi=>((e.Params.take i).map (·.Name),(i:Int))) (e.Params.map (·.Name)) (λi hi=>?_) ?_
  ·unfold pV;simpa using h
  ·show fg e _ (i:Int)=_
   unfold fg
   rw[vad (by simpa using hi),aT _ _ hi,vaa,qn (by simp;omega),vaa,cC (by omega) (by omega),vav hi,vaA]
   rfl
  ·show fg e _ (e.Params.length:Int)=_
   unfold fg
   rw[vab (by simp),va1]
 have h2:gN e ([]:List ae) 0=some (if(e.Alts.any λa=>!decide a.Names.Nodup)=true then .inl ()else .inr (e.Alts.map (·.Con))):=by
  have key:∀(k i:Nat),i+k=e.Alts.length->gN e ((e.Alts.take i).map (·.Con)) (i:Int)=some (if((e.Alts.drop i).any λa=>!decide a.Names.Nodup)=true then .inl ()else .inr (e.Alts.map (·.Con))):=by
   intro k
   induction k with
   | zero =>
    intro i hi
    have:i=e.Alts.length:=by omega
    subst this
    unfold gN
    rw[fx (x:=.inr (e.Alts.map (·.Con))) ?_]
    ·simp
    ·show gD e _ (e.Alts.length:Int)=_
     unfold gD
     rw[vab (by simp),va1]
   | succ k ih =>
    intro i hi
    have hlt:i<e.Alts.length:=by omega
    have hm:=Iu (vag hlt)
    have hb:gD e ((e.Alts.take i).map (·.Con)) (i:Int)=some (if e.Alts[i].Names.Nodup then .inl ((e.Alts.take (i+1)).map (·.Con),((i+1:Nat):Int))else .inr (.inl ())):=by
     unfold gD
     rw[vad (by simpa using hlt),aT _ _ hlt,vaa,qn (by simp;omega)]
     simp only[vaa]
     rw[E7 _ (by omega)]
     simp only[vaa]
     rw[cC (by omega) (by omega),vav hlt,vaA]
     by_cases hd:e.Alts[i].Names.Nodup<;>simp[hd]
    rw[vaH hlt,List.any_cons]
    by_cases hd:e.Alts[i].Names.Nodup
    ·rw[vad hd]at hb
     have h:=ih (i+1) (by omega)
     unfold gN at h ⊢
     rw[ol (s':=((e.Alts.take (i+1)).map (·.Con),((i+1:Nat):Int))) hb,h]
     simp[hd]
    ·rw[vab hd]at hb
     unfold gN
     rw[fx (x:=.inl ()) hb]
     simp[hd]
  have:=key e.Alts.length 0 (by omega)
  rw[vbi]at this
  exact this
 unfold yb
 rw[h1,h2]
 simp only[vaa]
 unfold qew
 by_cases hd:(e.Alts.any λa=>!decide a.Names.Nodup)=true
 ·simp[hd]
 ·have hd':(e.Alts.any λa=>!decide a.Names.Nodup)=false:=by simpa using hd
  rw[hd']
  simp only[vaq,if_false]
  rw[E7 _ (by simp;omega),E7 _ (by simp;omega)]
  simp only[vaa,qb4]
  generalize decide (e.Params.map (·.Name)).Nodup=d1
  generalize decide (e.Alts.map (·.Con)).Nodup=d2
  cases d1<;>cases d2<;>rfl
abbrev Nw:af:=⟨0,[],[],[],⟨0,[],0,[]⟩,[]⟩
theorem qe9:Y3 Nw:=⟨by simp[fh,BP,cW],(L1 _ _).2 ⟨qbo,(λq hq=>nomatch hq),vzz⟩⟩
theorem qhe(t:af)(h:Y3 t):Ca t=some (decide (t=Nw)):=by
 unfold Ca
 rw[qde _ _ h];rfl
theorem Wi(t:af)(h:Y3 t):G9 t=some (decide (t=Nw)):=by
 unfold G9
 rw[qdm _ _ h qe9];rfl
theorem qdy(e:ag):sT e.Types (e.Types.length:Int) 0=rA e 0:=by
 unfold sT rA
 congr 1
 funext zz
 unfold uB nd
 simp only[O2]
theorem qdz(e:ag)(he:UB e):sU e.Params (e.Params.length:Int) 0=rB e 0:=by
 have hB:nE e<=1073741824:=tI he
 have l3:=kT e
 unfold sU rB
 have hin:∀i:Nat,i<e.Params.length->∃r,kN e.Params (e.Params.length:Int) (i:Int)=some r/\gr e (i:Int)=some r/\∀t,r=.inl t->t=dt ((i:Int)+1):=λi hi=>by
  have ho:=Vp he (vag hi)
  obtain⟨c,hc,_⟩:=AU _ ho.1
  unfold kN gr yf An
  rw[vad (by simpa using hi),vad (by simpa using hi),aT _ _ hi]
  simp only[vaa,qcn,qco,O2]
  rw[hc,qhe _ ho,Wi _ ho]
  simp only[vaa]
  by_cases hz:e.Params[i].Type_=Nw
  ·by_cases h0:(c !=0)=true<;>simp[hz,h0]
  ·by_cases h0:(c !=0)=true<;>simp[hz,h0]
 refine qcF e.Params.length (by omega) (λi hi=>?_) ?_ (λt=>?_)
 ·obtain⟨r,h1,h2,h3⟩:=hin i hi
  exact⟨h1.trans h2.symm,λt ht=>h3 t (vbe (h2.symm.trans ht))⟩
 ·unfold kN gr
  rw[vab (by simp),vab (by simp)]
 ·unfold gr
  rw[vab (by simp)]
  simp
theorem qdA(e:ag)(he:UB e):jb (CY e) (λ_=>True):=by
 have hB:nE e<=1073741824:=tI he
 have l3:=kT e
 have l4:=uI e
 unfold CY
 refine aH (R:=λ_=>True) ?_ (λo _=>?_)
 ·unfold rA
  refine(Lr e.Types.length (by omega) (λ_=>True) (λ_=>True) (λi hi=>?_) ?_).mono (λ_ _=>trivial)
  ·unfold nd
   rw[vad (by simpa using hi),aT _ _ hi]
   simp only[vaa]
   refine aH (AU _ (qe7 he (vag hi)).1) (λc _=>aP (λ_=>am vzz) (λ_=>am ⟨rfl,vzz⟩))
  ·unfold nd
   rw[vab (by simp)]
 ·cases o with
  |inl o=>exact am vzz
  | inr o =>
   refine aH (R:=λ_=>True) ?_ (λo _=>by cases o<;>exact am vzz)
   unfold rB
   refine(Lr e.Params.length (by omega) (λ_=>True) (λ_=>True) (λi hi=>?_) ?_).mono (λ_ _=>trivial)
   ·have ho:=Vp he (vag hi)
    obtain⟨c,hc,_⟩:=AU _ ho.1
    unfold gr yf
    rw[vad (by simpa using hi),aT _ _ hi]
    simp only[vaa]
    rw[hc,Wi _ ho]
    simp only[vaa]
    by_cases hz:e.Params[i].Type_=Nw
    ·simp only[hz,decide_true,if_true,vaa];exact am ⟨rfl,vzz⟩
    ·simp only[hz,decide_false,vaq,if_false]
     by_cases h0:(c !=0)=true
     ·simp only[h0,if_true,vaa];exact am vzz
     ·simp only[h0,if_false,vaa];exact am ⟨rfl,vzz⟩
   ·unfold gr
    rw[vab (by simp)]
theorem qhc(e:ag)(he:UB e):∃c,wz e=some c/\vW e=some c:=by
 have hB:nE e<=1073741824:=tI he
 obtain⟨sh,ok,u,hS⟩:=qdq e.Op
 obtain⟨c,hc,_⟩:=qdA e he
 have hJ3:∃b,sS e=some b/\vY e=some b:=by
  unfold sS vY Tb D1
  simp only[qb4,qie,qa0,vaa]
  exact⟨_,rfl,rfl⟩
 obtain⟨b3,h3,h3'⟩:=hJ3
 unfold wz vW
 rw[hS.p,hS.r]
 simp only[vaa]
 have hJ1:sQ e sh.n sh.name sh.most sh.params sh.alts sh.types=some ((!u.n&&(e.N !=0))||((!u.name&&!(e.Name==([]:ae)))||((u.most==0&&decide ((e.Kids.length:Int)>0))||((!u.params&&decide ((e.Params.length:Int)>0))||((!u.alts&&decide ((e.Alts.length:Int)>0))||(!u.types&&decide ((e.Types.length:Int)>0))))))):=by
  unfold sQ
  rw[hS.n,hS.name,hS.most,hS.params,hS.alts,hS.types]
  simp only[qb4,qie,qa0]
 have hR1:vX e u.n u.name u.most u.ok=some (!u.ok||((!u.n&&(e.N !=0))||((!u.name&&!(e.Name==([]:ae)))||(u.most==0&&decide ((e.Kids.length:Int)>0))))):=by
  unfold vX
  simp only[qb4,qie,qa0]
 have hR2:Bo e u.params u.alts u.types=some ((!u.params&&decide ((e.Params.length:Int)>0))||((!u.alts&&decide ((e.Alts.length:Int)>0))||(!u.types&&decide ((e.Types.length:Int)>0)))):=by
  unfold Bo
  simp only[qb4,qie,qa0]
 rw[hJ1,hR1,hR2]
 have hJ2:∀b,sR ok b=some (!u.ok||b):=λb=>by
  unfold sR
  rw[hS.ok,qie]
 simp only[vaa,hJ2]
 by_cases ht:u.types=false->(e.Types.length:Int)=0
 ·obtain⟨bc,hc1,hc2⟩:=qci e he hS ht
  rw[hc1,hc2,h3,h3',qe1 e he,qaE e he,Xv e he,qdy,qdz e he,hS.name]
  have hc':=hc
  unfold CY at hc'
  rw[hc]
  simp only[vaa]
  generalize (!u.n&&(e.N !=0))=a1
  generalize (!u.name&&!(e.Name==([]:ae)))=a2
  generalize (u.most==0&&decide ((e.Kids.length:Int)>0))=a3
  generalize (!u.params&&decide ((e.Params.length:Int)>0))=a4
  generalize (!u.alts&&decide ((e.Alts.length:Int)>0))=a5
  generalize (!u.types&&decide ((e.Types.length:Int)>0))=a6
  generalize u.ok=a0
  generalize qee e u.name=n1
  generalize qew e=n2
  by_cases hU:(!a0||(a1||(a2||(a3||(a4||(a5||a6))))))=true
  ·rw[vad hU]
   refine⟨1,rfl,?_⟩
   cases a0<;>cases a1<;>cases a2<;>cases a3<;>cases a4<;>cases a5<;>cases a6<;>first|rfl|simp at hU
  ·rw [vab hU]
   have hU':a0=true/\a1=false/\a2=false/\a3=false/\a4=false/\a5=false/\a6=false:=by
    revert hU
    cases a0<;>cases a1<;>cases a2<;>cases a3<;>cases a4<;>cases a5<;>cases a6<;>simp
   obtain⟨rfl,rfl,rfl,rfl,rfl,rfl,rfl⟩:=hU'
   cases bc with
   |false=>exact⟨13,rfl,rfl⟩
   | true =>
    cases b3 with
    |true=>exact⟨2,rfl,rfl⟩
    | false =>
     cases n1 with
     |true=>exact⟨3,rfl,rfl⟩
     |false=>
      cases n2 with
      |true=>exact⟨4,rfl,rfl⟩
      |false=>exact⟨c,hc',rfl⟩
 ·have h1:u.types=false:=Classical.byContradiction λhx=>ht λhy=>absurd hy hx
  have h2:¬(e.Types.length:Int)=0:=λhx=>ht λ_=>hx
  have h3:decide ((e.Types.length:Int)>0)=true:=by simp;omega
  rw[h1,h3]
  generalize (!u.n&&(e.N !=0))=a1
  generalize (!u.name&&!(e.Name==([]:ae)))=a2
  generalize (u.most==0&&decide ((e.Kids.length:Int)>0))=a3
  generalize (!u.params&&decide ((e.Params.length:Int)>0))=a4
  generalize (!u.alts&&decide ((e.Alts.length:Int)>0))=a5
  generalize u.ok=a0
  refine⟨1,vad (by simp),?_⟩
  cases a0<;>cases a1<;>cases a2<;>cases a3<;>cases a4<;>cases a5<;>rfl
def N2(e:ag):Int:=(vW e).getD 0
theorem OU{e:ag}(he:UB e):vW e=some (N2 e)/\wz e=some (N2 e):=by
 obtain⟨c,h1,h2⟩:=qhc e he
 unfold N2
 rw[h2]
 exact⟨rfl,h1⟩
def ky:List ag->Int
 |[]=>0
 |x::l=>if N2 x=0 then ky l else N2 x
theorem JY:∀(l m:List ag),ky (l++m)=if ky l=0 then ky m else ky l
 |[],m=>by simp[ky]
 | x :: l,m => by
  rw[vaN,ky,ky,JY l m]
  by_cases h:N2 x=0
  ·simp[h]
  ·simp[h]
theorem qdD(e:ag)(he:UB e):∃b,km e 0=some (b,ky (cN e)):=by
 rw[QX e 0 (tI he)]
 have key:∀(l:List ag),(∀x∈l,UB x)->∃b,Gv (λs x=>iN x s) l (0:Int)=some (b,ky l):=by
  intro l
  induction l with
  |nil=>intro _;exact⟨true,rfl⟩
  | cons x l ih =>
   intro h
   have hx:=(OU (h x (by simp))).2
   have e1:iN x 0=some (N2 x==0,N2 x):=by unfold iN;rw[hx];rfl
   rw[Gv,e1,ky]
   by_cases h0:N2 x=0
   ·simp only[vaa,h0,beq_self_eq_true,if_true]
    exact ih λy hy=>h y (by simp[hy])
   ·have h0':(N2 x==0)=false:=by simpa using h0
    simp only[vaa,h0',h0,if_false]
    exact⟨false,rfl⟩
 exact key _ λx hx=>Y2 he hx
theorem qa3(e:ag)(he:UB e):RU e=some (ky (cN e)):=by
 refine uY (F:=Kk) nE UB (λx=>ky (cN x)) (λR e he ih=>?_) e he (lp (tI he))
 have hB:nE e<=1073741824:=tI he
 have hlen:=BC e
 show Ec (λe=>R e) e=_
 unfold Ec
 rw[(OU he).1,NV e (tI he)]
 simp only[vaa]
 have key:∀(k i:Nat) (v:Int),i+k=(bA e).length->qF (λe=>R e) (bA e) v (i:Int)=some (if v=0 then ky (((bA e).drop i).flatMap cN)else v):=by
  intro k
  induction k with
  | zero =>
   intro i v hi
   have:i=(bA e).length:=by omega
   subst this
   unfold qF
   rw[fx (x:=v) ?_]
   ·rw[vbN]
    by_cases hv:v=0
    ·rw[vad hv,hv];rfl
    ·rw[vab hv]
   ·show ib (λe=>R e) (bA e) v ((bA e).length:Int)=_
    unfold ib vV
    rw[vab (by simp)]
    rfl
  | succ k ihk =>
   intro i v hi
   have hlt:i<(bA e).length:=by omega
   have hm:(bA e)[i]∈bA e:=vag hlt
   by_cases hv:v=0
   ·have hb:ib (λe=>R e) (bA e) v (i:Int)=some (.inl (ky (cN (bA e)[i]),((i+1:Nat):Int))):=by
     unfold ib vV
     rw[vad (by simpa using hlt),hv]
     simp only[vaa,beq_self_eq_true,if_true]
     rw[aT _ _ hlt]
     simp only[vaa]
     rw[ih _ (Iy hm) (qe6 he hm),cC (by omega) (by omega)]
     rfl
    have h:=ihk (i+1) (ky (cN (bA e)[i])) (by omega)
    unfold qF at h ⊢
    rw[ol (s':=(ky (cN (bA e)[i]),((i+1:Nat):Int))) hb,h,vad hv,vaH hlt,vbW,JY]
   ·unfold qF
    rw[fx (x:=v) ?_,vab hv]
    show ib (λe=>R e) (bA e) v (i:Int)=_
    unfold ib vV
    rw[vad (by simpa using hlt)]
    simp only[vaa]
    rw[vab (by simpa using hv)]
 have h:=key (bA e).length 0 (N2 e) (by omega)
 rw[show((0:Nat):Int)=0 from rfl]at h
 rw[h,vbi,um,ky]
 rfl
theorem qdH(e:ag)(he:UB e):∃c,yK e=some c/\yV e=some c:=by
 obtain⟨b,hw⟩:=qdD e he
 unfold yK yV
 rw[qdP e (tI he),OQ e (tI he),qdL e (tI he),Vv e (tI he),hw,qa3 e he]
 simp only[vaa]
 by_cases h1:decide (((cN e).length:Int)>400)=true
 ·rw[vad h1];exact⟨_,rfl,rfl⟩
 ·rw[vab h1]
  by_cases h2:decide ((dE e:Int)>40)=true
  ·rw[vad h2];exact⟨_,rfl,rfl⟩
  ·rw[vab h2];exact⟨_,rfl,rfl⟩
structure qdo(e:ag):Prop where
 rng:1<=e.Op/\e.Op<=26
 n1:e.Op=1->qf8 e.N
 k1:e.Op=6\/e.Op=9\/e.Op=15\/e.Op=21\/e.Op=22\/e.Op=23\/e.Op=26->∃a,e.Kids=[a]
 k2:e.Op=7\/(10<=e.Op/\e.Op<=14)\/(16<=e.Op/\e.Op<=20)\/e.Op=24->∃a b,e.Kids=[a,b]
 k3:e.Op=8->∃a b c,e.Kids=[a,b,c]
 k5:e.Op=5->1<=e.Kids.length
 k25:e.Op=25->2<=e.Kids.length
 t26:e.Op=26->∃t,e.Types=[t]
theorem qlj{α:Type}{l:List α}(h:l.length=1):∃a,l=[a]:=by
 match l,h with
 |[a],_=>exact⟨a,rfl⟩
theorem qqx{α:Type}{l:List α}(h:l.length=2):∃a b,l=[a,b]:=by
 match l,h with
 |[a,b],_=>exact⟨a,b,rfl⟩
theorem qqy{α:Type}{l:List α}(h:l.length=3):∃a b c,l=[a,b,c]:=by
 match l,h with
 |[a,b,c],_=>exact⟨a,b,c,rfl⟩
structure qsD(op:Int)(u:aj):Prop where
 rng:u.ok=true->1<=op/\op<=26
 k1:op=6\/op=9\/op=15\/op=21\/op=22\/op=23\/op=26->u.least=1/\u.most=1
 k2:op=7\/(10<=op/\op<=14)\/(16<=op/\op<=20)\/op=24->u.least=2/\u.most=2
 k3:op=8->u.least=3/\u.most=3
 k5:op=5->u.least=1
 k25:op=25->u.least=2
 t26:op=26->u.exactly=true
theorem qdC(op:Int):∃u,zA op=some u/\qsD op u:=by
 by_cases h:1<=op/\op<=26
 ·have:op=1\/op=2\/op=3\/op=4\/op=5\/op=6\/op=7\/op=8\/op=9\/op=10\/op=11\/op=12\/op=13\/op=14\/op=15\/op=16\/op=17\/op=18\/op=19\/op=20\/op=21\/op=22\/op=23\/op=24\/op=25\/op=26:=by omega
  rcases this with h|h|h|h|h|h|h|h|h|h|h|h|h|h|h|h|h|h|h|h|h|h|h|h|h|h<;>subst h<;>
   exact⟨_,rfl,⟨λ_=>by omega,λh=>by first|exact⟨rfl,rfl⟩|omega,λh=>by first|exact⟨rfl,rfl⟩|omega,λh=>by first|exact⟨rfl,rfl⟩|omega,λh=>by first|rfl|omega,λh=>by first|rfl|omega,λh=>by first|rfl|omega⟩⟩
 ·have hb:∀k:Int,1<=k->k<=26->(op==k)=false:=λk h1 h2=>by rw[beq_eq_false_iff_ne];omega
  refine⟨⟨false,false,0,0,false,false,false,false,false⟩,?_,⟨λh=>(by cases h),λh=>(by omega),λh=>(by omega),λh=>(by omega),λh=>(by omega),λh=>(by omega),λh=>(by omega)⟩⟩
  unfold zA Bp Bq Br
  simp[hb]
theorem qe3(e:ag)(h:vW e=some 0):qdo e:=by
 obtain⟨u,hu,hU⟩:=qdC e.Op
 unfold vW at h
 rw[hu]at h
 simp only[vaa]at h
 obtain⟨o1,e1,h⟩:=Uh h
 rcases Lt h with⟨c1,h⟩|⟨c1,h⟩
 ·cases h
 obtain⟨o2,e2,h⟩:=Uh h
 rcases Lt h with⟨c2,h⟩|⟨c2,h⟩
 ·cases h
 obtain⟨o3,e3,h⟩:=Uh h
 rcases Lt h with⟨c3,h⟩|⟨c3,h⟩
 ·cases h
 obtain⟨o4,e4,h⟩:=Uh h
 rcases Lt h with⟨c4,h⟩|⟨c4,h⟩
 ·cases h
 have hok:u.ok=true:=by
  unfold vX at e1
  rcases Lt e1 with⟨d,e1⟩|⟨d,e1⟩
  ·rw[<-vbe e1]at c1;cases c1
  ·simpa using d
 have hcnt:(u.least<=(e.Kids.length:Int)/\(e.Kids.length:Int)<=u.most)/\(u.exactly=true->(e.Types.length:Int)=1):=by
  have c3:o3=true:=by simpa using c3
  subst c3
  unfold zr at e3
  obtain⟨p1,q1,e3⟩:=Uh e3
  rcases Lt e3 with⟨d1,e3⟩|⟨d1,e3⟩
  ·cases e3
  obtain⟨p2,q2,e3⟩:=Uh e3
  rcases Lt e3 with⟨d2,e3⟩|⟨d2,e3⟩
  ·cases e3
  obtain⟨p3,q3,e3⟩:=Uh e3
  rcases Lt e3 with⟨d3,e3⟩|⟨d3,e3⟩
  ·cases e3
  obtain⟨p4,q4,e3⟩:=Uh e3
  refine⟨?_,λhx=>?_⟩
  ·subst d1
   unfold uS at q1
   rcases Lt q1 with⟨d,q1⟩|⟨d,q1⟩
   ·cases q1
   ·simp at d q1
    omega
  ·cases p4 with
   |inl _=>cases e3
   | inr _ =>
    simp only[]at e3
    rcases Lt e3 with⟨d,e3⟩|⟨d,e3⟩
    ·rw[hx]at d;cases d
    ·rcases Lt e3 with⟨d',e3⟩|⟨d',e3⟩
     ·simpa using d'
     ·cases e3
 obtain⟨⟨hl,hm⟩,ht⟩:=hcnt
 refine⟨hU.rng hok,λh1=>?_,λhk=>qlj ?_,λhk=>qqx ?_,λhk=>qqy ?_,λhk=>?_,λhk=>?_,λhk=>qlj ?_⟩
 ·subst c4
  unfold vY at e4
  rw[vad (by simp[h1])]at e4
  obtain⟨q,hq,e4⟩:=Uh e4
  rcases Lt e4 with⟨d,e4⟩|⟨d,e4⟩
  ·cases e4
  ·have hq':q=true:=by simpa using d
   subst hq'
   unfold D1 at hq
   rcases Lt hq with⟨d1,hq⟩|⟨d1,hq⟩
   ·simp at d1 hq
    exact⟨by omega,hq⟩
   ·cases hq
 ·obtain⟨a,b⟩:=hU.k1 hk;omega
 ·obtain⟨a,b⟩:=hU.k2 hk;omega
 ·obtain⟨a,b⟩:=hU.k3 hk;omega
 ·have:=hU.k5 hk;omega
 ·have:=hU.k25 hk;omega
 ·have:=ht (hU.t26 hk);omega
def nq(e:ag):Prop:=∀x∈cN e,qdo x
theorem gP{e:ag}(h:nq e):qdo e:=h e (qfQ e)
theorem SC{e x:ag}(h:nq e)(hx:x∈bA e):nq x:=λy hy=>h y (by rw[um];exact vaL _ (vc6.2 ⟨x,hx,hy⟩))
theorem eB{e x:ag}(h:nq e)(hx:x∈e.Kids):nq x:=SC h (vaU _ hx)
theorem N5{e:ag}{a:cK}(h:nq e)(hx:a∈e.Alts):nq a.Body:=SC h (vaM _ (var.2 ⟨a,hx,rfl⟩))
abbrev Lv(e:ag):Prop:=fP (ah e)<=16777216
theorem qaF{e:ag}(h:Lv e):UB e:=vax h (by unfold cW;omega)
theorem Ps:∀(l:List ag),ky l=0->∀x∈l,N2 x=0
 |[],_=>λx hx=>nomatch hx
 | y :: l,h => fun x hx => by
  rw[ky]at h
  by_cases h0:N2 y=0
  ·rw[vad h0]at h
   rcases vaF.1 hx with rfl|hx
   ·exact h0
   ·exact Ps l h x hx
  ·rw[vab h0]at h;exact absurd h h0
theorem ZT(e:ag)(hs:Lv e)(h:yV e=some 0):nq e:=by
 have he:=qaF hs
 unfold yV at h
 rw[OQ e (tI he),Vv e (tI he),qa3 e he]at h
 simp only[vaa]at h
 rcases Lt h with⟨c,h⟩|⟨c,h⟩
 ·cases h
 rcases Lt h with⟨c,h⟩|⟨c,h⟩
 ·cases h
 intro x hx
 have h0:=Ps _ (vbe h) x hx
 exact qe3 x (by rw[(OU (Y2 he hx)).1,h0])
def Q9(e:ag):Int:=if e.Op=7\/e.Op=8\/e.Op=9\/e.Op=6\/e.Op=25 then 0 else if e.Op=20 then 1 else if e.Op=19 then 2 else if e.Op=21 then(if(e.Kids.headD ⟨0,[],0,[],[],[],[]⟩).Op=16 then 4 else 3)else if e.Op=16\/e.Op=17\/e.Op=18 then 4
 else if e.Op=10\/e.Op=11 then 5 else if e.Op=12\/e.Op=13\/e.Op=14 then 6 else if e.Op=15 then 7 else 8
def qhE(o:Int):ae:=if o=20 then wD else if o=19 then wB else if o=16 then ZA else if o=17 then PK else if o=18 then wC else if o=10 then PJ else if o=11 then pT else if o=12 then PI else if o=13 then qip else qiq
section
variable(f:ag->Wr)
def kE(l:List ag)(i:Nat):Wr:=((l[i]?).map f).getD ([],false)
def qaf(least:Int)(x:ag):Wr:=if Q9 x<least then dz [tW cE,f x,tW dI]else f x
def Uu(least:Int)(l:List ag)(i:Nat):Wr:=((l[i]?).map (qaf f least)).getD ([],false)
def BB(l:List ag):List Wr:=tW cE::(xd aU (l.map f)++[tW dI])
abbrev ZI(t:af):Wr:=qj1 16777216 t
def Im(l:List af):List Wr:=if l=[]then[]else tW VO::(xd aU (l.map ZI)++[tW VP])
def Og(l:List ae):List Wr:=if l=[]then[]else tW Nu::(xd aU (l.map (J2 false))++[tW dI])
def O4(sg:ae)(l:List ag)(a b:Int):List Wr:=[Uu f a l 0,tW (dh++(sg++dh)),Uu f b l 1]
def UE(p:cP):Wr:=dz (J2 false p.Name::(if p.Type_=Nw then[]else[tW bX,ZI p.Type_]))
def Wk(a:cK):Wr:=dz (J2 true a.Con::(Og a.Names++[tW kO,f a.Body]))
def td(e:ag):List Wr:=
 if e.Op=1 then[tW (Ta e.N)]
 else if e.Op=2 then[tW (if e.N=1 then nR else tn)]
 else if e.Op=3 then[J2 false e.Name]
 else if e.Op=4 then J2 true e.Name::(Im e.Types++(if e.Kids=[]then[]else BB f e.Kids))
 else if e.Op=5 then J2 false e.Name::(Im e.Types++BB f e.Kids)
 else if e.Op=6 then tW nQ::(xd aU (e.Params.map UE)++[tW cG,kE f e.Kids 0])
 else if e.Op=7 then tW wE::J2 false e.Name::((match e.Types with|[]=>[]|t::_=>[tW bX,ZI t])++[tW ii,kE f e.Kids 0,tW eS,kE f e.Kids 1])
 else if e.Op=8 then[tW Fj,kE f e.Kids 0,tW lF,kE f e.Kids 1,tW lE,kE f e.Kids 2]
 else if e.Op=9 then tW uK::kE f e.Kids 0::tW gf::(xd kP (e.Alts.map (Wk f))++[tW Ay])
 else if e.Op=25 then tW Az::J2 false e.Name::tW dh::(BB f (e.Kids.take (e.Kids.length - 1))++[tW eS,kE f e.Kids (e.Kids.length - 1)])
 else if e.Op=21 then(if(e.Kids.headD ⟨0,[],0,[],[],[],[]⟩).Op=16 then O4 f gV (e.Kids.headD ⟨0,[],0,[],[],[],[]⟩).Kids 5 5 else[tW xS,Uu f 3 e.Kids 0])
 else if e.Op=15 then[tW pT,Uu f 7 e.Kids 0]
 else if e.Op=22 then tW VS::BB f e.Kids
 else if e.Op=23 then tW VQ::BB f e.Kids
 else if e.Op=24 then tW VT::BB f e.Kids
 else if e.Op=26 then[tW cE,kE f e.Kids 0,tW bX,((e.Types[0]?).map ZI).getD ([],false),tW dI]
 else if e.Op=16\/e.Op=17\/e.Op=18 then O4 f (qhE e.Op) e.Kids 5 5
 else O4 f (qhE e.Op) e.Kids (Q9 e) (Q9 e+1)
end
def Lc:Nat->ag->Wr
 |0,_=>([],false)
 |n+1,e=>dz (td (Lc n) e)
theorem qfs(e:ag)(h:qdo e):wn e=some (Q9 e):=by
 obtain⟨h1,h2⟩:=h.rng
 have hk:=h.k1
 obtain⟨o,nm,n,ks,ps,as1,ts⟩:=e
 replace h1:1<=o:=h1
 replace h2:o<=26:=h2
 replace hk:o=6\/o=9\/o=15\/o=21\/o=22\/o=23\/o=26->∃a,ks=[a]:=hk
 have:o=1\/o=2\/o=3\/o=4\/o=5\/o=6\/o=7\/o=8\/o=9\/o=10\/o=11\/o=12\/o=13\/o=14\/o=15\/o=16\/o=17\/o=18\/o=19\/o=20\/o=22\/o=23\/o=24\/o=25\/o=26\/o=21:=by omega
 rcases this with rfl|rfl|rfl|rfl|rfl|rfl|rfl|rfl|rfl|rfl|rfl|rfl|rfl|rfl|rfl|rfl|rfl|rfl|rfl|rfl|rfl|rfl|rfl|rfl|rfl|rfl
 case' inr.inr.inr.inr.inr.inr.inr.inr.inr.inr.inr.inr.inr.inr.inr.inr.inr.inr.inr.inr.inr.inr.inr.inr.inr=>
  obtain⟨a,rfl⟩:=hk (by omega)
  show(cX [a] 0).bind (λx10=>if(x10.Op==16)=true then some 4 else some 3)=some (if a.Op=16 then 4 else 3)
  rw[cz]
  simp only[vaa]
  by_cases h16:a.Op=16<;>simp[h16]
 all_goals rfl
theorem qbK(e:ag)(h:qdo e):Is e=some (Q9 e):=by
 obtain⟨h1,h2⟩:=h.rng
 have hk:=h.k1
 obtain⟨o,nm,n,ks,ps,as1,ts⟩:=e
 replace h1:1<=o:=h1
 replace h2:o<=26:=h2
 replace hk:o=6\/o=9\/o=15\/o=21\/o=22\/o=23\/o=26->∃a,ks=[a]:=hk
 have:o=1\/o=2\/o=3\/o=4\/o=5\/o=6\/o=7\/o=8\/o=9\/o=10\/o=11\/o=12\/o=13\/o=14\/o=15\/o=16\/o=17\/o=18\/o=19\/o=20\/o=22\/o=23\/o=24\/o=25\/o=26\/o=21:=by omega
 rcases this with rfl|rfl|rfl|rfl|rfl|rfl|rfl|rfl|rfl|rfl|rfl|rfl|rfl|rfl|rfl|rfl|rfl|rfl|rfl|rfl|rfl|rfl|rfl|rfl|rfl|rfl
 case' inr.inr.inr.inr.inr.inr.inr.inr.inr.inr.inr.inr.inr.inr.inr.inr.inr.inr.inr.inr.inr.inr.inr.inr.inr=>
  obtain⟨a,rfl⟩:=hk (by omega)
  show(nj ⟨21,nm,n,[a],ps,as1,ts⟩).bind (λr10=>if r10=true then some 4 else some 3)=some (if a.Op=16 then 4 else 3)
  have hu:nj ⟨21,nm,n,[a],ps,as1,ts⟩=some (a.Op==16):=rfl
  rw[hu]
  simp only[vaa]
  by_cases h16:a.Op=16<;>simp[h16]
 all_goals rfl
theorem YG{α:Type}(x y:α)(l:List α):cX (x::y::l) 1=some y:=by have:=aT (x::y::l) 1 (by simp);exact this
theorem qlf{α:Type}(x y z:α)(l:List α):cX (x::y::z::l) 2=some z:=by have:=aT (x::y::z::l) 2 (by simp);exact this
theorem TM(n:Nat)(e:ag):Lc (n+1) e=dz (td (Lc n) e):=rfl
theorem mL{e x:ag}(h:Lv e)(hx:x∈e.Kids):Lv x:=vax (vbH (qft hx)) h
theorem Re{e:ag}{a:cK}(h:Lv e)(hx:a∈e.Alts):Lv a.Body:=vax (vbH (Zf hx)) h
theorem Aj{e:ag}{t:af}(h:Lv e)(hx:t∈e.Types):y3 t:=vax (vbH (qbB hx)) h
theorem Rf{e:ag}{p:cP}(h:Lv e)(hx:p∈e.Params):y3 p.Type_:=by
 have h1:=Zg hx
 have h2:=IU p
 unfold y3
 unfold Lv at h
 omega
theorem J9{t:af}(h:y3 t):fh t<=16777216:=vax (Q7 t) h
theorem qf4(t:af)(h:y3 t):decide (t=Nw)=(decide (t.Op=0)&&(decide (t.Name=[])&&(decide (t.Args=[])&&(decide (t.Names=[])&&(decide (t.Pred=fO)&&decide (t.Preds=[])))))):=by
 obtain⟨o,n,as1,ns,p,ps⟩:=t
 simp[Nw,fO]
 rfl
theorem qfA(t:af)(h:y3 t):vA t=some (decide (t=Nw)):=by
 unfold vA
 rw[qf4 t h]
 by_cases h1:t.Op=0
 ·rw [vad (by simp [h1])]
  by_cases h2:t.Name=[]
  ·rw [vad (by simp [h2])]
   by_cases h3:t.Args=[]
   ·rw [vad (by simp [h3])]
    by_cases h4:t.Names=[]
    ·rw [vad (by simp [h4]),Ag _ (wy h)]
     simp only[vaa]
     by_cases h5:t.Pred=fO
     ·rw[vad (by simp[h5])]
      have h6:((t.Preds.length:Int)==0)=decide (t.Preds=[]):=by
       by_cases h6:t.Preds=[]
       ·rw[vaI h6,h6];rfl
       ·rw[decide_eq_false h6,beq_eq_false_iff_ne];intro e;exact h6 (vai (by omega))
      simp[h1,h2,h3,h4,h5,h6]
     ·rw[vab (by simp[h5])]
      simp[h5]
    ·rw[vab (by simpa using h4)]
     simp[h4]
   ·rw[vab (by simpa using h3)]
    simp[h3]
  ·rw[vab (by simpa using h2)]
   simp[h2]
 ·rw[vab (by simpa using h1)]
  simp[h1]
section
variable{f:ag->Wr}{R:ag->List Int->Bool->Option (List Int×Bool)}
theorem qhm(least:Int)(x:ag)(hx:qdo x)(hR:∀k b,RS fb Prod.mk k b [f x] (R x k b))(k:List Int)(b:Bool):RS fb Prod.mk k b [qaf f least x] (fX R x least k b):=by
 unfold fX qaf
 refine bM (qfs x hx) (cM (λhc=>?_) λhc=>?_)
 ·rw[vad (by simpa using hc)]
  exact RS.one (aV aE (fU _ k b) λk1=>aW aE (hR k1 b) λk2 b2=>aV aE (fU _ k2 b2) λk3=>aN (mk:=Prod.mk) aE)
 ·rw[vab (by simpa using hc)]
  exact aW aE (hR k b) λk1 b1=>aN (mk:=Prod.mk) aE
theorem OC(l:List ag)(hl:l.length<9223372036854775808)(hR:∀x∈l,∀k b,RS fb Prod.mk k b [f x] (R x k b))(k:List Int)(b:Bool):RS fb Prod.mk k b (BB f l) (d7 R l k b):=by
 unfold d7 BB
 refine aV aE (fU _ k b) λk1=>bU aE (mk:=Prod.mk) ?_ λk2 b2=>aV aE (fU _ k2 b2) λk3=>aN (mk:=Prod.mk) aE
 unfold mh jS
 have h:=sC (k:=k1) (b:=b) aE l hl aU f (body:=λzz:Int×List Int×Bool=>df R l (l.length:Int) zz.1 zz.2.1 zz.2.2) (λi hi k b=>?_) (λk b=>?_)
 ·exact(bU aE h λk b=>aN (mk:=Prod.mk) aE).cast (by rw[vak])
 ·show RS _ _ _ _ _ (df R l (l.length:Int) (i:Int) k b)
  unfold df
  rw[vad (ZE hi)]
  refine jL aE (KW aU i k b) λk1=>aW aE (mk:=Prod.mk) ?_ λk2 b2=>aN aE
  unfold pe
  exact bM (aT _ _ hi) (aW aE (hR _ (vag hi) k1 b) λk3 b3=>aN (mk:=Prod.mk) aE)
 ·show df R l (l.length:Int) (l.length:Int) k b=_
  unfold df
  rw[vab (ZD _)]
theorem qbF(l:List af)(hl:l.length<9223372036854775808)(hs:∀t∈l,y3 t)(k:List Int)(b:Bool):RS fb Prod.mk k b (Im l) (iM l k b):=by
 unfold iM Im
 refine cM (λhc=>?_) λhc=>?_
 ·rw[vad (vai (by simp at hc;simp[hc]))]
  exact aN (mk:=Prod.mk) aE
 rw[vab (λe=>by rw[e]at hc;simp at hc)]
 refine aV aE (fU _ k b) λk1=>bU aE (mk:=Prod.mk) ?_ λk2 b2=>aV aE (fU _ k2 b2) λk3=>aN (mk:=Prod.mk) aE
 unfold mg jR
 have h:=sC (k:=k1) (b:=b) aE l hl aU ZI (body:=λzz:Int×List Int×Bool=>de l (l.length:Int) zz.1 zz.2.1 zz.2.2) (λi hi k b=>?_) (λk b=>?_)
 ·exact(bU aE h λk b=>aN (mk:=Prod.mk) aE).cast (by rw[vak])
 ·show RS _ _ _ _ _ (de l (l.length:Int) (i:Int) k b)
  unfold de
  rw[vad (ZE hi)]
  refine jL aE (KW aU i k b) λk1=>aW aE (mk:=Prod.mk) ?_ λk2 b2=>aN aE
  unfold nJ
  have hm:=hs _ (vag hi)
  exact bM (aT _ _ hi) (aW aE (HV _ _ (J9 hm) hm k1 b) λk3 b3=>aN (mk:=Prod.mk) aE)
 ·show de l (l.length:Int) (l.length:Int) k b=_
  unfold de
  rw[vab (ZD _)]
theorem qhp(l:List ae)(hl:l.length<9223372036854775808)(k:List Int)(b:Bool):RS fb Prod.mk k b (Og l) (iL l k b):=by
 unfold iL Og
 refine cM (λhc=>?_) λhc=>?_
 ·rw[vad (vai (by simp at hc;simp[hc]))]
  exact aN (mk:=Prod.mk) aE
 rw[vab (λe=>by rw[e]at hc;simp at hc)]
 refine aV aE (fU _ k b) λk1=>bU aE (mk:=Prod.mk) ?_ λk2 b2=>aV aE (fU _ k2 b2) λk3=>aN (mk:=Prod.mk) aE
 unfold pf lz
 have h:=sC (k:=k1) (b:=b) aE l hl aU (J2 false) (body:=λzz:Int×List Int×Bool=>dB l (l.length:Int) zz.1 zz.2.1 zz.2.2) (λi hi k b=>?_) (λk b=>?_)
 ·exact(bU aE h λk b=>aN (mk:=Prod.mk) aE).cast (by rw[vak])
 ·show RS _ _ _ _ _ (dB l (l.length:Int) (i:Int) k b)
  unfold dB
  rw[vad (ZE hi)]
  refine jL aE (KW aU i k b) λk1=>aW aE (mk:=Prod.mk) ?_ λk2 b2=>aN aE
  unfold nI
  exact bM (aT _ _ hi) (aW aE (PC _ k1 b) λk3 b3=>aN (mk:=Prod.mk) aE)
 ·show dB l (l.length:Int) (l.length:Int) k b=_
  unfold dB
  rw[vab (ZD _)]
theorem qhq(e:ag)(hl:e.Params.length<9223372036854775808)(hs:∀p∈e.Params,y3 p.Type_)(k:List Int)(b:Bool):RS fb Prod.mk k b (xd aU (e.Params.map UE)) (gZ (e.Params.length:Int) e k b):=by
 unfold gZ jh
 have h:=sC (k:=k) (b:=b) aE e.Params hl aU UE (body:=λzz:Int×List Int×Bool=>cO e (e.Params.length:Int) zz.1 zz.2.1 zz.2.2) (λi hi k b=>?_) (λk b=>?_)
 ·exact(bU aE h λk b=>aN (mk:=Prod.mk) aE).cast (by rw[vak])
 ·show RS _ _ _ _ _ (cO e (e.Params.length:Int) (i:Int) k b)
  unfold cO
  rw[vad (ZE hi)]
  refine jL aE (KW aU i k b) λk1=>aW aE (mk:=Prod.mk) (w:=UE e.Params[i]) (RS.one ?_) λk2 b2=>aN aE
  unfold nC
  have hm:=hs _ (vag hi)
  refine bM (aT _ _ hi) (aW aE (PC _ k1 b) λk2 b2=>bM (aT _ _ hi) (bM (qfA _ hm) (cM (λhc=>?_) λhc=>?_)))
  ·rw[vab (by simpa using hc)]
   exact aV aE (fU _ k2 b2) λk3=>bM (aT _ _ hi) (aW aE (HV _ _ (J9 hm) hm k3 b2) λk4 b4=>aN (mk:=Prod.mk) aE)
  ·rw[vad (by simpa using hc)]
   exact aN (mk:=Prod.mk) aE
 ·show cO e (e.Params.length:Int) (e.Params.length:Int) k b=_
  unfold cO
  rw[vab (ZD _)]
theorem qlq(l:List cK)(hl:l.length<9223372036854775808)(hn:∀a∈l,a.Names.length<9223372036854775808)(hR:∀a∈l,∀k b,RS fb Prod.mk k b [f a.Body] (R a.Body k b))(k:List Int)(b:Bool):RS fb Prod.mk k b (xd kP (l.map (Wk f))) (iV R l (l.length:Int) 0 k b):=by
 unfold iV
 refine sC aE l hl kP (Wk f) (λi hi k b=>?_) (λk b=>?_)
 ·show RS _ _ _ _ _ (ef R l (l.length:Int) (i:Int) k b)
  unfold ef
  rw[vad (ZE hi)]
  have hm:=vag hi
  refine bM (aT _ _ hi) (jL aE (KW kP i k b) λk1=>RS.of1' ?_)
  exact aW aE (qaC _ k1 b) λk2 b2=>(bU aE (qhp _ (hn _ hm) k2 b2) λk3 b3=>aV aE (fU _ k3 b3) λk4=>aW aE (hR _ hm k4 b3) λk5 b5=>aN aE)
 ·show ef R l (l.length:Int) (l.length:Int) k b=_
  unfold ef
  rw[vab (ZD _)]
theorem Xi(sg:ae)(a c:ag)(x y:Int)(ha:qdo a)(hc:qdo c)(hRa:∀k b,RS fb Prod.mk k b [f a] (R a k b))(hRc:∀k b,RS fb Prod.mk k b [f c] (R c k b))(k:List Int)(b:Bool):RS fb Prod.mk k b (O4 f sg [a,c] x y) (fy R a sg c x y k b):=by
 unfold fy O4
 exact aW aE (qhm x a ha hRa k b) λk1 b1=>aV aE (qig _ _ _ k1 b1) λk2=>aW aE (qhm y c hc hRc k2 b1) λk3 b3=>aN (mk:=Prod.mk) aE
theorem qhl(e:ag)(hg:nq e)(hs:Lv e)(hR:∀x,nE x<nE e->nq x->Lv x->∀k b,RS fb Prod.mk k b [f x] (R x k b))(k:List Int)(b:Bool):RS fb Prod.mk k b (td f e) (kf R e k b):=by
 have hsh:=gP hg
 have hB:nE e<=16777216:=vax (HR e) hs
 have hK:∀x∈e.Kids,∀k b,RS fb Prod.mk k b [f x] (R x k b):=λx hx=>hR x (oh hx) (eB hg hx) (mL hs hx)
 have hSK:∀x∈e.Kids,qdo x:=λx hx=>gP (eB hg hx)
 have hkl:=y0 e
 have hal:=n9 e
 have hpl:=kT e
 have htl:=uI e
 have hT:∀t∈e.Types,y3 t:=λt ht=>Aj hs ht
 unfold kf td
 refine cM (λh=>?_) λh=>?_
 ·have h1:e.Op=1:=by simpa using h
  have hz:=hsh.n1 h1
  rw[vad h1]
  unfold Ta
  refine cM (λhn=>?_) λhn=>?_
  ·rw[vad (by simpa using hn)]
   exact bM (IH hz) (aV aE (qig _ _ _ k b) λk1=>aN (mk:=Prod.mk) aE)
  ·rw[vab (by simpa using hn)]
   exact bM (IH hz) (aV aE (fU _ k b) λk1=>aN (mk:=Prod.mk) aE)
 rw[vab (by simpa using h)]
 refine cM (λh=>?_) λh=>?_
 ·rw[vad (by simpa using h)]
  have hf:gb (e.N==1)=some (if e.N=1 then nR else tn):=by
   by_cases hn:e.N=1
   ·rw[vad hn,hn];rfl
   ·rw[vab hn,show(e.N==1)=false by simpa using hn];rfl
  exact bM hf (aV aE (fU _ k b) λk1=>aN (mk:=Prod.mk) aE)
 rw[vab (by simpa using h)]
 refine cM (λh=>?_) λh=>?_
 ·rw[vad (by simpa using h)]
  exact aW aE (PC _ k b) λk1 b1=>aN (mk:=Prod.mk) aE
 rw[vab (by simpa using h)]
 refine cM (λh=>?_) λh=>?_
 ·rw[vad (by simpa using h)]
  refine aW aE (qaC _ k b) λk1 b1=>bU aE (qbF _ (by omega) hT k1 b1) λk2 b2=>cM (λhk=>?_) λhk=>?_
  ·rw[vab (λe0=>by rw[e0]at hk;simp at hk)]
   exact(bU aE (OC _ (by omega) hK k2 b2) λk3 b3=>aN (mk:=Prod.mk) aE).cast (by rw[vak])
  ·rw[vad (vai (by simp at hk;simp[hk]))]
   exact aN (mk:=Prod.mk) aE
 rw[vab (by simpa using h)]
 refine cM (λh=>?_) λh=>?_
 ·rw[vad (by simpa using h)]
  exact aW aE (PC _ k b) λk1 b1=>bU aE (qbF _ (by omega) hT k1 b1) λk2 b2=>(bU aE (OC _ (by omega) hK k2 b2) λk3 b3=>aN (mk:=Prod.mk) aE).cast (by rw[vak])
 rw[vab (by simpa using h)]
 have h4':e.Op≠5:=by simpa using h
 have hJ1:jG e.Op=some (e.Op==6||e.Op==7||e.Op==8||e.Op==9||e.Op==25):=by
  unfold jG
  cases e.Op==6<;>cases e.Op==7<;>cases e.Op==8<;>cases e.Op==9<;>rfl
 refine bM hJ1 (cM (λhc=>?_) λhc=>?_)
 ·have key:RS fb Prod.mk k b (if e.Op=6 then tW nQ::(xd aU (e.Params.map UE)++[tW cG,kE f e.Kids 0])
    else if e.Op=7 then tW wE::J2 false e.Name::((match e.Types with|[]=>[]|t::_=>[tW bX,ZI t])++[tW ii,kE f e.Kids 0,tW eS,kE f e.Kids 1])
    else if e.Op=8 then[tW Fj,kE f e.Kids 0,tW lF,kE f e.Kids 1,tW lE,kE f e.Kids 2]
    else if e.Op=9 then tW uK::kE f e.Kids 0::tW gf::(xd kP (e.Alts.map (Wk f))++[tW Ay])
    else tW Az::J2 false e.Name::tW dh::(BB f (e.Kids.take (e.Kids.length - 1))++[tW eS,kE f e.Kids (e.Kids.length - 1)])) (ly R e k b):=by
   unfold ly
   refine cM (λh=>?_) λh=>?_
   ·have h6:e.Op=6:=by simpa using h
    rw[vad h6]
    obtain⟨x,hx⟩:=hsh.k1 (.inl h6)
    have hk0:∀k b,RS fb Prod.mk k b [f x] (R x k b):=hK x (by rw[hx];simp)
    rw[hx]
    exact aV aE (fU _ k b) λk1=>bU aE (qhq e (by omega) (λp hp=>Rf hs hp) k1 b) λk2 b2=>aV aE (fU _ k2 b2) λk3=>bM (cz _ _) (aW aE (hk0 k3 b2) λk4 b4=>aN (mk:=Prod.mk) aE)
   rw[vab (by simpa using h)]
   refine cM (λh=>?_) λh=>?_
   ·have h7:e.Op=7:=by simpa using h
    rw[vad h7]
    obtain⟨x,y,hx⟩:=hsh.k2 (.inl h7)
    have hk0:∀k b,RS fb Prod.mk k b [f x] (R x k b):=hK x (by rw[hx];simp)
    have hk1:∀k b,RS fb Prod.mk k b [f y] (R y k b):=hK y (by rw[hx];simp)
    rw[hx]
    refine aV aE (fU _ k b) λk1=>aW aE (PC _ k1 b) λk2 b2=>bU aE (mk:=Prod.mk) ?_ λk3 b3=>aV aE (fU _ k3 b3) λk4=>bM (cz _ _) (aW aE (hk0 k4 b3) λk5 b5=>aV aE (fU _ k5 b5) λk6=>bM (YG _ _ _) (aW aE (hk1 k6 b5) λk7 b7=>aN (mk:=Prod.mk) aE))
    unfold me
    cases hty:e.Types with
    |nil=>
     rw[vab (by simp)]
     exact aN (mk:=Prod.mk) aE
    |cons t l=>
     have hm:=hT t (by rw[hty];simp)
     rw[vad (by simp)]
     exact aV aE (fU _ k2 b2) λk3=>bM (cz _ _) (aW aE (HV _ _ (J9 hm) hm k3 b2) λk4 b4=>aN (mk:=Prod.mk) aE)
   rw[vab (by simpa using h)]
   refine cM (λh=>?_) λh=>?_
   ·have h8:e.Op=8:=by simpa using h
    rw[vad h8]
    obtain⟨x,y,z,hx⟩:=hsh.k3 h8
    have hk0:∀k b,RS fb Prod.mk k b [f x] (R x k b):=hK x (by rw[hx];simp)
    have hk1:∀k b,RS fb Prod.mk k b [f y] (R y k b):=hK y (by rw[hx];simp)
    have hk2:∀k b,RS fb Prod.mk k b [f z] (R z k b):=hK z (by rw[hx];simp)
    rw[hx]
    exact aV aE (fU _ k b) λk1=>bM (cz _ _) (aW aE (hk0 k1 b) λk2 b2=>aV aE (fU _ k2 b2) λk3=>bM (YG _ _ _) (aW aE (hk1 k3 b2) λk4 b4=>aV aE (fU _ k4 b4) λk5=>bM (qlf _ _ _ _) (aW aE (hk2 k5 b4) λk6 b6=>aN (mk:=Prod.mk) aE)))
   rw[vab (by simpa using h)]
   refine cM (λh=>?_) λh=>?_
   ·have h9:e.Op=9:=by simpa using h
    rw[vad h9]
    obtain⟨x,hx⟩:=hsh.k1 (.inr (.inl h9))
    have hk0:∀k b,RS fb Prod.mk k b [f x] (R x k b):=hK x (by rw[hx];simp)
    rw[hx]
    have hna:∀a∈e.Alts,a.Names.length<9223372036854775808:=λa ha=>by have:=Iu ha;omega
    exact aV aE (fU _ k b) λk1=>bM (cz _ _) (aW aE (hk0 k1 b) λk2 b2=>aV aE (fU _ k2 b2) λk3=>bU aE (qlq _ (by omega) hna (λa ha=>hR _ (L2 ha) (N5 hg ha) (Re hs ha)) k3 b2) λk4 b4=>aV aE (fU _ k4 b4) λk5=>aN (mk:=Prod.mk) aE)
   rw[vab (by simpa using h)]
   have h25:e.Op=25:=by
    rename_i g6 g7 g8
    simp at hc g6 g7 g8 h
    omega
   rw[vad (by simp[h25])]
   have hl2:=hsh.k25 h25
   have hw:dt ((e.Kids.length:Int) - 1)=((e.Kids.length - 1:Nat):Int):=by rw[cC (by omega) (by omega)];omega
   rw[hw]
   have hlast:kE f e.Kids (e.Kids.length - 1)=f (e.Kids[e.Kids.length - 1]'(by omega)):=by
    unfold kE
    rw[vac (by omega)]
    rfl
   rw[hlast]
   exact aV aE (fU _ k b) λk1=>aW aE (PC _ k1 b) λk2 b2=>aV aE (fU _ k2 b2) λk3=>bM (XE _ _ (by omega)) (bU aE (OC _ (by rw[va4];omega) (λx hx=>hK x (vcc hx)) k3 b2) λk4 b4=>aV aE (fU _ k4 b4) λk5=>bM (aT _ _ (by omega)) (aW aE (hK _ (vag _) k5 b4) λk6 b6=>aN (mk:=Prod.mk) aE))
  have h25':e.Op≠6->e.Op≠7->e.Op≠8->e.Op≠9->e.Op=25:=by simp at hc;omega
  have key2:=(bU aE key λk1 b1=>aN (mk:=Prod.mk) aE).cast (ws':=_) (by rw[vak])
  by_cases h6:e.Op=6
  ·rw[vad h6];rw[vad h6]at key2;exact key2
  rw[vab h6];rw[vab h6]at key2
  by_cases h7:e.Op=7
  ·rw[vad h7];rw[vad h7]at key2;exact key2
  rw[vab h7];rw[vab h7]at key2
  by_cases h8:e.Op=8
  ·rw[vad h8];rw[vad h8]at key2;exact key2
  rw[vab h8];rw[vab h8]at key2
  by_cases h9:e.Op=9
  ·rw[vad h9];rw[vad h9]at key2;exact key2
  rw[vab h9];rw[vab h9]at key2
  rw[vad (h25' h6 h7 h8 h9)]
  exact key2
 have hno:e.Op≠6/\e.Op≠7/\e.Op≠8/\e.Op≠9/\e.Op≠25:=by simpa[and_assoc]using hc
 rw[vab hno.1,vab hno.2.1,vab hno.2.2.1,vab hno.2.2.2.1,vab hno.2.2.2.2]
 refine cM (λh=>?_) λh=>?_
 ·have h21:e.Op=21:=by simpa using h
  rw[vad h21]
  obtain⟨x,hx⟩:=hsh.k1 (by omega)
  have hxm:x∈e.Kids:=by rw[hx];simp
  rw[hx]
  refine bM (cz _ _) ?_
  show RS fb Prod.mk k b (if x.Op=16 then O4 f gV x.Kids 5 5 else[tW xS,Uu f 3 [x] 0]) _
  refine cM (λh16=>?_) λh16=>?_
  ·have h16':x.Op=16:=by simpa using h16
   rw[vad h16']
   obtain⟨y,z,hy⟩:=(hSK x hxm).k2 (by omega)
   have hgx:=eB hg hxm
   have hsx:=mL hs hxm
   have hlx:=oh hxm
   have m1:y∈x.Kids:=by rw[hy];simp
   have m2:z∈x.Kids:=by rw[hy];simp
   have r1:=hR y (by have:=oh m1;omega) (eB hgx m1) (mL hsx m1)
   have r2:=hR z (by have:=oh m2;omega) (eB hgx m2) (mL hsx m2)
   rw[hy]
   exact bM (cz _ _) (bM (YG _ _ _) ((bU aE (Xi gV y z 5 5 (gP (eB hgx m1)) (gP (eB hgx m2)) r1 r2 k b) λk1 b1=>aN (mk:=Prod.mk) aE).cast (by rw[vak])))
  ·rw[vab (by simpa using h16)]
   exact aV aE (fU _ k b) λk1=>aW aE (qhm 3 x (hSK x hxm) (hK x hxm) k1 b) λk2 b2=>aN (mk:=Prod.mk) aE
 rw[vab (by simpa using h)]
 refine cM (λh=>?_) λh=>?_
 ·have h15:e.Op=15:=by simpa using h
  rw[vad h15]
  obtain⟨x,hx⟩:=hsh.k1 (by omega)
  have hxm:x∈e.Kids:=by rw[hx];simp
  have r1:=qhm 7 x (hSK x hxm) (hK x hxm)
  rw[hx]
  exact aV aE (fU _ k b) λk1=>bM (cz _ _) (aW aE (r1 k1 b) λk2 b2=>aN (mk:=Prod.mk) aE)
 rw[vab (by simpa using h)]
 refine cM (λh=>?_) λh=>?_
 ·rw[vad (by simpa using h)]
  exact aV aE (fU _ k b) λk1=>(bU aE (OC _ (by omega) hK k1 b) λk3 b3=>aN (mk:=Prod.mk) aE).cast (by rw[vak])
 rw[vab (by simpa using h)]
 refine cM (λh=>?_) λh=>?_
 ·rw[vad (by simpa using h)]
  exact aV aE (fU _ k b) λk1=>(bU aE (OC _ (by omega) hK k1 b) λk3 b3=>aN (mk:=Prod.mk) aE).cast (by rw[vak])
 rw[vab (by simpa using h)]
 refine cM (λh=>?_) λh=>?_
 ·rw[vad (by simpa using h)]
  exact aV aE (fU _ k b) λk1=>(bU aE (OC _ (by omega) hK k1 b) λk3 b3=>aN (mk:=Prod.mk) aE).cast (by rw[vak])
 rw[vab (by simpa using h)]
 have h24:e.Op≠24:=by simpa using h
 refine cM (λh=>?_) λh=>?_
 ·have h26:e.Op=26:=by simpa using h
  rw[vad h26]
  obtain⟨x,hx⟩:=hsh.k1 (by omega)
  obtain⟨t,ht⟩:=hsh.t26 h26
  have hxm:x∈e.Kids:=by rw[hx];simp
  have hm:=hT t (by rw[ht];simp)
  have r1:=hK x hxm
  rw[hx,ht]
  exact aV aE (fU _ k b) λk1=>bM (cz _ _) (aW aE (r1 k1 b) λk2 b2=>aV aE (fU _ k2 b2) λk3=>bM (cz _ _) (aW aE (HV _ _ (J9 hm) hm k3 b2) λk4 b4=>aV aE (fU _ k4 b4) λk5=>aN (mk:=Prod.mk) aE))
 rw[vab (by simpa using h)]
 have hrest:(16<=e.Op/\e.Op<=18)\/(10<=e.Op/\e.Op<=14)\/(19<=e.Op/\e.Op<=20):=by
  have:=hsh.rng
  simp at *
  omega
 obtain⟨x,y,hx⟩:=hsh.k2 (by omega)
 have m1:x∈e.Kids:=by rw[hx];simp
 have m2:y∈e.Kids:=by rw[hx];simp
 have hsg:cX jF e.Op=some (qhE e.Op):=by
  have:e.Op=10\/e.Op=11\/e.Op=12\/e.Op=13\/e.Op=14\/e.Op=16\/e.Op=17\/e.Op=18\/e.Op=19\/e.Op=20:=by omega
  rcases this with h|h|h|h|h|h|h|h|h|h<;>rw[h]<;>rfl
 have hJ2:jH e.Op=some (e.Op==16||e.Op==17||e.Op==18):=by
  unfold jH
  cases e.Op==16<;>cases e.Op==17<;>rfl
 refine bM hJ2 (cM (λhc=>?_) λhc=>?_)
 ·rw[vad (by simpa[or_assoc]using hc)]
  have hb:=Xi (qhE e.Op) x y 5 5 (hSK x m1) (hSK y m2) (hK x m1) (hK y m2) k b
  rw[hx]
  exact bM (cz _ _) (bM hsg (bM (YG _ _ _) ((bU aE hb λk1 b1=>aN (mk:=Prod.mk) aE).cast (by rw[vak]))))
 ·rw[vab (by simpa[and_assoc]using hc)]
  have hlv:=qfs e hsh
  have hl9:0<=Q9 e/\Q9 e<=8:=by
   unfold Q9
   repeat' first|omega|split
  have hb:=Xi (qhE e.Op) x y (Q9 e) (Q9 e+1) (hSK x m1) (hSK y m2) (hK x m1) (hK y m2) k b
  rw[hx]
  refine bM (cz _ _) (bM hsg (bM (YG _ _ _) (bM hlv (bM hlv ?_))))
  rw[cC (by omega) (by omega)]
  exact(bU aE hb λk1 b1=>aN (mk:=Prod.mk) aE).cast (by rw[vak])
end
theorem qlr(e:ag)(n:Nat)(hn:nE e<=n)(hg:nq e)(hs:Lv e)(k:List Int)(b:Bool):RS fb Prod.mk k b [Lc n e] (sA e k b):=by
 have key:∀m n e k b,nE e<m->nE e<=n->nq e->Lv e->RS fb Prod.mk k b [Lc n e] (qbf pg m (e,k,b)):=by
  intro m
  induction m with
  |zero=>intro n e k b h;omega
  |succ m ih=>
   intro n e k b hm hn hg hs
   have hp:=Oe e
   obtain⟨n,rfl⟩:∃n',n=n'+1:=⟨n - 1,by omega⟩
   rw[TM]
   exact RS.one (qhl e hg hs (λx hx hgx hsx k b=>ih n x k b (by omega) (by omega) hgx hsx) k b)
 exact key _ n e k b (by have:=vax (HR e) hs;unfold ZC;omega) hn hg hs
section
variable{f:ag->Wr}{R:ag->ae->Bool->Option (ae×Bool)}
theorem qbJ(least:Int)(x:ag)(hx:qdo x)(hR:∀k b,RS gh Prod.mk k b [f x] (R x k b))(k:ae)(b:Bool):RS gh Prod.mk k b [qaf f least x] (iu R x least k b):=by
 unfold iu qaf
 refine bM (qbK x hx) (cM (λhc=>?_) λhc=>?_)
 ·rw[vad (by simpa using hc)]
  exact RS.one (aV aG (fZ _ k b) λk1=>aW aG (hR k1 b) λk2 b2=>aV aG (fZ _ k2 b2) λk3=>aN (mk:=Prod.mk) aG)
 ·rw[vab (by simpa using hc)]
  exact aW aG (hR k b) λk1 b1=>aN (mk:=Prod.mk) aG
theorem OT(l:List ag)(hl:l.length<9223372036854775808)(hR:∀x∈l,∀k b,RS gh Prod.mk k b [f x] (R x k b))(k:ae)(b:Bool):RS gh Prod.mk k b (BB f l) (fA R l k b):=by
 unfold fA BB
 refine aV aG (fZ _ k b) λk1=>bU aG (mk:=Prod.mk) ?_ λk2 b2=>aV aG (fZ _ k2 b2) λk3=>aN (mk:=Prod.mk) aG
 unfold qk
 refine sC aG l hl aU f (λi hi k b=>?_) (λk b=>?_)
 ·show RS _ _ _ _ _ (eX R l (l.length:Int) (i:Int) k b)
  unfold eX
  rw[vad (ZE hi)]
  exact bM (aT _ _ hi) (jL aG (OR i k b) λk1=>aW aG (hR _ (vag hi) k1 b) λk2 b2=>aN aG)
 ·show eX R l (l.length:Int) (l.length:Int) k b=_
  unfold eX
  rw[vab (ZD _)]
theorem qbM(l:List af)(hl:l.length<9223372036854775808)(hs:∀t∈l,y3 t)(k:ae)(b:Bool):RS gh Prod.mk k b (Im l) (n5 l k b):=by
 unfold n5 Im
 refine cM (λhc=>?_) λhc=>?_
 ·rw[vad (vai (by simp at hc;simp[hc]))]
  exact aN (mk:=Prod.mk) aG
 rw[vab (λe=>by rw[e]at hc;simp at hc)]
 refine aV aG (fZ _ k b) λk1=>bU aG (mk:=Prod.mk) ?_ λk2 b2=>aV aG (fZ _ k2 b2) λk3=>aN (mk:=Prod.mk) aG
 unfold oS
 refine sC aG l hl aU ZI (λi hi k b=>?_) (λk b=>?_)
 ·show RS _ _ _ _ _ (eL l (l.length:Int) (i:Int) k b)
  unfold eL
  have hm:=hs _ (vag hi)
  rw[vad (ZE hi)]
  exact bM (aT _ _ hi) (jL aG (OR i k b) λk1=>aW aG (Ie _ _ (J9 hm) hm k1 b) λk2 b2=>aN aG)
 ·show eL l (l.length:Int) (l.length:Int) k b=_
  unfold eL
  rw[vab (ZD _)]
theorem qhx(l:List ae)(h0:l≠[])(hl:l.length<9223372036854775808)(k:ae)(b:Bool):RS gh Prod.mk k b (tW cE::(xd aU (l.map (J2 false))++[tW dI])) (nY l k b):=by
 unfold nY
 refine aV aG (fZ _ k b) λk1=>bU aG (mk:=Prod.mk) ?_ λk2 b2=>aV aG (fZ _ k2 b2) λk3=>aN (mk:=Prod.mk) aG
 unfold oQ
 refine sC aG l hl aU (J2 false) (λi hi k b=>?_) (λk b=>?_)
 ·show RS _ _ _ _ _ (eK l (l.length:Int) (i:Int) k b)
  unfold eK
  rw[vad (ZE hi)]
  exact bM (aT _ _ hi) (jL aG (OR i k b) λk1=>aW aG (If _ false k1 b) λk2 b2=>aN aG)
 ·show eK l (l.length:Int) (l.length:Int) k b=_
  unfold eK
  rw[vab (ZD _)]
theorem qhz(l:List cP)(hl:l.length<9223372036854775808)(hs:∀p∈l,y3 p.Type_)(k:ae)(b:Bool):RS gh Prod.mk k b (xd aU (l.map UE)) (mw l (l.length:Int) 0 k b):=by
 unfold mw
 refine sC aG l hl aU UE (λi hi k b=>?_) (λk b=>?_)
 ·show RS _ _ _ _ _ (ft l (l.length:Int) (i:Int) k b)
  unfold ft
  have hm:=hs _ (vag hi)
  rw[vad (ZE hi)]
  refine bM (aT _ _ hi) (jL aG (OR i k b) λk1=>RS.of1' ?_)
  refine aW aG (If _ false k1 b) λk2 b2=>bM (Wi _ (qap (vax hm (by unfold cW;omega)))) (cM (λhc=>?_) λhc=>?_)
  ·rw[vab (by simpa using hc)]
   exact aV aG (fZ _ k2 b2) λk3=>aW aG (Ie _ _ (J9 hm) hm k3 b2) λk4 b4=>aN aG
  ·rw[vad (by simpa using hc)]
   exact aN aG
 ·show ft l (l.length:Int) (l.length:Int) k b=_
  unfold ft
  rw[vab (ZD _)]
theorem qly(l:List cK)(hl:l.length<9223372036854775808)(hn:∀a∈l,a.Names.length<9223372036854775808)(hR:∀a∈l,∀k b,RS gh Prod.mk k b [f a.Body] (R a.Body k b))(k:ae)(b:Bool):RS gh Prod.mk k b (xd kP (l.map (Wk f))) (j6 R l (l.length:Int) 0 k b):=by
 unfold j6
 refine sC aG l hl kP (Wk f) (λi hi k b=>?_) (λk b=>?_)
 ·show RS _ _ _ _ _ (eJ R l (l.length:Int) (i:Int) k b)
  unfold eJ
  rw[vad (ZE hi)]
  have hm:=vag hi
  refine bM (aT _ _ hi) (jL aG (qbH kP i k b) λk1=>RS.of1' ?_)
  refine aW aG (If _ true k1 b) λk2 b2=>bU aG (mk:=Prod.mk) ?_ λk3 b3=>aV aG (fZ _ k3 b3) λk4=>aW aG (hR _ hm k4 b3) λk5 b5=>aN aG
  unfold oO Og
  refine cM (λhc=>?_) λhc=>?_
  ·have h0:l[i].Names≠[]:=λe0=>by rw[e0]at hc;simp at hc
   rw[vab h0]
   refine RS.cast (ws:=tW dh::((tW cE::(xd aU (l[i].Names.map (J2 false))++[tW dI]))++[])) (aV aG (fZ _ k2 b2) λk3=>bU aG (qhx _ h0 (hn _ hm) k3 b2) λk4 b4=>aN (mk:=Prod.mk) aG) ?_
   rw[vak,ik,ik,ik]
   rfl
  ·rw[vad (vai (by simp at hc;simp[hc]))]
   exact aN (mk:=Prod.mk) aG
 ·show eJ R l (l.length:Int) (l.length:Int) k b=_
  unfold eJ
  rw[vab (ZD _)]
theorem qlI(e:ag)(sg:ae)(a c:ag)(x y:Int)(he:e.Kids=[a,c])(ha:qdo a)(hc:qdo c)(hRa:∀k b,RS gh Prod.mk k b [f a] (R a k b))(hRc:∀k b,RS gh Prod.mk k b [f c] (R c k b))(k:ae)(b:Bool):RS gh Prod.mk k b (O4 f sg e.Kids x y) (cY R e sg x y k b):=by
 unfold cY O4
 rw[he]
 exact bM (cz _ _) (aW aG (qbJ x a ha hRa k b) λk1 b1=>aV aG (qil _ _ _ k1 b1) λk2=>bM (YG _ _ _) (aW aG (qbJ y c hc hRc k2 b1) λk3 b3=>aN (mk:=Prod.mk) aG))
theorem qqO(e:ag)(hg:nq e)(hs:Lv e)(hR:∀x,nE x<nE e->nq x->Lv x->∀k b,RS gh Prod.mk k b [f x] (R x k b))(h0:e.Op=7\/e.Op=8\/e.Op=9\/e.Op=6\/e.Op=25)(k:ae)(b:Bool):RS gh Prod.mk k b (td f e) (rF R e k b):=by
 have hsh:=gP hg
 have hB:nE e<=16777216:=vax (HR e) hs
 have hK:∀x∈e.Kids,∀k b,RS gh Prod.mk k b [f x] (R x k b):=λx hx=>hR x (oh hx) (eB hg hx) (mL hs hx)
 have hkl:=y0 e
 have hal:=n9 e
 have hpl:=kT e
 have htl:=uI e
 unfold rF td
 rcases h0 with h|h|h|h|h
 ·rw[h]
  simp only[Int.reduceEq,Int.reduceBEq,vaq,reduceIte,vcY,or_true,true_or,or_false,false_or]
  obtain⟨x,y,hx⟩:=hsh.k2 (.inl h)
  have hk0:∀k b,RS gh Prod.mk k b [f x] (R x k b):=hK x (by rw[hx];simp)
  have hk1:∀k b,RS gh Prod.mk k b [f y] (R y k b):=hK y (by rw[hx];simp)
  refine(bU (mk:=Prod.mk) aG ?_ λk1 b1=>aN (mk:=Prod.mk) aG).cast (by rw[vak])
  unfold zC
  rw[hx]
  refine aV aG (fZ _ k b) λk1=>aW aG (If _ false k1 b) λk2 b2=>bU aG (mk:=Prod.mk) ?_ λk3 b3=>aV aG (fZ _ k3 b3) λk4=>bM (cz _ _) (aW aG (hk0 k4 b3) λk5 b5=>aV aG (fZ _ k5 b5) λk6=>bM (YG _ _ _) (aW aG (hk1 k6 b5) λk7 b7=>aN (mk:=Prod.mk) aG))
  unfold rE
  cases hty:e.Types with
  |nil=>
   rw[vab (by simp)]
   exact aN (mk:=Prod.mk) aG
  |cons t l=>
   have hm:y3 t:=Aj hs (by rw[hty];simp)
   rw[vad (by simp)]
   exact aV aG (fZ _ k2 b2) λk3=>bM (cz _ _) (aW aG (Ie _ _ (J9 hm) hm k3 b2) λk4 b4=>aN (mk:=Prod.mk) aG)
 ·rw[h]
  simp only[Int.reduceEq,Int.reduceBEq,vaq,reduceIte,vcY,or_true,true_or,or_false,false_or]
  obtain⟨x,y,z,hx⟩:=hsh.k3 h
  have hk0:∀k b,RS gh Prod.mk k b [f x] (R x k b):=hK x (by rw[hx];simp)
  have hk1:∀k b,RS gh Prod.mk k b [f y] (R y k b):=hK y (by rw[hx];simp)
  have hk2:∀k b,RS gh Prod.mk k b [f z] (R z k b):=hK z (by rw[hx];simp)
  rw[hx]
  exact aV aG (fZ _ k b) λk1=>bM (cz _ _) (aW aG (hk0 k1 b) λk2 b2=>aV aG (fZ _ k2 b2) λk3=>bM (YG _ _ _) (aW aG (hk1 k3 b2) λk4 b4=>aV aG (fZ _ k4 b4) λk5=>bM (qlf _ _ _ _) (aW aG (hk2 k5 b4) λk6 b6=>aN (mk:=Prod.mk) aG)))
 ·rw[h]
  simp only[Int.reduceEq,Int.reduceBEq,vaq,reduceIte,vcY,or_true,true_or,or_false,false_or]
  obtain⟨x,hx⟩:=hsh.k1 (.inr (.inl h))
  have hk0:∀k b,RS gh Prod.mk k b [f x] (R x k b):=hK x (by rw[hx];simp)
  refine(bU (mk:=Prod.mk) aG ?_ λk1 b1=>aN (mk:=Prod.mk) aG).cast (by rw[vak])
  unfold tZ
  rw[hx]
  have hna:∀a∈e.Alts,a.Names.length<9223372036854775808:=λa ha=>by have:=Iu ha;omega
  exact aV aG (fZ _ k b) λk1=>bM (cz _ _) (aW aG (hk0 k1 b) λk2 b2=>aV aG (fZ _ k2 b2) λk3=>bU aG (qly _ (by omega) hna (λa ha=>hR _ (L2 ha) (N5 hg ha) (Re hs ha)) k3 b2) λk4 b4=>aV aG (fZ _ k4 b4) λk5=>aN (mk:=Prod.mk) aG)
 ·rw[h]
  simp only[Int.reduceEq,Int.reduceBEq,vaq,reduceIte,vcY,or_true,true_or,or_false,false_or]
  obtain⟨x,hx⟩:=hsh.k1 (.inl h)
  have hk0:∀k b,RS gh Prod.mk k b [f x] (R x k b):=hK x (by rw[hx];simp)
  refine(bU (mk:=Prod.mk) aG ?_ λk1 b1=>aN (mk:=Prod.mk) aG).cast (by rw[vak])
  unfold zB
  rw[hx]
  exact aV aG (fZ _ k b) λk1=>bU aG (qhz _ (by omega) (λp hp=>Rf hs hp) k1 b) λk2 b2=>aV aG (fZ _ k2 b2) λk3=>bM (cz _ _) (aW aG (hk0 k3 b2) λk4 b4=>aN (mk:=Prod.mk) aG)
 ·rw[h]
  simp only[Int.reduceEq,Int.reduceBEq,vaq,reduceIte,vcY,or_true,true_or,or_false,false_or]
  have hl2:=hsh.k25 h
  have hw:dt ((e.Kids.length:Int) - 1)=((e.Kids.length - 1:Nat):Int):=by rw[cC (by omega) (by omega)];omega
  rw[hw]
  have hlast:kE f e.Kids (e.Kids.length - 1)=f (e.Kids[e.Kids.length - 1]'(by omega)):=by
   unfold kE
   rw[vac (by omega)]
   rfl
  rw[hlast]
  exact aV aG (fZ _ k b) λk1=>aW aG (If _ false k1 b) λk2 b2=>aV aG (fZ _ k2 b2) λk3=>bM (XE _ _ (by omega)) (bU aG (OT _ (by rw[va4];omega) (λx hx=>hK x (vcc hx)) k3 b2) λk4 b4=>aV aG (fZ _ k4 b4) λk5=>bM (aT _ _ (by omega)) (aW aG (hK _ (vag _) k5 b4) λk6 b6=>aN (mk:=Prod.mk) aG))
theorem qlA(e:ag)(hg:nq e)(hs:Lv e)(hR:∀x,nE x<nE e->nq x->Lv x->∀k b,RS gh Prod.mk k b [f x] (R x k b))(h0:e.Op=1\/e.Op=2\/e.Op=3\/e.Op=4\/e.Op=5\/e.Op=22\/e.Op=23\/e.Op=24\/e.Op=26)(k:ae)(b:Bool):RS gh Prod.mk k b (td f e) (pX R e k b):=by
 have hsh:=gP hg
 have hB:nE e<=16777216:=vax (HR e) hs
 have hK:∀x∈e.Kids,∀k b,RS gh Prod.mk k b [f x] (R x k b):=λx hx=>hR x (oh hx) (eB hg hx) (mL hs hx)
 have hT:∀t∈e.Types,y3 t:=λt ht=>Aj hs ht
 have hkl:=y0 e
 have htl:=uI e
 unfold pX td
 refine cM (λh=>?_) λh=>?_
 ·have h1:e.Op=1:=by simpa using h
  have hz:=hsh.n1 h1
  rw[vad h1]
  unfold Ta
  refine cM (λhn=>?_) λhn=>?_
  ·rw[vad (by simpa using hn)]
   exact bM (TA hz) (aV aG (qil _ _ _ k b) λk1=>aN (mk:=Prod.mk) aG)
  ·rw[vab (by simpa using hn)]
   exact bM (TA hz) (aV aG (fZ _ k b) λk1=>aN (mk:=Prod.mk) aG)
 rw[vab (by simpa using h)]
 refine cM (λh=>?_) λh=>?_
 ·rw[vad (by simpa using h)]
  refine cM (λhn=>?_) λhn=>?_
  ·rw[vad (by simpa using hn)]
   exact aV aG (fZ _ k b) λk1=>aN (mk:=Prod.mk) aG
  ·rw[vab (by simpa using hn)]
   exact aV aG (fZ _ k b) λk1=>aN (mk:=Prod.mk) aG
 rw[vab (by simpa using h)]
 refine cM (λh=>?_) λh=>?_
 ·rw[vad (by simpa using h)]
  exact aW aG (If _ false k b) λk1 b1=>aN (mk:=Prod.mk) aG
 rw[vab (by simpa using h)]
 have hJ:lc e.Op=some (e.Op==4||e.Op==5):=by
  unfold lc
  cases e.Op==4<;>rfl
 refine bM hJ (cM (λhc=>?_) λhc=>?_)
 ·by_cases h4:e.Op=4
  ·rw[vad h4,show(e.Op==4)=true by simp[h4]]
   refine aW aG (If _ true k b) λk1 b1=>bU aG (qbM _ (by omega) hT k1 b1) λk2 b2=>cM (λhk=>?_) λhk=>?_
   ·rw[vab (λe0=>by rw[e0]at hk;simp at hk)]
    exact(bU aG (OT _ (by omega) hK k2 b2) λk3 b3=>aN (mk:=Prod.mk) aG).cast (by rw[vak])
   ·rw[vad (vai (by simp at hk;simp[hk]))]
    exact aN (mk:=Prod.mk) aG
  ·have h5:e.Op=5:=by simp at hc;omega
   have hk5:=hsh.k5 h5
   rw[vab h4,vad h5,show(e.Op==4)=false by simp[h4]]
   refine aW aG (If _ false k b) λk1 b1=>bU aG (qbM _ (by omega) hT k1 b1) λk2 b2=>cM (λhk=>?_) λhk=>?_
   ·exact(bU aG (OT _ (by omega) hK k2 b2) λk3 b3=>aN (mk:=Prod.mk) aG).cast (by rw[vak])
   ·simp at hk
    rw[hk]at hk5
    simp at hk5
 have hno:e.Op≠4/\e.Op≠5:=by simpa using hc
 have hop:e.Op=22\/e.Op=23\/e.Op=24\/e.Op=26:=by simp at *;omega
 rw[vab hno.1,vab hno.2,vab (by omega),vab (by omega),vab (by omega),vab (by omega),vab (by omega),vab (by omega),vab (by omega)]
 refine cM (λh=>?_) λh=>?_
 ·rw[vad (by simpa using h)]
  exact aV aG (fZ _ k b) λk1=>(bU aG (OT _ (by omega) hK k1 b) λk3 b3=>aN (mk:=Prod.mk) aG).cast (by rw[vak])
 rw[vab (by simpa using h)]
 refine cM (λh=>?_) λh=>?_
 ·rw[vad (by simpa using h)]
  exact aV aG (fZ _ k b) λk1=>(bU aG (OT _ (by omega) hK k1 b) λk3 b3=>aN (mk:=Prod.mk) aG).cast (by rw[vak])
 rw[vab (by simpa using h)]
 refine cM (λh=>?_) λh=>?_
 ·rw[vad (by simpa using h)]
  exact aV aG (fZ _ k b) λk1=>(bU aG (OT _ (by omega) hK k1 b) λk3 b3=>aN (mk:=Prod.mk) aG).cast (by rw[vak])
 rw[vab (by simpa using h)]
 have h26:e.Op=26:=by simp at *;omega
 rw[vad h26,vad (show(e.Op==26)=true by simp[h26])]
 obtain⟨x,hx⟩:=hsh.k1 (by omega)
 obtain⟨t,ht⟩:=hsh.t26 h26
 have hxm:x∈e.Kids:=by rw[hx];simp
 have hm:=hT t (by rw[ht];simp)
 have r1:=hK x hxm
 rw[hx,ht]
 exact aV aG (fZ _ k b) λk1=>bM (cz _ _) (aW aG (r1 k1 b) λk2 b2=>aV aG (fZ _ k2 b2) λk3=>bM (cz _ _) (aW aG (Ie _ _ (J9 hm) hm k3 b2) λk4 b4=>aV aG (fZ _ k4 b4) λk5=>aN (mk:=Prod.mk) aG))
theorem qtQ(e:ag)(hg:nq e)(hs:Lv e)(hR:∀x,nE x<nE e->nq x->Lv x->∀k b,RS gh Prod.mk k b [f x] (R x k b))(h0:(10<=e.Op/\e.Op<=20)\/e.Op=21)(k:ae)(b:Bool):RS gh Prod.mk k b (td f e) (jx R e k b):=by
 have hsh:=gP hg
 have hK:∀x∈e.Kids,∀k b,RS gh Prod.mk k b [f x] (R x k b):=λx hx=>hR x (oh hx) (eB hg hx) (mL hs hx)
 have hSK:∀x∈e.Kids,qdo x:=λx hx=>gP (eB hg hx)
 unfold jx td
 by_cases h21:e.Op=21
 ·rw[h21]
  simp only[Int.reduceEq,Int.reduceBEq,vaq,reduceIte,vcY,or_true,true_or,or_false,false_or]
  obtain⟨x,hx⟩:=hsh.k1 (by omega)
  have hxm:x∈e.Kids:=by rw[hx];simp
  have hu:nj e=some (x.Op==16):=by
   unfold nj
   rw[vad (by simp[h21]),hx,vad (by simp),cz]
   rfl
  refine bM hu ?_
  rw[hx]
  show RS gh Prod.mk k b (if x.Op=16 then O4 f gV x.Kids 5 5 else[tW xS,Uu f 3 [x] 0]) _
  refine cM (λh16=>?_) λh16=>?_
  ·have h16':x.Op=16:=by simpa using h16
   rw[vad h16']
   obtain⟨y,z,hy⟩:=(hSK x hxm).k2 (by omega)
   have hgx:=eB hg hxm
   have hsx:=mL hs hxm
   have hlx:=oh hxm
   have m1:y∈x.Kids:=by rw[hy];simp
   have m2:z∈x.Kids:=by rw[hy];simp
   have r1:=hR y (by have:=oh m1;omega) (eB hgx m1) (mL hsx m1)
   have r2:=hR z (by have:=oh m2;omega) (eB hgx m2) (mL hsx m2)
   exact bM (cz _ _) ((bU aG (qlI x gV y z 5 5 hy (gP (eB hgx m1)) (gP (eB hgx m2)) r1 r2 k b) λk1 b1=>aN (mk:=Prod.mk) aG).cast (by rw[vak]))
  ·rw[vab (by simpa using h16)]
   exact aV aG (fZ _ k b) λk1=>bM (cz _ _) (aW aG (qbJ 3 x (hSK x hxm) (hK x hxm) k1 b) λk2 b2=>aN (mk:=Prod.mk) aG)
 by_cases h15:e.Op=15
 ·rw[h15]
  simp only[Int.reduceEq,Int.reduceBEq,vaq,reduceIte,vcY,or_true,true_or,or_false,false_or]
  obtain⟨x,hx⟩:=hsh.k1 (by omega)
  have hxm:x∈e.Kids:=by rw[hx];simp
  have r1:=qbJ 7 x (hSK x hxm) (hK x hxm)
  rw[hx]
  exact aV aG (fZ _ k b) λk1=>bM (cz _ _) (aW aG (r1 k1 b) λk2 b2=>aN (mk:=Prod.mk) aG)
 obtain⟨x,y,hx⟩:=hsh.k2 (by omega)
 have m1:x∈e.Kids:=by rw[hx];simp
 have m2:y∈e.Kids:=by rw[hx];simp
 have hb:∀sg u v,RS gh Prod.mk k b (O4 f sg e.Kids u v) ((cY R e sg u v k b).bind λr2=>some (r2.1,r2.2)):=λsg u v=>(bU aG (qlI e sg x y u v hx (hSK x m1) (hSK y m2) (hK x m1) (hK y m2) k b) λk1 b1=>aN (mk:=Prod.mk) aG).cast (by rw[vak])
 have hl:Q9 e=(if e.Op=20 then 1 else if e.Op=19 then 2 else if e.Op=16\/e.Op=17\/e.Op=18 then 4 else if e.Op=10\/e.Op=11 then 5 else 6):=by
  unfold Q9
  rw[vab (by omega)]
  by_cases c1:e.Op=20
  ·rw[vad c1,vad c1]
  rw[vab c1,vab c1]
  by_cases c2:e.Op=19
  ·rw[vad c2,vad c2]
  rw[vab c2,vab c2,vab h21]
  by_cases c3:e.Op=16\/e.Op=17\/e.Op=18
  ·rw[vad c3,vad c3]
  rw[vab c3,vab c3]
  by_cases c4:e.Op=10\/e.Op=11
  ·rw[vad c4,vad c4]
  rw[vab c4,vab c4,vad (by omega)]
 have:e.Op=10\/e.Op=11\/e.Op=12\/e.Op=13\/e.Op=14\/e.Op=16\/e.Op=17\/e.Op=18\/e.Op=19\/e.Op=20:=by omega
 rcases this with h|h|h|h|h|h|h|h|h|h<;>rw[h]at hl ⊢<;>simp only[Int.reduceEq,Int.reduceBEq,vaq,reduceIte,vcY,or_true,true_or,or_false,false_or]<;>(try rw[hl])<;>exact hb _ _ _
theorem qhv(e:ag)(hg:nq e)(hs:Lv e)(hR:∀x,nE x<nE e->nq x->Lv x->∀k b,RS gh Prod.mk k b [f x] (R x k b))(k:ae)(b:Bool):RS gh Prod.mk k b (td f e) (gE R e k b):=by
 have hsh:=gP hg
 unfold gE
 refine cM (λhb=>?_) λhb=>?_
 ·subst hb
  exact Xz (ws':=[]) (aN (mk:=Prod.mk) aG) (.inl rfl) (by simp[dz])
 have hrng:=hsh.rng
 have l0:(e.Op=7\/e.Op=8\/e.Op=9\/e.Op=6\/e.Op=25)->Q9 e=0:=λc=>by unfold Q9;rw[vad c]
 have l1:¬(e.Op=7\/e.Op=8\/e.Op=9\/e.Op=6\/e.Op=25)->Q9 e≠0:=λc=>by
  unfold Q9
  rw[vab c]
  repeat' first|omega|split
 have l8:(e.Op=1\/e.Op=2\/e.Op=3\/e.Op=4\/e.Op=5\/e.Op=22\/e.Op=23\/e.Op=24\/e.Op=26)->Q9 e=8:=λc=>by
  unfold Q9
  rw[vab (by omega),vab (by omega),vab (by omega),vab (by omega),vab (by omega),vab (by omega),vab (by omega),vab (by omega)]
 have l2:((10<=e.Op/\e.Op<=20)\/e.Op=21)->Q9 e≠8:=λc=>by
  unfold Q9
  rw[vab (by omega)]
  repeat' first|omega|split
 refine bM (qbK e hsh) (cM (λh=>?_) λh=>?_)
 ·have h0:e.Op=7\/e.Op=8\/e.Op=9\/e.Op=6\/e.Op=25:=Decidable.byContradiction λc=>l1 c (by simpa using h)
  exact(bU aG (qqO e hg hs hR h0 k b) λk1 b1=>aN (mk:=Prod.mk) aG).cast (by rw[vak])
 have hn0:¬(e.Op=7\/e.Op=8\/e.Op=9\/e.Op=6\/e.Op=25):=λc=>by
  rw[l0 c]at h
  simp at h
 refine cM (λh8=>?_) λh8=>?_
 ·have h0:e.Op=1\/e.Op=2\/e.Op=3\/e.Op=4\/e.Op=5\/e.Op=22\/e.Op=23\/e.Op=24\/e.Op=26:=by
   have h:Q9 e=8:=by simpa using h8
   have:=λc=>l2 c h
   omega
  exact(bU aG (qlA e hg hs hR h0 k b) λk1 b1=>aN (mk:=Prod.mk) aG).cast (by rw[vak])
 ·have h0:(10<=e.Op/\e.Op<=20)\/e.Op=21:=by
   have h:Q9 e≠8:=by simpa using h8
   have:=λc=>h (l8 c)
   omega
  exact(bU aG (qtQ e hg hs hR h0 k b) λk1 b1=>aN (mk:=Prod.mk) aG).cast (by rw[vak])
end
theorem qlE(e:ag)(n:Nat)(hn:nE e<=n)(hg:nq e)(hs:Lv e)(k:ae)(b:Bool):RS gh Prod.mk k b [Lc n e] (lI e k b):=by
 have key:∀m n e k b,nE e<m->nE e<=n->nq e->Lv e->RS gh Prod.mk k b [Lc n e] (qbf jv m (e,k,b)):=by
  intro m
  induction m with
  |zero=>intro n e k b h;omega
  |succ m ih=>
   intro n e k b hm hn hg hs
   have hp:=Oe e
   obtain⟨n,rfl⟩:∃n',n=n'+1:=⟨n - 1,by omega⟩
   rw[TM]
   exact RS.one (qhv e hg hs (λx hx hgx hsx k b=>ih n x k b (by omega) (by omega) hgx hsx) k b)
 exact key _ n e k b (by have:=vax (HR e) hs;unfold ZC;omega) hn hg hs
end Go.Proofs.YtibglelmlnfojaaGreatDoor
