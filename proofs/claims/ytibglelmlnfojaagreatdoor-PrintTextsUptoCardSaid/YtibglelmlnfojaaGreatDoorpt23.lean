/- PROVED: a part of the proof. Conditions: none. -/
import Derived.Test.YtibglelmlnfojaaGreatDoorpt22
import Derived.Test.YtibglelmlnfojaaGreatDoorpt19
set_option linter.unusedSimpArgs false
set_option linter.unusedVariables false
noncomputable section
namespace Go.Proofs.YtibglelmlnfojaaGreatDoor
open Go
set_option linter.unusedVariables false
set_option linter.unusedSimpArgs false
abbrev wl(w:Wr):Nat:=w.1.length
theorem dj:∀(ws:List Wr),wl (dz ws)=(ws.map wl).sum
 |[]=>rfl
 |w::ws=>by
  have:=dj ws
  show(dz (w::ws)).1.length=_
  rw[ik]
  simp only[vam,vae,List.sum_cons]
  exact vaW (w.1.length+·) this
theorem qaG{α:Type}{g h:α->Nat}:∀{l:List α},(∀x∈l,g x<=h x)->(l.map g).sum<=(l.map h).sum
 |[],_=>vay _
 |x::l,hh=>by
  have h1:=hh x (by simp)
  have h2:=qaG (l:=l) (λy hy=>hh y (vaL _ hy))
  simp only[vae,List.sum_cons]
  omega
theorem Ze{α:Type}(c:α->List PVal):∀(l:List α),(l.map λx=>fP (c x)).sum<=eu (l.map c)
 |[]=>va0 _
 |x::l=>by
  have:=Ze c l
  simp only[vae,List.sum_cons,eu]
  omega
theorem qbP(k:Nat){α:Type}(g:α->Nat):∀(l:List α),(l.map λx=>k * g x).sum=k * (l.map g).sum
 |[]=>rfl
 |x::l=>by
  simp only[vae,List.sum_cons,qbP k g l,Nat.mul_add]
theorem Mr{α:Type}(c:α->List PVal)(g:α->Nat)(l:List α)(h:∀x∈l,g x<=64 * fP (c x)):(l.map g).sum<=64 * eu (l.map c):=by
 have h1:=qaG h
 rw[qbP]at h1
 have h2:=Ze c l
 have:=vcS 64 h2
 omega
theorem M6{α:Type}(c:α->List PVal)(s:ae)(f:α->Wr)(l:List α)(h:∀x∈l,wl (f x)+s.length<=64 * fP (c x)):wl (dz (xd s (l.map f)))<=64 * eu (l.map c):=by
 have h1:=TI s (l.map f)
 rw[vbz]at h1
 exact vax h1 (Mr c _ l h)
theorem qrv(p:aa):4<=fP (ac p):=by have:=z7 p;omega
theorem qhQ(p:aa)(h:fP (ac p)<=16777216):wl (qdv p)<=40 * fP (ac p):=by
 have:=qrv p
 unfold qdv
 split
 ·show nR.length<=_
  simp only[nR,vaG,List.length_nil]
  omega
 ·exact VG p h
theorem qhr(l:List aa)(h:∀p∈l,fP (ac p)<=16777216):wl (dz (qfy l))<=64 * eu (l.map ac)+3:=by
 unfold qfy
 split
 ·simp[dz,wl]
 ·have:=M6 ac aU (λp=>dz [tW jn,qdv p]) l (λp hp=>by
   have h1:=qhQ p (h p hp)
   have h2:=qrv p
   rw[dj]
   simp only[vae,vaP,List.sum_cons,List.sum_nil,show wl (tW jn)=3 from rfl,show aU.length=2 from rfl]
   omega)
  rw[dj]at this ⊢
  simp only[vae,vaA,vaP,List.sum_cons,vaJ,List.sum_nil,show wl (tW DV)=2 from rfl,show wl (tW VN)=1 from rfl]
  omega
theorem YY:∀(l:List ae),(l.map λs=>s.length+1).sum<=eu (l.map cS)
 |[]=>va0 _
 |s::l=>by
  have:=YY l
  simp only[vae,List.sum_cons,eu,cS,fP,pm]
  omega
theorem VU(ns:List ae):∀(l:List af) (i:Nat),((l.zipIdx i).map λx=>(ns.getD x.2 []).length).sum<=((ns.drop i).map λs=>s.length+1).sum
 |[],i=>va0 _
 | t :: l,i => by
  rw[List.zipIdx_cons,vae,List.sum_cons]
  have ih:=VU ns l (i+1)
  by_cases hi:i<ns.length
  ·rw[vaH hi,vae,List.sum_cons]
   have:ns.getD i []=ns[i]:=by simp[List.getD,hi]
   simp only[]
   rw[this]
   omega
  ·have e1:ns.drop i=[]:=vbP (by omega)
   have e2:ns.drop (i+1)=[]:=vbP (by omega)
   have e3:ns.getD i []=[]:=by simp[List.getD,vaZ (vbK hi)]
   rw[e1]
   rw[e2]at ih
   simp only[]
   rw[e3]
   simpa using ih
theorem qbO:∀(n:Nat) (t:af),y3 t->wl (Ld n t)+8<=64 * fP (ai t)
 |0,t,h=>by
  have:=PB t
  show 0+8<=_
  omega
 | n + 1,t,h => by
  have hf:∀a∈t.Args,wl (Ld n a)+8<=64 * fP (ai a):=λa ha=>qbO n a (Nb h ha)
  have hp:=qhr t.Preds (λp hp=>I0 h hp)
  have hm:=PB t
  have hw:=VG t.Pred (wy h)
  have hnp:=YY t.Names
  have hcore:wl (dz (C8 (Ld n) t))<=t.Name.length+64 * eu (t.Args.map ai)+64 * eu (t.Preds.map ac)+eu (t.Names.map cS)+20:=by
   unfold C8
   split
   ·rw[gW];show 3<=_;omega
   split
   ·rw[gW];show 4<=_;omega
   split
   ·rw[gW];show 4<=_;omega
   split
   ·rw[gW];show t.Name.length<=_;omega
   split
   ·unfold Yo
    have ha:=Mr ai (λa=>wl (tW dh)+wl (qdp (Ld n) a)) t.Args (λa ha=>by
     have h1:=hf a ha
     unfold qdp
     split
     ·rw[dj]
      simp only[vae,vaP,List.sum_cons,List.sum_nil,show wl (tW dh)=1 from rfl,show wl (tW cE)=1 from rfl,show wl (tW dI)=1 from rfl]
      omega
     ·rw[show wl (tW dh)=1 from rfl];omega)
    have e:((t.Args.flatMap λa=>[tW dh,qdp (Ld n) a]).map wl).sum=(t.Args.map λa=>wl (tW dh)+wl (qdp (Ld n) a)).sum:=by
     generalize t.Args=l
     induction l with
     |nil=>rfl
     |cons a l ih=>rw[vbW,vaA,vaJ,ih];simp
    rw[dj]at hp ⊢
    rw[vae,List.sum_cons,vaA,vaJ,e]
    show t.Name.length+_<=_
    omega
   split
   ·unfold YB
    rename_i h6
    rw[dj]
    have hz:=VU t.Names (t.Args.take (t.Args.length - 1)) 0
    rw[vbi]at hz
    have hs:=TI aU ((t.Args.take (t.Args.length - 1)).zipIdx.map (Sc (Ld n) t.Names))
    rw[vbz]at hs
    have h1:(((t.Args.take (t.Args.length - 1)).zipIdx).map λx=>wl (Sc (Ld n) t.Names x)+2).sum<=(((t.Args.take (t.Args.length - 1)).zipIdx).map λx=>(t.Names.getD x.2 []).length).sum+(((t.Args.take (t.Args.length - 1)).zipIdx).map λx=>wl (Ld n x.1)+5).sum:=by
     generalize (t.Args.take (t.Args.length - 1)).zipIdx=l
     induction l with
     |nil=>simp
     | cons x l ih =>
      have hx:wl (Sc (Ld n) t.Names x)<=(t.Names.getD x.2 []).length+3+wl (Ld n x.1):=by
       unfold Sc
       rw[dj,vaA,vaJ]
       split
       ·simp
       ·simp only[vae,vaP,List.sum_cons,List.sum_nil,show wl (tW bX)=3 from rfl]
        show(t.Names.getD x.2 []).length+_+_<=_
        omega
      simp only[vae,List.sum_cons]
      omega
    have h2:(((t.Args.take (t.Args.length - 1)).zipIdx).map λx=>wl (Ld n x.1)+5).sum=((t.Args.take (t.Args.length - 1)).map λa=>wl (Ld n a)+5).sum:=by
     rw[show(λx:af×Nat=>wl (Ld n x.1)+5)=(λa=>wl (Ld n a)+5)∘Prod.fst from rfl,<-vbz,vcX]
    have h3:((t.Args.take (t.Args.length - 1)).map λa=>wl (Ld n a)+5).sum+wl (SS (Ld n) t.Args)<=(t.Args.map λa=>wl (Ld n a)+5).sum:=by
     unfold SS
     cases hl:t.Args with
     |nil=>simp[wl]
     |cons a l=>
      have e1:(a::l)[(a::l).length - 1]? =some ((a::l).getLast (by simp)):=by rw[vb3,vac (by simp)]
      rw[e1]
      have e2:(a::l)=(a::l).take ((a::l).length - 1)++[(a::l).getLast (by simp)]:=by rw[<-vcP];exact(vbr _).symm
      conv=>rhs;rw[e2]
      simp only[vaA,vaJ,vae,vaP,List.sum_cons,List.sum_nil,vaj,Option.getD_some]
      omega
    have h4:=Mr ai (λa=>wl (Ld n a)+5) t.Args (λa ha=>by have:=hf a ha;omega)
    have hs':wl (dz (xd aU ((t.Args.take (t.Args.length - 1)).zipIdx.map (Sc (Ld n) t.Names))))<=_:=hs
    rw[dj]at hs'
    have e5:(((t.Args.take (t.Args.length - 1)).zipIdx).map ((λw:Wr=>w.1.length+aU.length)∘Sc (Ld n) t.Names)).sum=(((t.Args.take (t.Args.length - 1)).zipIdx).map λx=>wl (Sc (Ld n) t.Names x)+2).sum:=rfl
    rw[e5]at hs'
    simp only[vae,vaA,vaP,List.sum_cons,vaJ,List.sum_nil,show wl (tW cE)=1 from rfl,show wl (tW cG)=5 from rfl]
    omega
   ·show 0<=_;omega
  rw[Nc,dj]
  unfold uJ
  rw[dj]at hcore
  have hpw:wl (pW t.Pred)<=40 * fP (ac t.Pred):=hw
  split
  ·rw[vae,List.sum_cons,vaA,vaJ,vaA,vaJ]
   simp only[vaP,List.sum_nil]
   show 0+_+8<=_
   omega
  ·rw[vae,List.sum_cons,vaA,vaJ,vaA,vaJ]
   simp only[vae,vaP,List.sum_cons,List.sum_nil,show wl (tW fG)=5 from rfl,show wl (tW kY)=3 from rfl,show wl (tW PL)=1 from rfl]
   show 0+_+8<=_
   omega
theorem Nq(t:af)(h:y3 t):wl (ZI t)+8<=64 * fP (ai t):=by
 have:=qbO 16777216 t h
 unfold ZI qj1
 split
 ·exact this
 ·have:=PB t
  show 0+8<=_
  omega
section
variable(f:ag->Wr)
theorem SM(l:Int)(x:ag):wl (qaf f l x)<=wl (f x)+2:=by
 unfold qaf
 split
 ·rw[dj]
  simp only[vae,vaP,List.sum_cons,List.sum_nil,show wl (tW cE)=1 from rfl,show wl (tW dI)=1 from rfl]
  omega
 ·omega
theorem qha(l:List ag):wl (kE f l 0)+wl (kE f l 1)+wl (kE f l 2)<=(l.map λx=>wl (f x)).sum:=by
 unfold kE
 rcases l with _|⟨x,_|⟨y,_|⟨z,r⟩⟩⟩<;>simp[wl]<;>omega
theorem SK(a b:Int)(l:List ag):wl (Uu f a l 0)+wl (Uu f b l 1)<=(l.map λx=>wl (f x)+2).sum:=by
 unfold Uu
 rcases l with _|⟨x,_|⟨y,r⟩⟩
 ·simp[wl]
 ·have:=SM f a x
  simp[wl]at *
  omega
 ·have:=SM f a x
  have:=SM f b y
  simp[wl]at *
  omega
theorem XJ(sg:ae)(l:List ag)(a b:Int):wl (dz (O4 f sg l a b))<=(l.map λx=>wl (f x)+2).sum+sg.length+2:=by
 have:=SK f a b l
 unfold O4
 rw[dj]
 simp only[vae,vaP,List.sum_cons,List.sum_nil]
 show _+((dh++(sg++dh)).length+_)<=_
 simp only[vam,show dh.length=1 from rfl]
 omega
theorem UX(l:List ag):wl (dz (BB f l))<=(l.map λx=>wl (f x)+2).sum+2:=by
 have h:=TI aU (l.map f)
 rw[vbz]at h
 have h:wl (dz (xd aU (l.map f)))<=(l.map λx=>wl (f x)+2).sum:=h
 unfold BB
 rw[dj]at h ⊢
 simp only[vae,vaA,vaP,List.sum_cons,vaJ,List.sum_nil,show wl (tW cE)=1 from rfl,show wl (tW dI)=1 from rfl]
 omega
theorem qhU(l:List ag):wl (dz (BB f (l.take (l.length - 1))))+wl (kE f l (l.length - 1))<=(l.map λx=>wl (f x)+2).sum+2:=by
 have h:=UX f (l.take (l.length - 1))
 unfold kE
 cases hl:l with
 |nil=>rw[hl]at h;simp[wl]at h ⊢;omega
 |cons a r=>
  rw[hl]at h
  have e1:(a::r)[(a::r).length - 1]? =some ((a::r).getLast (by simp)):=by rw[vb3,vac (by simp)]
  rw[e1]
  have e2:(a::r)=(a::r).take ((a::r).length - 1)++[(a::r).getLast (by simp)]:=by rw[<-vcP];exact(vbr _).symm
  conv=>rhs;rw[e2]
  simp only[vaA,vaJ,vae,vaP,List.sum_cons,List.sum_nil,vaj,Option.getD_some]
  omega
theorem qhF(o:Int):(qhE o).length<=3:=by
 unfold qhE
 repeat' first|decide|split
theorem qal(l:List ae):wl (dz (Og l))<=64 * eu (l.map cS)+3:=by
 unfold Og
 split
 ·simp[dz,wl]
 ·have:=M6 cS aU (J2 false) l (λs _=>by
   show s.length+2<=64 * fP (cS s)
   simp only[cS,fP,pm]
   omega)
  rw[dj]at this ⊢
  simp only[vae,vaA,vaP,List.sum_cons,vaJ,List.sum_nil,show wl (tW Nu)=2 from rfl,show wl (tW dI)=1 from rfl]
  omega
theorem qaK(l:List af)(h:∀t∈l,y3 t):wl (dz (Im l))<=64 * eu (l.map ai)+2:=by
 unfold Im
 split
 ·simp[dz,wl]
 ·have:=M6 ai aU ZI l (λt ht=>by
   have:=Nq t (h t ht)
   show wl (ZI t)+2<=_
   omega)
  rw[dj]at this ⊢
  simp only[vae,vaA,vaP,List.sum_cons,vaJ,List.sum_nil,show wl (tW VO)=1 from rfl,show wl (tW VP)=1 from rfl]
  omega
theorem YP(l:List ag)(h:∀x∈l,wl (f x)+8<=64 * fP (ah x)):(l.map λx=>wl (f x)+2).sum<=64 * eu (l.map ah):=Mr ah _ l λx hx=>by have:=h x hx;omega
end
theorem Rg:∀(n:Nat) (e:ag),nq e->Lv e->wl (Lc n e)+8<=64 * fP (ah e)
 |0,e,_,_=>by
  have:=wm e
  show 0+8<=_
  omega
 | n + 1,e,hg,hs => by
  have hf:∀x∈e.Kids,wl (Lc n x)+8<=64 * fP (ah x):=λx hx=>Rg n x (eB hg hx) (mL hs hx)
  have hk:=YP (Lc n) e.Kids hf
  have hT:=qaK e.Types (λt ht=>Aj hs ht)
  have hm:=wm e
  have hsh:=gP hg
  have h3:=qha (Lc n) e.Kids
  have h3':(e.Kids.map λx=>wl (Lc n x)).sum<=(e.Kids.map λx=>wl (Lc n x)+2).sum:=qaG λx _=>by omega
  have hsg:=qhF e.Op
  have ha:=UX (Lc n) e.Kids
  rw[TM]
  suffices hmain:wl (dz (td (Lc n) e))<=e.Name.length+64 * eu (e.Kids.map ah)+64 * eu (e.Params.map bw)+64 * eu (e.Alts.map bE)+64 * eu (e.Types.map ai)+60 by
   show wl (dz (td (Lc n) e))+8<=_
   omega
  unfold td
  by_cases hq:e.Op=1
  ·rw[vad hq]
   have h1:=hq
   have:=YL e.N (hsh.n1 h1)
   rw[gW]
   show(Ta e.N).length<=_
   omega
  rw[vab hq]
  by_cases hq:e.Op=2
  ·rw[vad hq]
   rw[gW]
   show(if e.N=1 then nR else tn).length<=_
   split<;>simp only[nR,tn,vaG,List.length_nil]<;>omega
  rw[vab hq]
  by_cases hq:e.Op=3
  ·rw[vad hq]
   rw[gW];show e.Name.length<=_;omega
  rw[vab hq]
  by_cases hq:e.Op=4
  ·rw[vad hq]
   rw[dj]at hT ha ⊢
   rw[vae,List.sum_cons,vaA,vaJ]
   show e.Name.length+_<=_
   split
   ·simp only[vaP,List.sum_nil];omega
   ·omega
  rw[vab hq]
  by_cases hq:e.Op=5
  ·rw[vad hq]
   rw[dj]at hT ha ⊢
   rw[vae,List.sum_cons,vaA,vaJ]
   show e.Name.length+_<=_
   omega
  rw[vab hq]
  by_cases hq:e.Op=6
  ·rw[vad hq]
   have hp:=M6 bw aU UE e.Params (λp hp=>by
    have h1:=IU p
    have h2:=Nq p.Type_ (Rf hs hp)
    show wl (UE p)+2<=_
    unfold UE
    rw[dj,vae,List.sum_cons]
    show p.Name.length+_+2<=_
    split
    ·simp only[vaP,List.sum_nil];omega
    ·simp only[vae,vaP,List.sum_cons,List.sum_nil,show wl (tW bX)=3 from rfl];omega)
   rw[dj]at hp ⊢
   simp only[vae,vaA,vaP,List.sum_cons,vaJ,List.sum_nil,show wl (tW nQ)=5 from rfl,show wl (tW cG)=5 from rfl]
   omega
  rw[vab hq]
  by_cases hq:e.Op=7
  ·rw[vad hq]
   rw[dj]
   have e1:wl (J2 false e.Name)=e.Name.length:=rfl
   cases hty:e.Types with
   |nil=>
    simp only[vae,vaA,vaP,List.sum_cons,vaJ,List.sum_nil,show wl (tW wE)=4 from rfl,show wl (tW ii)=3 from rfl,show wl (tW eS)=4 from rfl]
    omega
   |cons t l=>
    have:=Nq t (Aj hs (by rw[hty];simp))
    simp only[vae,vaA,vaP,List.sum_cons,vaJ,List.sum_nil,eu,show wl (tW bX)=3 from rfl,show wl (tW wE)=4 from rfl,show wl (tW ii)=3 from rfl,show wl (tW eS)=4 from rfl]
    omega
  rw[vab hq]
  by_cases hq:e.Op=8
  ·rw[vad hq]
   rw[dj]
   simp only[vae,vaA,vaP,List.sum_cons,vaJ,List.sum_nil,show wl (tW Fj)=3 from rfl,show wl (tW lF)=6 from rfl,show wl (tW lE)=6 from rfl]
   omega
  rw[vab hq]
  by_cases hq:e.Op=9
  ·rw[vad hq]
   have hp:=M6 bE kP (Wk (Lc n)) e.Alts (λa ha=>by
    have h1:=Xq a
    have h2:=Rg n a.Body (N5 hg ha) (Re hs ha)
    have h3:=qal a.Names
    show wl (Wk (Lc n) a)+2<=_
    unfold Wk
    rw[dj]at h3 ⊢
    simp only[vae,vaA,vaP,List.sum_cons,vaJ,List.sum_nil,show wl (tW kO)=4 from rfl]
    have e1:wl (J2 true a.Con)=a.Con.length:=rfl
    omega)
   rw[dj]at hp ⊢
   simp only[vae,vaA,vaP,List.sum_cons,vaJ,List.sum_nil,show wl (tW uK)=5 from rfl,show wl (tW gf)=6 from rfl,show wl (tW Ay)=2 from rfl]
   omega
  rw[vab hq]
  by_cases hq:e.Op=25
  ·rw[vad hq]
   have hu:=qhU (Lc n) e.Kids
   rw[dj]at hu ⊢
   simp only[vae,vaA,vaP,List.sum_cons,vaJ,List.sum_nil,show wl (tW Az)=4 from rfl,show wl (tW dh)=1 from rfl,show wl (tW eS)=4 from rfl]
   have e1:wl (J2 false e.Name)=e.Name.length:=rfl
   omega
  rw[vab hq]
  by_cases hq:e.Op=21
  ·rw[vad hq]
   have h21:=hq
   obtain⟨x,hx⟩:=hsh.k1 (by omega)
   have hxm:x∈e.Kids:=by rw[hx];simp
   rw[hx]at hk h3 ⊢
   show wl (dz (if x.Op=16 then O4 (Lc n) gV x.Kids 5 5 else[tW xS,Uu (Lc n) 3 [x] 0]))<=_
   split
   ·rename_i h16
    have hgx:=eB hg hxm
    have hsx:=mL hs hxm
    have h1:=XJ (Lc n) gV x.Kids 5 5
    have h2:=YP (Lc n) x.Kids (λy hy=>Rg n y (eB hgx hy) (mL hsx hy))
    have h4:=wm x
    simp only[vae,vaP,eu]
    rw[show gV.length=2 from rfl]at h1
    omega
   ·have h1:=SK (Lc n) 3 3 [x]
    rw[dj]
    simp only[vae,vaP,List.sum_cons,List.sum_nil,show wl (tW xS)=1 from rfl]at h1 hk ⊢
    omega
  rw[vab hq]
  by_cases hq:e.Op=15
  ·rw[vad hq]
   have h1:=SK (Lc n) 7 7 e.Kids
   rw[dj]
   simp only[vae,vaP,List.sum_cons,List.sum_nil,show wl (tW pT)=1 from rfl]
   omega
  rw[vab hq]
  by_cases hq:e.Op=22
  ·rw[vad hq]
   rw[dj]at ha ⊢
   rw[vae,List.sum_cons,show wl (tW VS)=3 from rfl]
   omega
  rw[vab hq]
  by_cases hq:e.Op=23
  ·rw[vad hq]
   rw[dj]at ha ⊢
   rw[vae,List.sum_cons,show wl (tW VQ)=3 from rfl]
   omega
  rw[vab hq]
  by_cases hq:e.Op=24
  ·rw[vad hq]
   rw[dj]at ha ⊢
   rw[vae,List.sum_cons,show wl (tW VT)=3 from rfl]
   omega
  rw[vab hq]
  by_cases hq:e.Op=26
  ·rw[vad hq]
   have ht:wl (((e.Types[0]?).map ZI).getD ([],false))<=64 * eu (e.Types.map ai):=by
    cases hty:e.Types with
    |nil=>simp[wl]
    |cons t l=>
     have:=Nq t (Aj hs (by rw[hty];simp))
     simp only[List.getElem?_cons_zero,vaj,Option.getD_some,vae,eu]
     omega
   rw[dj]
   simp only[vae,vaP,List.sum_cons,List.sum_nil,show wl (tW cE)=1 from rfl,show wl (tW dI)=1 from rfl,show wl (tW bX)=3 from rfl]
   omega
  rw[vab hq]
  by_cases hq:e.Op=16\/e.Op=17\/e.Op=18
  ·rw[vad hq]
   have:=XJ (Lc n) (qhE e.Op) e.Kids 5 5
   omega
  ·rw[vab hq]
   have:=XJ (Lc n) (qhE e.Op) e.Kids (Q9 e) (Q9 e+1)
   omega
theorem qiL:yW=some true:=by kernel_rfl
theorem qic(p:aa)(hp:fP (ac p)<=16777216):jb (qD p) (λ_=>True):=⟨_,S9 p (vax (S1 p) (vax hp (by unfold cW;omega))),vzz⟩
theorem CQ(t:af)(levels:Int)(ht:y3 t):jb (pw t levels) (λ_=>True):=by
 refine Av (F:=wM) (λx=>fh x.1) (λx=>y3 x.1) (λ_ _=>True) (λR x hx ih=>?_) (t,levels) ht (lp (ou ht))
 obtain⟨t,levels⟩:=x
 show jb (pZ (λt levels=>R (t,levels)) t levels) _
 have hx:y3 t:=hx
 have hB:fh t<=1073741824:=ou hx
 have hal:=lK t
 have hpl:=Du t
 unfold pZ uc ue
 have hJ:jb (n6 levels t) (λ_=>True):=by
  unfold n6
  exact aP (λ_=>am vzz) λ_=>aP (λ_=>am vzz) λ_=>aP (λ_=>am vzz) λ_=>aP (λ_=>am vzz) λ_=>aH (qic _ (wy hx)) λ_ _=>am vzz
 refine aH hJ λo _=>aP (λ_=>am vzz) λ_=>aH (lX t.Preds (by omega) _ (λ_=>True) (λ_=>True) (λi=>rfl) (λp hp i=>aH (qic p (I0 hx hp)) λr _=>aP (λ_=>am vzz) λ_=>am ⟨rfl,vzz⟩)) λo _=>?_
 cases o with
 |inl _=>exact am vzz
 |inr _=>
  refine aH (lX t.Args (by omega) _ (λ_=>True) (λ_=>True) (λi=>rfl) (λa ha i=>aH (ih (a,_) (mb ha) (Nb hx ha)) λr _=>aP (λ_=>am vzz) λ_=>am ⟨rfl,vzz⟩)) λo _=>?_
  cases o with
  |inl _=>exact am vzz
  |inr _=>exact am vzz
theorem TL(e:ag)(he:Lv e):jb (zK e) (λ_=>True):=by
 refine Av (F:=uf) nE Lv (λ_ _=>True) (λR e he ih=>?_) e he (by have:=vax (HR e) he;unfold ZC;omega)
 show jb (n7 (λe=>R e) e) _
 have hB:nE e<=16777216:=vax (HR e) he
 have hkl:=y0 e
 have hal:=n9 e
 have hpl:=kT e
 have htl:=uI e
 unfold n7 rH rI rJ rK
 have hJ:jb (mA e) (λ_=>True):=by
  unfold mA
  exact aP (λ_=>am vzz) λ_=>am vzz
 refine aH hJ λo _=>aP (λ_=>am vzz) λ_=>aH (lX e.Types (by omega) _ (λ_=>True) (λ_=>True) (λi=>rfl) (λt ht i=>aH (CQ t 4 (Aj he ht)) λr _=>aP (λ_=>am vzz) λ_=>am ⟨rfl,vzz⟩)) λo _=>?_
 cases o with
 |inl _=>exact am vzz
 | inr _ =>
  refine aH (lX e.Params (by omega) _ (λ_=>True) (λ_=>True) (λi=>rfl) (λp hp i=>aH (CQ p.Type_ 4 (Rf he hp)) λr _=>aP (λ_=>am vzz) λ_=>am ⟨rfl,vzz⟩)) λo _=>?_
  cases o with
  |inl _=>exact am vzz
  | inr _ =>
   refine aH (lX e.Kids (by omega) _ (λ_=>True) (λ_=>True) (λi=>rfl) (λx hx i=>aH (ih x (oh hx) (mL he hx)) λr _=>aP (λ_=>am vzz) λ_=>am ⟨rfl,vzz⟩)) λo _=>?_
   cases o with
   |inl _=>exact am vzz
   |inr _=>
    refine aH (lX e.Alts (by omega) _ (λ_=>True) (λ_=>True) (λi=>rfl) (λx hx i=>aH (ih x.Body (L2 hx) (Re he hx)) λr _=>aP (λ_=>am vzz) λ_=>am ⟨rfl,vzz⟩)) λo _=>?_
    cases o with
    |inl _=>exact am vzz
    |inr _=>exact am vzz
theorem qhK(e:ag)(he:Lv e):∃r,C3 e=some r:=by
 unfold C3
 rw[OQ e (tI (qaF he))]
 simp only[vaa]
 obtain⟨r,h,_⟩:=TL e he
 rw[h]
 by_cases hc:decide (((cN e).length:Int)<=200)=true
 ·rw[vad hc];exact⟨_,rfl⟩
 ·rw[vab hc];exact⟨_,rfl⟩
theorem UZ:∀(s:ae),iw (fb s)=some s
 |[]=>rfl
 |c::s=>by
  show iw ((c.toNat:Int)::fb s)=_
  have hc:=c.toNat_lt
  unfold iw
  rw[vad (by omega),UZ s]
  simp
def qcR(w:Wr):ae:=if w.2=true then[]else w.1
theorem qbR{k:List Int}{b:Bool}{w:Wr}(h1:b=(false||(dz [w]).2))(h2:b=false->k=[]++fb (dz [w]).1):fj k b=some (qcR w):=by
 rw[gW]at h1 h2
 unfold fj qcR
 cases b with
 |true=>
  have hw:w.2=true:=by simpa using h1.symm
  rw[vad rfl,vad hw]
 |false=>
  have hw:w.2=false:=by simpa using h1.symm
  have:=h2 rfl
  rw[vab (by simp),hw,vab (by simp),this,vaS]
  unfold Iw
  rw[UZ]
  rfl
theorem Zp{k:ae}{b:Bool}{w:Wr}(h1:b=(false||(dz [w]).2))(h2:b=false->k=[]++(dz [w]).1):(if b=true then some ([]:ae)else some k)=some (qcR w):=by
 rw[gW]at h1 h2
 unfold qcR
 cases b with
 |true=>
  have hw:w.2=true:=by simpa using h1.symm
  rw[vad rfl,vad hw]
 |false=>
  have hw:w.2=false:=by simpa using h1.symm
  have:=h2 rfl
  rw[vab (by simp),hw,vab (by simp),this,vaS]
theorem qjR(t:af)(h:fP (ai t)<=1048576):∃s,Ab t=some s/\LM t=some s:=by
 have ht:y3 t:=by unfold y3;omega
 have hl:(ZI t).1.length+8<=64 * fP (ai t):=Nq t ht
 have hb:([]:List Int).length+(dz [ZI t]).1.length<=1073741824:=by rw[gW];simp only[List.length_nil];omega
 have hb2:([]:ae).length+(dz [ZI t]).1.length<=1073741824:=by rw[gW];simp only[List.length_nil];omega
 obtain⟨k1,b1,e1,f1,g1,_⟩:=HV t 16777216 (J9 ht) ht [] false hb
 obtain⟨k2,b2,e2,f2,g2,_⟩:=Ie t 16777216 (J9 ht) ht [] false hb2
 refine⟨qcR (ZI t),?_,?_⟩
 ·unfold Ab
  rw[e1]
  show(fj k1 b1).bind _=_
  rw[qbR f1 g1]
  rfl
 ·unfold LM
  rw[e2]
  exact Zp f2 g2
theorem qdl(e:ag):lI e [] true=some ([],true):=by
 show qbf jv (2 ^ 200) (e,[],true)=_
 obtain⟨m,hm⟩:∃m,2 ^ 200=m+1:=⟨2 ^ 200 - 1,by omega⟩
 rw[hm]
 show gE (λt k b=>qbf jv m (t,k,b)) e [] true=_
 unfold gE
 rw[vad rfl]
theorem qjq(e:ag)(h:fP (ah e)<=1048576):∃s,lu e=some s/\Hl e=some s:=by
 have he:Lv e:=by unfold Lv;omega
 obtain⟨c,h1,h2⟩:=qdH e (qaF he)
 unfold lu Hl lD ub
 rw[h1,h2]
 simp only[vaa]
 rw[Ig]
 simp only[vaa]
 by_cases hc:c=0
 ·subst hc
  have hg:=ZT e he h2
  have hl:(Lc 16777216 e).1.length+8<=64 * fP (ah e):=Rg 16777216 e hg he
  have hn:nE e<=16777216:=vax (HR e) he
  have hb:([]:List Int).length+(dz [Lc 16777216 e]).1.length<=1073741824:=by rw[gW];simp only[List.length_nil];omega
  have hb2:([]:ae).length+(dz [Lc 16777216 e]).1.length<=1073741824:=by rw[gW];simp only[List.length_nil];omega
  obtain⟨k1,b1,e1,f1,g1,_⟩:=qlr e 16777216 hn hg he [] false hb
  obtain⟨k2,b2,e2,f2,g2,_⟩:=qlE e 16777216 hn hg he [] false hb2
  refine⟨qcR (Lc 16777216 e),?_,?_⟩
  ·rw[vab (by simp),e1]
   show(fj k1 b1).bind _=_
   rw[qbR f1 g1]
   rfl
  ·show((lI e [] false).bind _).bind _=_
   rw[e2]
   exact Zp f2 g2
 ·refine⟨[],?_,?_⟩
  ·rw[vad (by simpa using hc)]
   rfl
  ·have hx:(false||!(c==0))=true:=by simp[hc]
   rw[hx,qdl]
   rfl
theorem QA(x0:af)(x1:ag)(h:fP (ai x0)+(fP (ah x1)+0)<=1048576):zF x0 x1=some true:=by
 obtain⟨r0,s0,_⟩:=CQ x0 4 (by unfold y3;omega)
 obtain⟨r1,s1⟩:=qhK x1 (by unfold Lv;omega)
 obtain⟨a,a1,a2⟩:=qjR x0 (by omega)
 obtain⟨b,b1,b2⟩:=qjq x1 (by omega)
 unfold zF
 rw[s0,s1,a1,a2,b1,b2,qiL]
 cases r0<;>cases r1<;>simp
end Go.Proofs.YtibglelmlnfojaaGreatDoor
