/- PROVED: a part of the proof. Conditions: none. -/
import Derived.Test.YtoficachfgggjaaDoorPkA12
import Derived.Test.YtoficachfgggjaaDoorPkA7
noncomputable section
namespace Go.Proofs.YtoficachfgggjaaDoor
open Go
set_option linter.unusedSimpArgs false
set_option linter.unusedVariables false
theorem Ar:∀(s1 s2:List ah),s1.length=s2.length->(s1.zip s2).any (fun z=>!(j5 z.1 z.2))= !decide (s1=s2)
 |[],[],_=>by simp
 |[],_::_,h=>by simp at h
 |_::_,[],h=>by simp at h
 | x :: r,y :: s,h => by
  rw[List.zip_cons_cons,List.any_cons,Ar r s (by simpa using h),zf]
  by_cases h1:x=y
  ·subst h1
   by_cases h2:r=s
   ·subst h2;simp
   ·simp[h2]
  ·simp[h1]
theorem BL(s1 s2:List ah)(hlen:s1.length=s2.length)(hl:s1.length<4611686018427387904)(body:Int->Option (Int⊕(Unit⊕Unit)))
  (hb:∀i:Int,body i=if decide (i<(s1.length:Int))=true then(gz s1 i).bind fun x=>(gz s2 i).bind fun y=>if(!(j5 x y))=true then some (.inr (.inl ()))else some (.inl (b5 (i+1)))else some (.inr (.inr ()))):
  loop body 0=some (if s1=s2 then .inr ()else .inl ()):=by
 have hz:(s1.zip s2).length=s1.length:=by rw[List.length_zip];omega
 have:=jt (s1.zip s2) (by omega) body (fun z=>!(j5 z.1 z.2)) (.inl ()) (.inr ()) (fun i hi=>?_) (by rw[hb,vav (by simp[hz])]) 0 (vaF _)
 ·rw[va9,Ar s1 s2 hlen]at this
  rw[show((0:Nat):Int)=0 from rfl]at this
  rw[this]
  by_cases h:s1=s2<;>simp[h]
 ·have h1:i<s1.length:=by omega
  have h2:i<s2.length:=by omega
  rw[hb,vas (by simp;omega),ja s1 i h1,vab,ja s2 i h2,vab]
  rw[List.getElem_zip]
  cases j5 s1[i] s2[i]<;>rfl
theorem B5(a b:aa)(hl:a.Arcs.length<4611686018427387904):qo a b=some (decide (a=b)):=by
 unfold qo nY
 obtain⟨a1,a2,a3⟩:=a
 obtain⟨b1,b2,b3⟩:=b
 simp only at hl ⊢
 by_cases h1:a1=b1
 ·subst h1
  rw[vav (by simp)]
  by_cases h2:a2=b2
  ·subst h2
   rw[vav (by simp),vab]
   by_cases h3:a3.length=b3.length
   ·rw[vav (by simp[h3])]
    unfold nZ
    rw[BL a3 b3 h3 hl (fun zz=>lH ⟨a1,a2,a3⟩ ⟨a1,a2,b3⟩ (a3.length:Int) zz) (fun i=>rfl),vab]
    by_cases h4:a3=b3<;>simp[h4]
   ·rw[vas (by simp;omega)]
    have:a3≠b3:=fun e=>h3 (by rw[e])
    simp[this]
  ·rw[vas (by simp[h2]),vab];simp[h2]
 ·rw[vas (by simp[h1]),vab];simp[h1]
theorem zh(m:Nat->Int)(L:Nat)(a b:Int):fR (fR m L a) L b=fR m L b:=by
 funext k;unfold fR;split<;>rfl
theorem yV(g:aa)(h:xK g.Arcs):eu g=some (g7 g.Arcs):=by
 unfold eu fZ
 have hl:=Af h
 have key:=pZ (X:=Nat->Int) g.Arcs (by omega) (fun(i:Int) (m:Nat->Int)=>(i,m)) (fun(zz:Int×(Nat->Int))=>e6 g.Arcs (g.Arcs.length:Int) zz.1 zz.2)
  (fun i m x=>(nO 6 x.From).bind fun i3=>(nO 6 x.To).bind fun i4=>if x.Strict=true then(nO 6 x.From).bind fun i7=>(nO 6 x.To).bind fun i8=>some (.inl (b5 (i+1),fR (fR m (0+i3 * 6+i4 * 1) 1) (0+i7 * 6+i8 * 1) 2))else some (.inl (b5 (i+1),fR m (0+i3 * 6+i4 * 1) 1)))
  (fun _ _=>True) (fun x m=>fR m (ix x) (wt x)) id (pO 0) trivial (fun i s=>rfl) (fun i hi s _=>⟨?_,trivial⟩)
 ·rw[key,vab]
  have:∀(l:List ah) (m:Nat->Int),l.foldl (fun s x=>fR s (ix x) (wt x)) m=xE l m:=by
   intro l
   induction l with
   |nil=>intro m;rfl
   |cons x r ih=>intro m;rw[List.foldl_cons,ih];rfl
  rw[this]
  rfl
 ·obtain⟨a,b,c,d⟩:=h.1 _ (vbm hi)
  rw[vP a b,vP c d]
  simp only[vab]
  have e:0+g.Arcs[i].From.toNat * 6+g.Arcs[i].To.toNat * 1=ix g.Arcs[i]:=by unfold ix;omega
  rw[e]
  unfold wt
  split
  ·rw[zh]
  ·rfl
theorem Dn(X Y:Nat->Int)(f t m:Nat)(hf:f<6)(ht:t<6)(hm:m<6):dl (f:Int) (t:Int) (m:Int) X Y=some (decide (X (f * 6+m)>0/\Y (m * 6+t)>0)):=by
 unfold dl
 rw[vP (by omega) (by omega),vP (by omega) (by omega)]
 simp only[vab,Int.toNat_natCast,vaA,vcx]
 by_cases h:X (f * 6+m)>0
 ·rw[vas (by simpa using h),vP (by omega) (by omega)]
  simp[h]
 ·rw[vav (by simpa using h)];simp[h]
theorem Do(X Y:Nat->Int)(f t:Nat)(hf:f<6)(ht:t<6):dm (f:Int) (t:Int) X Y 0 0=some (x6 X Y f t 6):=by
 unfold dm
 refine pY 6 _ (fun m=>(x6 X Y f t m,(m:Int))) _ (fun m hm=>?_) ?_
 ·unfold cC
  rw[vas (by simp;omega),Dn X Y f t m hf ht hm,vab]
  have hw:b5 ((m:Int)+1)=((m+1:Nat):Int):=by rw[kQ (by omega) (by omega)];omega
  by_cases h:X (f * 6+m)>0/\Y (m * 6+t)>0
  ·rw[vas (by simpa using h),vP (by omega) (by omega),vP (by omega) (by omega),vP (by omega) (by omega)]
   simp only[vab,Int.toNat_natCast,vaA,vcx]
   rw[hw]
   show some (Sum.inl _)=some (Sum.inl (x6 X Y f t (m+1),((m+1:Nat):Int)))
   congr 3
   show _=wd X Y f t m (x6 X Y f t m)
   unfold wd mx
   rw[vas h]
  ·rw[vav (by simpa using h),hw]
   show some (Sum.inl _)=some (Sum.inl (x6 X Y f t (m+1),((m+1:Nat):Int)))
   congr 3
   show _=wd X Y f t m (x6 X Y f t m)
   unfold wd
   rw[vav h]
 ·unfold cC
  rw[vav (by simp)]
def mS(M:Nat->Int)(n:Nat):List ah:=(List.range n).filterMap fun L=>if M L>0 then some (nz M L)else none
theorem xZ(M:Nat->Int)(n:Nat):mS M (n+1)=mS M n++(if M n>0 then[nz M n]else[]):=by
 unfold mS
 rw[List.range_succ,List.filterMap_append]
 congr 1
 by_cases h:M n>0<;>simp[h]
theorem y5(M:Nat->Int)(n:Nat):(mS M n).length<=n:=by
 unfold mS
 exact vaN (vcb _ _) (by simp)
theorem ut{X:Type}(M:Nat->Int)(inner:Int->Int×List ah->Option ((Int×List ah)⊕List ah))(outer:Int×List ah->Option ((Int×List ah)⊕List ah))
  (hi:∀(f t:Nat) l,f<6->t<6->l.length<=36->inner f (t,l)=some (.inl (((t+1:Nat):Int),l++(if M (f * 6+t)>0 then[nz M (f * 6+t)]else[]))))
  (hie:∀(f:Nat) l,inner f (6,l)=some (.inr l))
  (ho:∀(f:Nat) l,f<6->outer (f,l)=(loop (inner f) (0,l)).bind fun o=>some (.inl (((f+1:Nat):Int),o)))
  (hoe:∀l,outer (6,l)=some (.inr l)):loop outer (0,[])=some (sm M):=by
 have hin:∀f:Nat,f<6->loop (inner (f:Int)) (0,mS M (f * 6))=some (mS M ((f+1) * 6)):=fun f hf=>by
  have h6:(f+1) * 6=f * 6+6:=by omega
  rw[h6]
  refine pY 6 _ (fun t=>((t:Int),mS M (f * 6+t))) _ (fun t ht=>?_) (hie f _)
  rw[hi f t _ hf ht (vaN (y5 _ _) (by omega)),<-xZ]
  rfl
 refine pY 6 _ (fun f=>((f:Int),mS M (f * 6))) _ (fun f hf=>?_) (hoe _)
 rw[ho f _ hf,hin f hf,vab]
theorem zd(a b:aa)(ha:xK a.Arcs)(hb:xK b.Arcs):bL a b=some (Bq a b):=by
 unfold bL
 rw[yV a ha,vab,yV b hb,vab]
 have:=ut (X:=Unit) (vS (g7 a.Arcs) (g7 b.Arcs)) (fun f zz=>bY f (g7 a.Arcs) (g7 b.Arcs) zz.1 zz.2) (fun zz=>bX (g7 a.Arcs) (g7 b.Arcs) zz.1 zz.2)
  (fun f t l hf ht hl=>?_) (fun f l=>?_) (fun f l hf=>?_) (fun l=>?_)
 ·unfold e5
  rw[this]
  rfl
 ·simp only
  unfold bY
  rw[vas (by simp;omega),Do _ _ f t hf ht,vab,<-xg hf ht]
  have hw:b5 ((t:Int)+1)=((t+1:Nat):Int):=by rw[kQ (by omega) (by omega)];omega
  by_cases h:vS (g7 a.Arcs) (g7 b.Arcs) (f * 6+t)>0
  ·rw[vas (by simpa using h),vas h,wS (by simp;omega),vab,hw]
   congr 4
   unfold nz
   rw[show(f * 6+t) / 6=f by omega,show(f * 6+t) % 6=t by omega]
  ·rw[vav (by simpa using h),vav h,hw]
   simp
 ·simp only
  unfold bY
  rw[vav (by simp)]
 ·simp only
  unfold bX
  rw[vas (by simp;omega),kQ (by omega) (by omega)]
  rfl
 ·simp only
  unfold bX
  rw[vav (by simp)]
def DU:aa:=⟨[],[],[]⟩
def Bo(a b:aa):aa×Int:=if vG a≠0 then(DU,vG a)else if vG b≠0 then(DU,vG b)else if a.Callee=b.Caller then(Bq a b,0)else(DU,6)
theorem y1(a b:aa)(ha:a.Arcs.length<4611686018427387904)(hb:b.Arcs.length<4611686018427387904):df a b=some (Bo a b):=by
 unfold df Bo
 rw[xU a ha,vab]
 by_cases h1:vG a=0
 ·simp only[h1,bne_self_eq_false,vaw,if_false,ne_eq,not_true_eq_false]
  rw[xU b hb,vab]
  by_cases h2:vG b=0
  ·simp only[h2,bne_self_eq_false,vaw,if_false,ne_eq,not_true_eq_false]
   by_cases h3:a.Callee=b.Caller
   ·rw[vav (by simp[h3]),vas h3,zd a b (Ap.1 h1).arcs (Ap.1 h2).arcs]
    rfl
   ·rw[vas (by simp[h3]),vav h3];rfl
  ·simp only[show(vG b !=0)=true by simp[h2],if_true,ne_eq,h2,not_false_eq_true];rfl
 ·simp only[show(vG a !=0)=true by simp[h1],if_true,ne_eq,h1,not_false_eq_true];rfl
theorem Da(f t:Int)(x y:ah):kn f t x.From x.To y.From y.To=some ((x.From==f&&x.To==y.From)&&y.To==t):=by
 unfold kn
 cases h1:(x.From==f)<;>cases h2:(x.To==y.From)<;>simp[h1,h2]
def aP(f t:Int)(x y:ah):Bool:=(x.From==f&&x.To==y.From)&&y.To==t
theorem Db(f t:Int)(lb:List ah)(hl:lb.length<=40)(x:ah)(fd s:Bool):ko f t lb (lb.length:Int) x.From x.To x.Strict fd 0 s=some (fd||lb.any (aP f t x),s||lb.any (fun y=>aP f t x y&&(x.Strict||y.Strict))):=by
 unfold ko
 have key:=pZ (X:=Bool×Bool) lb (by omega) (fun(i:Int) (p:Bool×Bool)=>(p.1,i,p.2)) (fun(zz:Bool×Int×Bool)=>mP f t lb (lb.length:Int) x.From x.To x.Strict zz.1 zz.2.1 zz.2.2)
  (fun i p y=>(kn f t x.From x.To y.From y.To).bind fun o8=>if o8=true then(if p.2=true then some (.inl (true,b5 (i+1),true))else if x.Strict=true then some (.inl (true,b5 (i+1),true))else some (.inl (true,b5 (i+1),y.Strict)))else some (.inl (p.1,b5 (i+1),p.2)))
  (fun _ _=>True) (fun y p=>(p.1||aP f t x y,p.2||(aP f t x y&&(x.Strict||y.Strict)))) id (fd,s) trivial (fun i p=>rfl) (fun i hi p _=>⟨?_,trivial⟩)
 ·rw[key]
  congr 1
  have:∀(l:List ah) (p:Bool×Bool),l.foldl (fun p y=>(p.1||aP f t x y,p.2||(aP f t x y&&(x.Strict||y.Strict)))) p=(p.1||l.any (aP f t x),p.2||l.any (fun y=>aP f t x y&&(x.Strict||y.Strict))):=by
   intro l
   induction l with
   |nil=>intro p;simp
   |cons y r ih=>intro p;rw[List.foldl_cons,ih];simp[Bool.or_assoc]
  exact this lb (fd,s)
 ·rw[Da,vab]
  show(if aP f t x lb[i]=true then _ else _)=_
  cases h:aP f t x lb[i]<;>cases hp:p.2<;>cases hx:x.Strict<;>simp[h,hp,hx]
def aF(a b:aa)(f t:Int):Bool:=a.Arcs.any fun x=>b.Arcs.any (aP f t x)
def aS(a b:aa)(f t:Int):Bool:=a.Arcs.any fun x=>b.Arcs.any fun y=>aP f t x y&&(x.Strict||y.Strict)
theorem Dg(a b:aa)(f t:Int)(ha:a.Arcs.length<=40)(hb:b.Arcs.length<=40):tp a b f t=some ((⟨f,t,aS a b f t⟩:ah),aF a b f t):=by
 unfold tp pK
 have key:=pZ (X:=Bool×Bool) a.Arcs (by omega) (fun(i:Int) (p:Bool×Bool)=>(p.1,i,p.2)) (fun(zz:Bool×Int×Bool)=>mN f t b a.Arcs (a.Arcs.length:Int) zz.1 zz.2.1 zz.2.2)
  (fun i p x=>(ko f t b.Arcs (b.Arcs.length:Int) x.From x.To x.Strict p.1 0 p.2).bind fun o15=>some (.inl (o15.1,b5 (i+1),o15.2)))
  (fun _ _=>True) (fun x p=>(p.1||b.Arcs.any (aP f t x),p.2||b.Arcs.any (fun y=>aP f t x y&&(x.Strict||y.Strict)))) id (false,false) trivial (fun i p=>rfl) (fun i hi p _=>⟨?_,trivial⟩)
 ·rw[key,vab]
  have:∀(l:List ah) (p:Bool×Bool),l.foldl (fun p x=>(p.1||b.Arcs.any (aP f t x),p.2||b.Arcs.any (fun y=>aP f t x y&&(x.Strict||y.Strict)))) p=(p.1||l.any (fun x=>b.Arcs.any (aP f t x)),p.2||l.any (fun x=>b.Arcs.any (fun y=>aP f t x y&&(x.Strict||y.Strict)))):=by
   intro l
   induction l with
   |nil=>intro p;simp
   |cons y r ih=>intro p;rw[List.foldl_cons,ih];simp[Bool.or_assoc]
  rw[this]
  simp[aF,aS]
 ·rw[Db f t b.Arcs hb];rfl
theorem gF{l:List ah}(h:xK l){f t:Nat}(hf:f<6)(ht:t<6):(g7 l (f * 6+t)>0↔∃x∈l,x.From=f/\x.To=t)/\(∀x∈l,x.From=f->x.To=t->(g7 l (f * 6+t)=2↔x.Strict=true)):=by
 have hix:∀x∈l,(ix x=f * 6+t↔x.From=f/\x.To=t):=fun x hx=>by
  have:=h.1 x hx
  unfold rg at this
  unfold ix
  omega
 refine⟨⟨fun hp=>?_,fun⟨x,hx,h1,h2⟩=>?_⟩,fun x hx h1 h2=>?_⟩
 ·obtain⟨x,hx,he⟩:=yS hp
  exact⟨x,hx,(hix x hx).1 he⟩
 ·rw[<-(hix x hx).2 ⟨h1,h2⟩,rb h hx]
  have:=u9 x;omega
 ·rw[<-(hix x hx).2 ⟨h1,h2⟩,rb h hx]
  unfold wt
  cases x.Strict<;>simp
theorem D6{a b:aa}(ha:xK a.Arcs)(hb:xK b.Arcs){f t:Nat}(hf:f<6)(ht:t<6):aF a b f t=decide (vS (g7 a.Arcs) (g7 b.Arcs) (f * 6+t)>0):=by
 rw[vbC,vag,xg hf ht,(ub (ra _) (ra _) f t 6).2.1]
 unfold aF aP
 simp only[vbn,vac,vaH]
 constructor
 ·rintro⟨x,hx,y,hy,⟨h1,h2⟩,h3⟩
  obtain⟨_,_,c,d⟩:=ha.1 x hx
  refine⟨x.To.toNat,by omega,(gF ha hf (by omega)).1.2 ⟨x,hx,h1,by omega⟩,(gF hb (by omega) ht).1.2 ⟨y,hy,by omega,h3⟩⟩
 ·rintro⟨m,hm,h1,h2⟩
  obtain⟨x,hx,p1,p2⟩:=(gF ha hf hm).1.1 h1
  obtain⟨y,hy,q1,q2⟩:=(gF hb hm ht).1.1 h2
  exact⟨x,hx,y,hy,⟨p1,p2.trans q1.symm⟩,q2⟩
theorem D7{a b:aa}(ha:xK a.Arcs)(hb:xK b.Arcs){f t:Nat}(hf:f<6)(ht:t<6):aS a b f t=(vS (g7 a.Arcs) (g7 b.Arcs) (f * 6+t)==2):=by
 rw[vbC,vaH,xg hf ht,(ub (ra _) (ra _) f t 6).2.2]
 unfold aS aP
 simp only[vbn,vac,vaH,vaL]
 constructor
 ·rintro⟨x,hx,y,hy,⟨⟨h1,h2⟩,h3⟩,h4⟩
  obtain⟨_,_,c,d⟩:=ha.1 x hx
  have ex:x.To=(x.To.toNat:Int):=by omega
  refine⟨x.To.toNat,by omega,(gF ha hf (by omega)).1.2 ⟨x,hx,h1,ex⟩,(gF hb (by omega) ht).1.2 ⟨y,hy,by omega,h3⟩,?_⟩
  rcases h4 with h4|h4
  ·exact .inl (((gF ha hf (by omega)).2 x hx h1 ex).2 h4)
  ·exact .inr (((gF hb (by omega) ht).2 y hy (by omega) h3).2 h4)
 ·rintro⟨m,hm,h1,h2,h3⟩
  obtain⟨x,hx,p1,p2⟩:=(gF ha hf hm).1.1 h1
  obtain⟨y,hy,q1,q2⟩:=(gF hb hm ht).1.1 h2
  refine⟨x,hx,y,hy,⟨⟨p1,p2.trans q1.symm⟩,q2⟩,?_⟩
  rcases h3 with h3|h3
  ·exact .inl (((gF ha hf hm).2 x hx p1 p2).1 h3)
  ·exact .inr (((gF hb hm ht).2 y hy q1 q2).1 h3)
theorem yH(a b:aa)(ha:a.Arcs.length<=40)(hb:b.Arcs.length<=40):lp a b=some (Bo a b):=by
 unfold lp Bo
 rw[wB a (by omega),vab]
 by_cases h1:vG a=0
 ·simp only[h1,bne_self_eq_false,vaw,if_false,ne_eq,not_true_eq_false]
  rw[wB b (by omega),vab]
  by_cases h2:vG b=0
  ·simp only[h2,bne_self_eq_false,vaw,if_false,ne_eq,not_true_eq_false]
   by_cases h3:a.Callee=b.Caller
   ·rw[vav (by simp[h3]),vas h3]
    have hA:=(Ap.1 h1).arcs
    have hB:=(Ap.1 h2).arcs
    have:=ut (X:=Unit) (vS (g7 a.Arcs) (g7 b.Arcs)) (fun f zz=>dX a b f zz.1 zz.2) (fun zz=>dW a b zz.1 zz.2)
     (fun f t l hf ht hl=>?_) (fun f l=>?_) (fun f l hf=>?_) (fun l=>?_)
    ·unfold ki
     rw[this]
     rfl
    ·simp only
     unfold dX
     rw[vas (by simp;omega),Dg a b _ _ ha hb,vab,D6 hA hB hf ht,D7 hA hB hf ht]
     have hw:b5 ((t:Int)+1)=((t+1:Nat):Int):=by rw[kQ (by omega) (by omega)];omega
     by_cases h:vS (g7 a.Arcs) (g7 b.Arcs) (f * 6+t)>0
     ·rw[vas (by simpa using h),vas h,wS (by simp;omega),vab,hw]
      congr 4
      unfold nz
      rw[show(f * 6+t) / 6=f by omega,show(f * 6+t) % 6=t by omega]
     ·rw[vav (by simpa using h),vav h,hw]
      simp
    ·simp only
     unfold dX
     rw[vav (by simp)]
    ·simp only
     unfold dW
     rw[vas (by simp;omega),kQ (by omega) (by omega)]
     rfl
    ·simp only
     unfold dW
     rw[vav (by simp)]
   ·rw[vas (by simp[h3]),vav h3];rfl
  ·simp only[show(vG b !=0)=true by simp[h2],if_true,ne_eq,h2,not_false_eq_true];rfl
 ·simp only[show(vG a !=0)=true by simp[h1],if_true,ne_eq,h1,not_false_eq_true];rfl
theorem ua:oU=some true:=by kernel_rfl
theorem Dt(n:Int)(l:List aa)(hl:l.length<4611686018427387904):tq n l=some (l.all (fun g=>decide (g.Arcs.length<=40))&&decide ((l.length:Int)<=n)):=by
 unfold tq pM
 rw[wr l (by omega) (fun zz=>mR l (l.length:Int) zz) (fun i x2=>if(decide ((x2.Arcs.length:Int)>40))=true then some (.inr (.inl ()))else some (.inl (b5 (i+1)))) (fun g=>decide ((g.Arcs.length:Int)>40)) (.inl ()) (.inr ()) (fun i=>rfl) (fun x hx i=>by split<;>simp_all),vab]
 have:l.any (fun g=>decide ((g.Arcs.length:Int)>40))= !l.all (fun g=>decide (g.Arcs.length<=40)):=by
  rw[List.not_all_eq_any_not]
  congr 1
  funext g
  rw[vbC];simp;omega
 rw[this]
 cases l.all (fun g=>decide (g.Arcs.length<=40))<;>simp
theorem Bw{n:Int}{l:List aa}(h:(l.all (fun g=>decide (g.Arcs.length<=40))&&decide ((l.length:Int)<=n))=true):(∀g∈l,g.Arcs.length<=40)/\(l.length:Int)<=n:=by
 simp only[vac,vao,vag]at h
 exact h
theorem mw(g a:aa)(h:xL (ae g)+(xL (ae a)+0)<=1048576):ey g a=some true:=by
 unfold ey
 rw[Dt 2 [g,a] (by simp),vab]
 cases hf:([g,a].all (fun g=>decide (g.Arcs.length<=40))&&decide ((([g,a]:List aa).length:Int)<=2))with
 |false=>rw[vas (by simp),ua];rfl
 | true =>
  obtain⟨h1,_⟩:=Bw hf
  have hg:=h1 g (by simp)
  have ha:=h1 a (by simp)
  rw[vav (by simp),y1 g a (by omega) (by omega),vab,yH g a hg ha,vab,B5,vab]
  ·rw[vas (by simp),vas (by simp),ua];rfl
  ·unfold Bo
   split
   ·simp[DU]
   ·split
    ·simp[DU]
    ·split
     ·have:=Af (wv (vS (g7 g.Arcs) (g7 a.Arcs)))
      unfold Bq
      simp only
      omega
     ·simp[DU]
end Go.Proofs.YtoficachfgggjaaDoor
