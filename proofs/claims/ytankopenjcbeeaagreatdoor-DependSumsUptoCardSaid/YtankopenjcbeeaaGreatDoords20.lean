/- PROVED: a part of the proof. Conditions: none. -/
import Derived.Test.YtankopenjcbeeaaGreatDoords19
import Derived.Test.YtankopenjcbeeaaGreatDoords18
import Derived.Shelf.SlicesE.DeleteFunc
import Derived.Test.YtankopenjcbeeaaGreatDoords11
import Derived.Test.YtankopenjcbeeaaGreatDoords9
set_option linter.unusedSimpArgs false
set_option linter.unusedVariables false
noncomputable section
namespace Go.Proofs.YtankopenjcbeeaaGreatDoor
open Go Go.Sort Go.Proofs.Tryz
set_option linter.unusedVariables false
set_option maxRecDepth 100000
set_option linter.unusedSimpArgs false
abbrev qde:Nat:=12
abbrev S0:Nat:=32
noncomputable def QA:Code:=f12.body.getD .skip
noncomputable def IL:Code:=f32.body.getD .skip
theorem qeu:ZF Pg [12,20,26,36] qde f12 QA:=zf call12 func12 rfl mixed
theorem Sg{Γ:aP}{W:World}{cv:Value}{name:ac}(hB:qk GE Γ W)(hcv:VR Γ [] W (.eptr (cS name)) cv)(x:ac):Calls Pg S0 #[encStr x,cv] W λe w'=>e=.returned (.bool (x==name))/\w'=W:=by
 have hS:=hB.fresh (P:=Pg) (a:=#[]) 0 (tmps:=[]) rfl (λt p v hp=>by simp at hp)
 obtain⟨v5,hld,hv5⟩:=pl (P:=Pg) (t:=9) hS hcv (show gO Pg 9 (.eptr (cS name)) []=some (.str name)from cH Iw (.str name) [])
 have hv5':v5=encStr name:=by cases hv5;rfl
 subst hv5'
 refine calls_of_wp func32 (c:=IL) rfl ?_
 have hn:f32.ntmps=7:=by kernel_rfl
 refine(λ(key:∀A0:Act,A0.tmps.size=7->A0.tmps[0]? =some (encStr x)->A0.tmps[1]? =some cv->A0.defers=[]->IL.wp Pg _ A0 W)=>key _ ?_ ?_ ?_ rfl) ?_
 ·rw[hn];simp
 ·rw[hn];simp
 ·rw[hn];simp
 intro A0 z0 z1 z2 z3
 have hb:IL=.seq (.region (Hb (aC IL [false])) #[cx (aC IL [false]) 0] false) (.seq (.region (Hb (aC IL [true,false])) #[cx (aC IL [true,false]) 0,cx (aC IL [true,false]) 1,cx (aC IL [true,false]) 2,cx (aC IL [true,false]) 3] false) .ret):=by kernel_rfl
 rw[hb]
 have d0:(cx (aC IL [false]) 0).dst=some 3:=by kernel_rfl
 have o1:(cx (aC IL [true,false]) 0).op=.move (.tmp 0):=by kernel_rfl
 have d1:(cx (aC IL [true,false]) 0).dst=some 4:=by kernel_rfl
 have o2:(cx (aC IL [true,false]) 1).op=.load 9 (.tmp 1):=by kernel_rfl
 have d2:(cx (aC IL [true,false]) 1).dst=some 5:=by kernel_rfl
 have o3:(cx (aC IL [true,false]) 2).op=.binOp .eql 9 (.tmp 4) (.tmp 5) (qc7 (cx (aC IL [true,false]) 2)):=by kernel_rfl
 have d3:(cx (aC IL [true,false]) 2).dst=some 6:=by kernel_rfl
 have o4:(cx (aC IL [true,false]) 3).op=.assign (.tmp 6):=by kernel_rfl
 have d4:(cx (aC IL [true,false]) 3).dst=some 3:=by kernel_rfl
 refine wp_seq (uo (cm (o:=cx (aC IL [false]) 0) (by kernel_rfl) (by kernel_rfl) (v:=.bool false) (w':=W) (by kernel_rfl) ?_))
 rw[d0]
 show Code.wp Pg _ _ _ W
 refine wp_seq (uo (cm (o:=cx (aC IL [true,false]) 0) (by kernel_rfl) (by kernel_rfl) (v:=encStr x) (w':=W) ?_ ?_))
 ·have:(A0.put (some 3) (.bool false)).eval (.tmp 0)=encStr x:=aV (by simp only[ce];exact z1)
  simp[execOp,o1,this]
 rw[d1]
 refine cm (o:=cx (aC IL [true,false]) 1) (by kernel_rfl) (by kernel_rfl) (v:=encStr name) (w':=W) ?_ ?_
 ·have:((A0.put (some 3) (.bool false)).put (some 4) (encStr x)).eval (.tmp 1)=cv:=aV (by simp only[ce];exact z2)
  simp[execOp,o2,this,hld]
 rw[d2]
 generalize hA:((A0.put (some 3) (.bool false)).put (some 4) (encStr x)).put (some 5) (encStr name)=A2
 have x0:A2.tmps.size=7:=by rw[<-hA];simp only[bS];exact z0
 have x4:A2.tmps[4]? =some (encStr x):=by rw[<-hA];simp only[ce,bS,z0];rfl
 have x5:A2.tmps[5]? =some (encStr name):=by rw[<-hA];simp only[ce,bS,z0];rfl
 have x3:A2.defers=[]:=by rw[<-hA];simp only[aT];exact z3
 clear hA
 refine cm (o:=cx (aC IL [true,false]) 2) (by kernel_rfl) (by kernel_rfl) (v:=.bool (x==name)) (w':=W) ?_ ?_
 ·have e4:A2.eval (.tmp 4)=encStr x:=aV x4
  have e5:A2.eval (.tmp 5)=encStr name:=aV x5
  have hp:M7 Pg .eql 9 (.str x) (.str name)=some (.bool (x==name)):=rfl
  obtain⟨vb,hb1,hb2⟩:=Kg (P:=Pg) (w:=W) (Γ:=Γ) (bs:=[]) (vx:=encStr x) (vy:=encStr name) (.str x) (.str name) (.tmp 4) (.tmp 5) hp
  have hv:vb=.bool (x==name):=by cases hb2;rfl
  subst hv
  simp only[execOp,o3,Sem.run_bind,e4,e5]at hb1 ⊢
  rw[hb1];rfl
 rw[d3]
 refine cm (o:=cx (aC IL [true,false]) 3) (by kernel_rfl) (by kernel_rfl) (v:=.bool (x==name)) (w':=W) ?_ ?_
 ·have:(A2.put (some 6) (.bool (x==name))).eval (.tmp 6)=.bool (x==name):=aV (by simp only[ce,bS,x0];rfl)
  simp[execOp,o4,this]
 rw[d4]
 show Code.wp Pg _ _ _ W
 refine wp_ret ⟨by simp only[aT];exact x3,.bool (x==name),?_,rfl,rfl⟩
 have hg:((A2.put (some 6) (.bool (x==name))).put (some 3) (.bool (x==name))).tmps[3]? =some (.bool (x==name)):=by simp only[ce,bS,x0];rfl
 simp[results,vas,hg]
theorem Vp{Γ1 Γ2:aP}{w1 w2:World}{cv v5:Value}{p:ac->Bool}{l:List ac}{ow2:Nat->Option fR}(hB1:qk GE Γ1 w1)
  (gives:∀(W:World) (x:ac),(∀j,j<w1.heap.size->W.heap[j]? =w1.heap[j]?)->FnGives Pg S0 #[cv] #[encStr x] (.bool (p x)) W)
  (h2:SR Pg (oW GE Γ1 w1) Γ2 [] ow2 w2 #[v5] ⟨[sl cS l],[],[((0,0),eS)]⟩) (hl:l.length<=bF) (hne:l≠[]):
  Calls Pg VY #[v5,.func (.func S0) #[] #[cv]] w2 λe w3=>∃v7 Γ3,e=.returned v7/\VR Γ3 [] w3 (sl cS (l.filter λs=>!p s)) v7/\UB Γ1 Γ3 w1 w3:=by
 have hk2:∀b,b<w1.heap.size->w2.heap[b]? =w1.heap[b]?:=λb hb=>(h2.step.keep b hb id).1
 obtain⟨u,v,hu,hpv,hown,hob⟩:=h2.ot 0 0 eS (by simp)
 have hvu:u=v5:=by simpa using hu.symm
 subst hvu
 have hvr:VR Γ2 [] w2 (sl cS l) u:=h2.tm 0 _ _ rfl rfl
 unfold sl at hvr
 generalize hes:l.map cS=es at hvr
 cases hvr with
 | sliceNil =>
  have hn:l=[]:=by cases l with
   |nil=>rfl
   |cons x l=>simp at hes
  exact absurd hn hne
 | sliceE x cap =>
  have hn:l=[]:=by cases l with
   |nil=>rfl
   |cons x l=>simp at hes
  exact absurd hn hne
 | slice _ b off cap m sz vals hz0 hcap hg hm hszs hc hvv =>
  rw[vW]at hpv
  cases hpv
  obtain⟨k,xs,⟨hx1,hx2⟩,hx3⟩:=hown
  rcases hx2 with⟨hx2,_⟩|⟨g',cap',cur,hx2,_,hheap,hkc,hcm,hcs,htake⟩
  ·cases hx2
  ·cases hx2
   subst hes
   rw[Vo,vbl]at hcs htake
   have hlen:(l.map cS).length=l.length:=by simp
   have hcap':l.length<=cap:=by rw[<-hlen];exact hcap
   have hcs':cur.size=cap:=by omega
   have hbl:=h2.on b _ (hob b rfl)
   have hb1:w1.heap.size<=b:=hbl.2.resolve_left id
   have hcell:=HS (Γ:=Γ2) hszs hc hvv
   have hrow:cur.toList.take l.length=l.map λs=>Value.string ⟨s.toArray⟩:=by
    refine vaL λi=>?_
    by_cases hi:i<l.length
    ·rw[vao hi]
     simp only[vaA,vah,vaa hi,van]
     have e1:=hcell i hi
     rw[vaD,cell_of_row w2 b i cur eS _ hheap,getElem!_pos l i hi]at e1
     rw[e1]
    ·rw[vav (by simp;omega),vav (by simp;omega)]
   have hcall:=AnyE.slices_DeleteFunc (P:=Pg) Tryz.df31 encStr (λ_=>rfl) p S0 #[cv] call32 [] Tryz.zeroValue9 b 0 cap l.toArray w2
    (λW x hb=>gives W x λj hj=>(hb.block j (vau hj h2.step.size)).trans (hk2 j hj))
    (λn os dk x hdk=>gives _ x λj hj=>by
     obtain⟨k1,_⟩:=sS (n:=n) (os:=os) dk.toList [] hheap (by rw[Array.length_toList,hdk];simp;omega) (by simp)
     rw[Array.toArray_toList]at k1
     exact(k1 j (vau hj h2.step.size) (by omega)).trans (hk2 j hj))
    (FC hheap hrow) (by simp;unfold bF at hl;omega) (by simpa using hcap)
   have hsz5:l.toArray.size=l.length:=by simp
   rw[hsz5]at hcall
   rw[hlen]
   refine hcall.mono λe w3 he=>?_
   obtain⟨rfl,q,rfl⟩:=he
   generalize hR:(l.filter λx=>!p x)=r
   have hrl:r.length<=l.length:=by rw[<-hR];exact vbp _ _
   obtain⟨k1,k2,cur',k3,k4,k5⟩:=sS (n:=q) (os:=#[]) (r++List.replicate (l.length - r.length) []) r hheap (by simp;omega) (by simp)
   rw[grow_empty]at k1 k2 k3
   refine⟨_,Γ1.put b r.length,rfl,?_,λx n hx=>?_,λx hx=>⟨?_,Γ1.put_other (by omega)⟩,h2.step.os,h2.step.tape,h2.step.output,vay h2.step.size k2,vay h2.step.drawn (vD (vbq _ _))⟩
   ·have:=VR.slice (Γ:=Γ1.put b r.length) (bs:=[]) (w:=putRow encStr (Sort.ahead w2 q) b 0 (r++List.replicate (l.length - r.length) []).toArray) (r.map cS) b 0 cap r.length 1 (λi _=>.string ⟨(r[i]!).toArray⟩) (by decide) (by simp;omega) (Γ1.put_same _ _) (by simp)
     (λi x hx=>by rw[vah]at hx;cases hf:r[i]? with
      |none=>rw[hf]at hx;cases hx
      |some s=>rw[hf]at hx;cases hx;rfl)
     (λi x k q' hx hq=>by
      rw[vah]at hx
      cases hf:r[i]? with
      |none=>rw[hf]at hx;cases hx
      |some s=>
       rw[hf]at hx;cases hx
       have hil:=ah hf
       have hk:k=0:=by have:=ah hq;simp[cS]at this;exact this
       subst hk
       rw[show 0+i * 1+0=i by omega,cell_of_row _ b i cur' eS _ k3]
       have h1:(cur'.toList.take r.length)[i]? =(r.map λs=>Value.string ⟨s.toArray⟩)[i]?:=by rw[k5]
       rw[vao hil]at h1
       simp only[vaA,vah]at h1
       rw[h1]
       simp[hil])
     (λi x k q' hx hq=>by
      rw[vah]at hx
      cases hf:r[i]? with
      |none=>rw[hf]at hx;cases hx
      |some s=>
       rw[hf]at hx;cases hx
       have hk:k=0:=by have:=ah hq;simp[cS]at this;exact this
       subst hk
       simp[cS]at hq;subst hq
       have:r[i]! =s:=by rw[vbE,hf];rfl
       rw[this]
       exact .str s)
    rw[vbd]at this
    exact this
   ·by_cases hxb:x=b
    ·subst hxb;rw[Γ1.put_same]at hx;cases hx;exact⟨cur',eS,(0,0),k3,by omega⟩
    ·rw[Γ1.put_other hxb]at hx
     obtain⟨c,t,fr,q1,q2⟩:=hB1.wi x n hx
     have hxl:=cM q1
     exact⟨c,t,fr,((k1 x (vau hxl h2.step.size) hxb).trans (hk2 x hxl)).trans q1,q2⟩
   ·exact(k1 x (vau hx h2.step.size) (by omega)).trans (hk2 x hx)
section
variable(cv:Value)(t30:(List bD))(t31:Int)(v:(List ac))(t32:Int)
def mI:ay:=aM 47 [(3,.val cv),(9,sl cS v),(30,sl aQ t30),(31,.int .i64 t31),(32,.int .i64 t32)] [] [((30,0),65),((9,0),eS)]
def jL(o:(List ac)):ay:=aM 47 [(3,.val cv),(9,sl cS o)] [] [((9,0),eS)]
instance iS_depend_Of_L1:KS 0 (mI cv t30 t31 v t32):=⟨rfl,(bk (aI vzz (aI (up (ak eU v)) (aI (up (ak fZ t30)) (aI vzz (aI vzz vzz)))))),vzz⟩
instance iO_depend_Of_L1{o:((List ac))}:KS 0 (jL cv o):=⟨rfl,(bk (aI vzz (aI (up (ak eU o)) trivial))),vzz⟩
def Bk:Option (((List ac)×Int)⊕(((List ac)))):=
 if decide (t32<t31)=true then
  (dw t30 t32).bind λx7=>
  (app v ([x7.Name]:List ac)).bind λl8=>
  some (.inl (l8,fh (t32+1)))
 else
  some (.inr v)
def yI:Option (((List ac))):=loop (λ(zz:(List ac)×Int)=>Bk t30 t31 zz.1 zz.2) (v,t32)
theorem Hk:OL 0 (cA QA 503) (Bk t30 t31 v t32) (λ(zz:(List ac)×Int)=>mI cv t30 t31 zz.1 zz.2) (λ_=>.exit 0) (jL cv) (mI cv t30 t31 v t32):=qeu.lx<|
 tF (tb λx7 bx7=>tb λl8 bl8=>tv (AV.ia (k:=.i64) bx7)<|tv (vS x7)<|tx zt<|tx (dQ x7)<|ts<|tv (bK [x7.Name] 1 rfl)<|tv (cz.ap bl8)<|tE)<|tE
theorem IN:OJ 0 (.loop (cA QA 503)) (yI t30 t31 v t32) (.exit 0) (jL cv) (mI cv t30 t31 v t32):=sQ λ_=>Hk _ _ _ _ _
end
def LR(m:aw)(name:ac):Option (List ac):=
 (ed m name).bind λr1=>if(!r1.2)=true then none else
 (Bl m name).bind λr3=>(app r3.1 r3.2).bind λl4=>(kh m).bind λr5=>(yI r5 (r5.length:Int) l4 0).bind λo9=>
 if(!o9.isEmpty&&decide (o9.length<=bF))=true then By (o9.filter λs=>!(s==name)) []else none
abbrev Xw:Code:=aC QA [false]
abbrev Xu:Code:=aC QA [true,false]
abbrev Sv:Code:=aC QA [true,true,false]
abbrev Xx:Code:=aC QA [true,true,true,false]
abbrev Xv:Code:=aC QA [true,true,true,true,false]
abbrev n9:Code:=aC QA [true,true,true,true,true,false]
abbrev Um:Code:=aC QA [true,true,true,true,true,true,false]
theorem Ve:QA=.seq Xw (.seq Xu (.seq (.region (Nt Sv) (gf Sv) false) (.seq Xx (.seq Xv (.seq (.region (Hb n9) #[cx n9 0,cx n9 1,cx n9 2,cx n9 3] false) (.seq Um .ret)))))):=by kernel_rfl
abbrev V2(m:aw)(name:ac):ay:=aM 47 [(2,.eptr (aq m)),(3,.eptr (cS name))] [.dead,.dead] []
abbrev Xt(m:aw)(name:ac):ay:=aM 47 [(2,.eptr (aq m)),(3,.eptr (cS name)),(21,.agg (aq m)),(22,.str name)] [.dead,.dead] []
abbrev TH(m:aw)(name:ac)(cv:Value):ay:=aM 47 [(2,.eptr (aq m)),(3,.val cv),(21,.agg (aq m)),(22,.str name)] [] []
abbrev qcj(m:aw)(cv:Value)(c:List ac×List ac):ay:=aM 47 [(2,.eptr (aq m)),(3,.val cv),(7,sl cS c.1),(8,sl cS c.2)] [] [((7,0),eS)]
abbrev qck(m:aw)(cv:Value)(l:List ac):ay:=aM 47 [(2,.eptr (aq m)),(3,.val cv),(9,sl cS l)] [] [((9,0),eS)]
abbrev qdo(l:List ac):ay:=aM 47 [(4,sl cS l)] [] []
theorem qcl(m:aw)(name:ac):cC Pg GE 0 Xw (EX .normal (V2 m name)) (aM 47 [(0,.agg (aq m)),(1,.str name)] [] []):=by
 have z:=se (dM m)<|se (VC name)<|eF .normal (V2 m name)
 exact dX (A:=[]) mixed z (by kernel_rfl)
theorem qco{m:aw}{name:ac}{r:bD×Bool}(h:ed m name=some r)(c:(!r.2)=false):cC Pg GE 0 Xu (EX .normal (V2 m name)) (V2 m name):=by
 have z:=sv (bN m)<|sv (cH Iw (.str name) [])<|RE (dp r h)<|sx zt<|sx (dQ r.1)<|sg 0 c<|qdc 0 .normal (V2 m name) rfl (bk (aI (cT (bQ m)) (aI (cT (eU name)) trivial))) (aI vzz (aI vzz vzz))
 exact Jn (A:=[12]) mixed z (by kernel_rfl)
theorem qcm(m:aw)(cv:Value){c:List ac×List ac}{l:List ac}(h:app c.1 c.2=some l):cC Pg GE 0 Xx (EX .normal (qck m cv l)) (qcj m cv c):=by
 have z:=sv (cz.ap h)<|eF .normal (qck m cv l)
 exact dX (A:=[26]) mixed z (by kernel_rfl)
theorem qcn(m:aw)(cv:Value){rf:List bD}{l o:List ac}(h:kh m=some rf)(ho:yI rf (rf.length:Int) l 0=some o):cC Pg GE 0 Xv (EX .normal (jL cv o)) (qck m cv l):=by
 have z:=sv (bN m)<|RE (ra rf h)<|qdt (AV.ln rf)<|qe7 (IN cv rf (rf.length:Int) l 0 o ho)<|eF .normal (jL cv o)
 exact dX (A:=[]) mixed z (by kernel_rfl)
theorem Xy(l r:List ac)(h:By l []=some r):cC Pg GE 0 (.seq Um .ret) (EX .ret (qdo r)) (aM 47 [(9,sl cS l)] [] []):=by
 have z:=RE (J7 h)<|eF .ret (qdo r)
 exact dX (A:=[]) mixed z (by kernel_rfl)
theorem SR.alone{P:Program}{E:ko}{Γ:aP}{bs:bg}{ow:Nat->Option fR}{w:World}{a:Array Value}{st:ay}{t:Nat}{p:PVal}{v:Value}{e:TypeId}(h:SR P E Γ bs ow w a st)(hp:st.tmps[t]? =some p)(hv:a[t]? =some v)(ho:((t,0),e)∈st.own)(hc:p.cl 0):∃ow',SR P E Γ [] ow' w #[v] ⟨[p],[],[((0,0),e)]⟩:=by
 refine⟨λb=>if ow b=some (.tmp t 0)then some (.tmp 0 0)else none,{
  wi:=h.wi
  sz:=rfl
  tm:=λk q u hq hu=>?_
  bl:=rfl
  bx:=λi b B hi=>by simp at hi
  inj:=λi j b hi=>by simp at hi
  bn:=λi b hi=>by simp at hi
  on:=λb L hL=>?_
  ot:=λk j e' he=>?_
  ob:=λi j e cs own b hB=>by simp at hB
  gl:=λg cs hg=>(h.gl g cs hg).clo (show eP 0 cs from h.gc g cs hg)
  gc:=h.gc
  gx:=h.gx
  step:=h.step}⟩
 ·match k,hq,hu with
  |0,hq,hu=>simp at hq hu;subst hq;subst hu;exact(h.tm t p v hp hv).clo hc
  |k+1,hq,_=>simp at hq
 ·split at hL
  ·rename_i hx;exact h.on b _ hx
  ·cases hL
 ·simp at he
  obtain⟨⟨rfl,rfl⟩,rfl⟩:=he
  obtain⟨u,v',h1,h2,h3,h4⟩:=h.ot t 0 e' ho
  rw[hv]at h1;cases h1
  exact⟨v,v',rfl,h2,h3,λb hb=>vaJ (h4 b hb)⟩
theorem MD{m:aw}{name:ac}{r:List ac}(h:LR m name=some r):CC Pg GE qde [.agg (aq m),.str name] (sl cS r) []:=by
 obtain⟨r1,hr1,h⟩:=KZ h
 rcases OB h with⟨_,h⟩|⟨c1,h⟩
 ·cases h
 obtain⟨r3,hr3,h⟩:=KZ h
 obtain⟨l4,hl4,h⟩:=KZ h
 obtain⟨r5,hr5,h⟩:=KZ h
 obtain⟨o9,ho9,h⟩:=KZ h
 rcases OB h with⟨c2,h⟩|⟨_,h⟩
 rotate_left
 ·cases h
 rw[vaf,vap]at c2
 obtain⟨c2,c3⟩:=c2
 have hne:o9≠[]:=by rintro rfl;simp at c2
 refine⟨aI (bQ m) (aI vzz vzz),call12,λΓ bs ow w vs hS=>calls_of_wp func12 (c:=QA) rfl ?_⟩
 obtain rfl:bs=[]:=vag hS.bl
 have hsz:vs.size=2:=hS.sz
 have hB:qk GE Γ w:=hS.base
 have hE:mj GE 0 (oW GE Γ w):=hB.good
 have hn:f12.ntmps=47:=by kernel_rfl
 have h0:SR Pg (oW GE Γ w) Γ [] (λ_=>none) w (vs++Array.replicate (47 - 2) undef) (aM 47 [(0,.agg (aq m)),(1,.str name)] [] []):=by
  refine hB.fresh (a:=vs++Array.replicate (47 - 2) undef) 0 (tmps:=[.agg (aq m),.str name]++List.replicate 45 .undef) (by simp[hsz]) λt p v hp hv=>?_
  by_cases ht:t<2
  ·rw[vac (by simpa using ht)]at hp
   rw[vaH (by omega)]at hv
   exact hS.tm t p v hp hv
  ·rw[vae (by show 2<=t;omega),vaE]at hp
   split at hp<;>cases hp
   exact .undef v
 refine(λ(key:∀A0:Array Value,A0=vs++Array.replicate (47 - 2) undef->QA.wp Pg _ ⟨A0,[]⟩ w)=>key _ ?_) ?_
 ·rw[hn,hsz]
 rintro _ rfl
 rw[Ve]
 refine wp_seq (wp_mono (qcl m name none (oW GE Γ w) [] ⟨vs++Array.replicate (47 - 2) undef,[]⟩ w hE rfl ⟨Γ,[],_,h0,λi hi=>absurd hi (vaw _)⟩) ?_)
 rintro e ⟨a1,ds1⟩ w1 ⟨rfl,st1,⟨Γ1,bs1,ow1,h1,_⟩,rfl,rfl⟩
 refine wp_seq (wp_mono (qco hr1 c1 none (oW GE Γ w) [] ⟨a1,[]⟩ w1 hE rfl ⟨Γ1,bs1,ow1,h1,λi hi=>absurd hi (vaw _)⟩) ?_)
 rintro e ⟨a2,ds2⟩ w2 ⟨rfl,st2,⟨Γ2,bs2,ow2,h2,_⟩,rfl,rfl⟩
 refine wp_seq (uo ?_)
 rw[show List.range (gf Sv).size=[0,1]++([2,3,4,5,6,7]++[]) by kernel_rfl]
 have z1:=sv (bN m)<|sv (cH Iw (.str name) [])<|en (fr (Xt m name))
 refine BE (A:=[20]) (bs0:=bs2) (E:=oW GE Γ w) (K:=λst=>FG st (Xt m name)) (λΓ3 bs3 ow3 a3 w3 stx hx hfg hX=>?_) ((gf Sv).toList.take 2) _ 0 Γ2 bs2 ow2 a2 w2 (V2 m name) (by kernel_rfl) (pk (by kernel_rfl)) h2 ⟨[],by simp⟩ (BJ z1 (by kernel_rfl))
 clear hX
 obtain⟨Γ3,bs3,ow3,hb3,_⟩:=(hfg.weak (P:=Pg) (m:=0)) (oW GE Γ w) [] ⟨a3,[]⟩ w3 rfl ⟨Γ3,bs3,ow3,hx,λi hi=>absurd hi (vaw _)⟩
 simp only at hb3
 clear hx hfg
 have hB3:qk GE Γ3 w3:=hb3.base
 have hE3:mj GE 0 (oW GE Γ3 w3):=hB3.good
 have hz3:a3.size=47:=hb3.sz
 obtain⟨cv,hcv3⟩:∃cv,a3[3]? =some cv:=⟨a3[3]'(by omega),by simp[hz3]⟩
 have hcv:VR Γ3 [] w3 (.eptr (cS name)) cv:=(hb3.tm 3 _ _ rfl hcv3).clo (show eP 0 (cS name)from eU name)
 have hclB:eP 0 (Xt m name).tmps:=bk (aI (cT (bQ m)) (aI (cT (eU name)) (aI (show eP 0 (aq m)from bQ m) (aI vzz vzz))))
 have h3:SR Pg (oW GE Γ3 w3) Γ3 [] (λ_=>none) w3 a3 (TH m name cv):=by
  refine hB3.fresh 0 (tmps:=(TH m name cv).tmps) hz3 λt p v hp hv=>?_
  have he:(TH m name cv).tmps=(Xt m name).tmps.set 3 (.val cv):=rfl
  rw[he]at hp
  by_cases ht:3=t
  ·subst ht
   rw[vad (show 3<(Xt m name).tmps.length from vaB rfl)]at hp
   rw[hcv3]at hv
   cases hp;cases hv;exact .val _
  ·rw[vai ht]at hp
   exact(hb3.tm t p v hp hv).clo (ke hclB hp)
 have z2:=RE (Bo r3 hr3)<|en (fr (qcj m cv r3))
 refine BE (A:=[20]) (bs0:=[]) (E:=oW GE Γ3 w3) (K:=λst=>FG st (qcj m cv r3)) (λΓ4 bs4 ow4 a4 w4 stx hx hfg hX=>?_) ((gf Sv).toList.drop 2) _ 0 Γ3 [] _ a3 w3 (TH m name cv) (by kernel_rfl) (pk (by kernel_rfl)) h3 ⟨[],rfl⟩ (BJ z2 (by kernel_rfl))
 clear hX
 obtain⟨Γ4,bs4,ow4,h4,_⟩:=(hfg.weak (P:=Pg) (m:=0)) (oW GE Γ3 w3) [] ⟨a4,[]⟩ w4 rfl ⟨Γ4,bs4,ow4,hx,λi hi=>absurd hi (vaw _)⟩
 simp only at h4
 clear hx hfg
 show Code.wp Pg _ _ _ w4
 refine wp_seq (wp_mono (qcm m cv hl4 none (oW GE Γ3 w3) [] ⟨a4,[]⟩ w4 hE3 rfl ⟨Γ4,bs4,ow4,h4,λi hi=>absurd hi (vaw _)⟩) ?_)
 rintro e ⟨a5,ds5⟩ w5 ⟨rfl,st5,⟨Γ5,bs5,ow5,h5,_⟩,rfl,rfl⟩
 refine wp_seq (wp_mono (qcn m cv hr5 ho9 none (oW GE Γ3 w3) [] ⟨a5,[]⟩ w5 hE3 rfl ⟨Γ5,bs5,ow5,h5,λi hi=>absurd hi (vaw _)⟩) ?_)
 rintro e ⟨a6,ds6⟩ w6 ⟨rfl,st6,⟨Γ6,bs6,ow6,h6,_⟩,rfl,rfl⟩
 have hz6:a6.size=47:=h6.sz
 obtain⟨v9,hv9⟩:∃v9,a6[9]? =some v9:=⟨a6[9]'(by omega),by simp[hz6]⟩
 have hc6:a6[3]? =some cv:=by
  obtain⟨u,hu⟩:∃u,a6[3]? =some u:=⟨a6[3]'(by omega),by simp[hz6]⟩
  have:=h6.tm 3 (.val cv) u rfl hu
  cases this;exact hu
 obtain⟨owA,hal⟩:=h6.alone (t:=9) (p:=sl cS o9) (e:=eS) rfl hv9 (va5.2 rfl) (ak eU o9)
 have o1:(cx n9 0).op=.move (.tmp 9):=by kernel_rfl
 have d1:(cx n9 0).dst=some 42:=by kernel_rfl
 have o2:(cx n9 1).op=.makeFunc (.func S0) #[] #[.tmp 3]:=by kernel_rfl
 have d2:(cx n9 1).dst=some 43:=by kernel_rfl
 have o3:(cx n9 2).op=.call {callee:=.value (.func VY),args:=#[.tmp 42,.tmp 43],argTypes:=LD (cx n9 2)}:=by kernel_rfl
 have d3:(cx n9 2).dst=some 44:=by kernel_rfl
 have o4:(cx n9 3).op=.assign (.tmp 44):=by kernel_rfl
 have d4:(cx n9 3).dst=some 9:=by kernel_rfl
 refine wp_seq (uo (cm (o:=cx n9 0) (by kernel_rfl) (by kernel_rfl) (v:=v9) (w':=w6) ?_ ?_))
 ·have:(Act.mk a6 []).eval (.tmp 9)=v9:=aV hv9
  simp[execOp,o1,this]
 rw[d1]
 refine cm (o:=cx n9 1) (by kernel_rfl) (by kernel_rfl) (v:=.func (.func S0) #[] #[cv]) (w':=w6) ?_ ?_
 ·have:((Act.mk a6 []).put (some 42) v9).eval (.tmp 3)=cv:=aV (by simp only[ce];exact hc6)
  simp[execOp,o2,this]
  rfl
 rw[d2]
 generalize hA2:((Act.mk a6 []).put (some 42) v9).put (some 43) (.func (.func S0) #[] #[cv])=A2
 have x0:A2.tmps.size=47:=by rw[<-hA2];simp only[bS];exact hz6
 have x5:A2.tmps[42]? =some v9:=by rw[<-hA2];simp only[ce,bS,hz6];rfl
 have x6:A2.tmps[43]? =some (.func (.func S0) #[] #[cv]):=by rw[<-hA2];simp only[ce,bS,hz6];rfl
 have x3:A2.defers=[]:=by rw[<-hA2];simp only[aT]
 clear hA2
 have hrun2:=ya (a:=A2) (w:=w6) o3 call31
 rw[show(#[Operand.tmp 42,.tmp 43]:Array Operand).map A2.eval=#[v9,.func (.func S0) #[] #[cv]] by simp[aV x5,aV x6]]at hrun2
 have gives:∀(W:World) (x:ac),(∀j,j<w3.heap.size->W.heap[j]? =w3.heap[j]?)->FnGives Pg S0 #[cv] #[encStr x] (.bool (x==name)) W:=λW x hW=>by
  obtain⟨hBW,hle⟩:=hB3.same hW
  refine(Sg hBW (hcv.mono hle (.refl _)) x).mono λe w' he=>?_
  obtain⟨rfl,rfl⟩:=he
  exact⟨rfl,0,rfl⟩
 refine FW (o:=cx n9 2) (by kernel_rfl) (by kernel_rfl) hrun2 (Vp hB3 gives hal c3 hne) ?_
 rintro e w7 ⟨v7,Γ7,rfl,hv7,hW⟩
 refine⟨_,rfl,?_⟩
 rw[d3]
 refine cm (o:=cx n9 3) (by kernel_rfl) (by kernel_rfl) (v:=v7) (w':=w7) ?_ ?_
 ·have:(A2.put (some 44) v7).eval (.tmp 44)=v7:=aV (by simp only[ce,bS,x0];rfl)
  simp[execOp,o4,this]
 rw[d4]
 generalize hA3:(A2.put (some 44) v7).put (some 9) v7=A3
 have u0:A3.tmps.size=47:=by rw[<-hA3];simp only[bS];exact x0
 have u9:A3.tmps[9]? =some v7:=by rw[<-hA3];simp only[ce,bS,x0];rfl
 have u3:A3.defers=[]:=by rw[<-hA3];simp only[aT];exact x3
 clear hA3
 obtain⟨a7,ds7⟩:=A3
 simp only at u0 u9 u3
 subst u3
 have hlt3:∀b n,Γ3 b=some n->b<w3.heap.size:=λb n h=>by obtain⟨c,t,fr,q1,_⟩:=hB3.wi b n h;exact cM q1
 have hle:Γ3.Le w3 Γ7 w7:=λb n hb _=>⟨n,by rw[(hW.keep b (hlt3 b n hb)).2];exact hb,vaj _,λo _=>bj (hW.keep b (hlt3 b n hb)).1 o⟩
 have hB7:qk GE Γ7 w7:={
  wi:=hW.wi
  gl:=λg cs hg=>(hB3.gl g cs hg).mono hle (.refl _)
  gc:=hB3.gc
  gx:=λg cs hg=>by
   obtain⟨k1,c,t,fr,k2,k3⟩:=hB3.gx g cs hg
   have:=(hW.keep g k1).1.trans k2
   exact⟨cM this,c,t,fr,this,k3⟩}
 have h7:SR Pg (oW GE Γ7 w7) Γ7 [] (λ_=>none) w7 a7 (aM 47 [(9,sl cS (o9.filter λs=>!(s==name)))] [] []):=by
  refine hB7.fresh 0 (tmps:=(List.replicate 47 PVal.undef).set 9 (sl cS (o9.filter λs=>!(s==name)))) (by simp[u0]) λt p v hp hv=>?_
  by_cases ht:9=t
  ·subst ht
   rw[vad (by simp)]at hp
   rw[u9]at hv
   cases hp;cases hv;exact hv7
  ·rw[vai ht,vaE]at hp
   split at hp<;>cases hp
   exact .undef v
 show Code.wp Pg _ _ _ w7
 refine wp_mono (Xy _ r h none (oW GE Γ7 w7) [] ⟨a7,[]⟩ w7 hB7.good rfl ⟨Γ7,[],_,h7,λi hi=>absurd hi (vaw _)⟩) ?_
 rintro e ⟨a8,ds8⟩ w8 ⟨rfl,st8,⟨Γ8,bs8,ow8,h8,_⟩,rfl,rfl⟩
 obtain⟨vr,e1,e2,e3⟩:=j5 h8 (fn:=f12) (r:=sl cS r) (by kernel_rfl)
 have hB8:qk GE Γ8 w8:=h8.base
 have hF:=hB8.fresh (P:=Pg) (a:=#[vr]) 0 (tmps:=[sl cS r]) rfl (λt p v hp hv'=>by
  match t,hp,hv' with
  |0,hp,hv'=>simp at hp hv';subst hp;subst hv';exact e2.clo (ak eU r)
  |t+1,hp,_=>simp at hp)
 have s37:w3.heap.size<=w7.heap.size:=hW.size
 refine⟨rfl,vr,e1,vr,Γ8,λ_=>none,rfl,{hF with
  bn:=λi b hb=>by simp at hb
  on:=λb L hL=>by simp at hL
  gx:=hS.gx
  step:=⟨h8.step.os.trans (hW.os.trans hb3.step.os),h8.step.tape.trans (hW.tape.trans hb3.step.tape),h8.step.output.trans (hW.output.trans hb3.step.output),vay hb3.step.size (vay s37 h8.step.size),vay hb3.step.drawn (vay hW.drawn h8.step.drawn),λb hb _=>?_,hb3.step.le.trans (hle.trans h8.step.le)⟩}⟩
 have k1:=hb3.step.keep b hb id
 have hb':b<w3.heap.size:=vau hb hb3.step.size
 have k2:=hW.keep b hb'
 have k3:=h8.step.keep b (vau hb' s37) id
 exact⟨k3.1.trans (k2.1.trans k1.1),k3.2.trans (k2.2.trans k1.2)⟩
open Go Go.Proofs.Tryz
noncomputable def b9:Code:=Tryz.f9.body.getD .skip
def A9:List Nat:=[]
theorem Z9:ZF Pg A9 9 Tryz.f9 b9:=zf call9 func9 rfl mixed
def Co:Option Bool:=
 (rX ([102]:ac) true ([103]:ac) 1).bind λr1=>
 (rX ([103]:ac) true ([]:ac) 1).bind λr2=>
 (rX ([102]:ac) true ([103]:ac) 1).bind λr3=>
 (rX ([103]:ac) true ([]:ac) 2).bind λr4=>
 (rX ([102]:ac) true ([103]:ac) 1).bind λr5=>
 (rX ([103]:ac) false ([]:ac) 1).bind λr6=>
 (rX ([102]:ac) true ([103]:ac) 1).bind λr7=>
 (rX ([103]:ac) false ([]:ac) 2).bind λr8=>
 (lV ([]:ac)).bind λr9=>
 if (r9 == 2166136261) = true then
  (lV ([97]:ac)).bind λr11=>
  if (r11 == 3826002220) = true then
   (sY (⟨([]:List eZ),([]:List dO),([]:List bR),([]:List cf),([]:List e8),([r1,r2]:List bD)⟩:aw) (⟨([]:List eZ),([]:List dO),([]:List bR),([]:List cf),([]:List e8),([r3,r4]:List bD)⟩:aw)).bind λr14=>
   (E5 r14 ([([103]:ac)]:List ac)).bind λr15=>
   if r15=true then
    (sY (⟨([]:List eZ),([]:List dO),([]:List bR),([]:List cf),([]:List e8),([r5,r6]:List bD)⟩:aw) (⟨([]:List eZ),([]:List dO),([]:List bR),([]:List cf),([]:List e8),([r7,r8]:List bD)⟩:aw)).bind λr18=>
    (E5 r18 ([([102]:ac),([103]:ac)]:List ac)).bind λr19=>
    if r19=true then
     (LR (⟨([]:List eZ),([]:List dO),([]:List bR),([]:List cf),([]:List e8),([r1,r2]:List bD)⟩:aw) ([102]:ac)).bind λr22=>
     (E5 r22 ([([103]:ac)]:List ac)).bind λr23=>
     if r23=true then
      (oY (⟨([]:List eZ),([]:List dO),([]:List bR),([]:List cf),([]:List e8),([r1,r2]:List bD)⟩:aw) ([103]:ac)).bind λr26=>
      if(r26==([97,115,115,117,109,101,32,103,32,40,120,41,32,58,32,40,120,32,58,32,73,110,116,41,32,45,62,32,73,110,116]:ac))=true then
       (sX (⟨([]:List eZ),([]:List dO),([]:List bR),([]:List cf),([]:List e8),([r1,r2]:List bD)⟩:aw) ([102]:ac)).bind λr29=>
       if((r29.length:Int)==0)=true then
        (pE (⟨([]:List eZ),([]:List dO),([]:List bR),([]:List cf),([]:List e8),([r1,r2]:List bD)⟩:aw) ([104]:ac)).bind λr32=>
        some (r32==0)
       else
        some false
      else
       some false
     else
      some false
    else
     some false
   else
    some false
  else
   some false
 else
  some false
theorem E9:OV 9 [] Co (λr=>.bool r) []:=Z9.v<|
 tb λr1 br1=>tb λr2 br2=>tb λr3 br3=>tb λr4 br4=>tb λr5 br5=>tb λr6 br6=>tb λr7 br7=>tb λr8 br8=>tb λr9 br9=>ck (jJ _ br1)<|ck (jJ _ br2)<|tv (AV.mk' (v:=H6) BF ([r1,r2]:List bD) 2 (by kernel_rfl))<|Mf (rZ ([r1,r2]:List bD)) (rY ([r1,r2]:List bD))<|tx TQ<|ty (pd (⟨([]:List eZ),([]:List dO),([]:List bR),([]:List cf),([]:List e8),([r1,r2]:List bD)⟩:aw))<|ck (jJ _ br3)<|ck (jJ _ br4)<|tv (AV.mk' (v:=H6) BF ([r3,r4]:List bD) 2 (by kernel_rfl))<|Mf (rZ ([r3,r4]:List bD)) (rY ([r3,r4]:List bD))<|tx TQ<|ty (pd (⟨([]:List eZ),([]:List dO),([]:List bR),([]:List cf),([]:List e8),([r3,r4]:List bD)⟩:aw))<|ck (jJ _ br5)<|ck (jJ _ br6)<|tv (AV.mk' (v:=H6) BF ([r5,r6]:List bD) 2 (by kernel_rfl))<|Mf (rZ ([r5,r6]:List bD)) (rY ([r5,r6]:List bD))<|tx TQ<|ty (pd (⟨([]:List eZ),([]:List dO),([]:List bR),([]:List cf),([]:List e8),([r5,r6]:List bD)⟩:aw))<|ck (jJ _ br7)<|ck (jJ _ br8)<|tv (AV.mk' (v:=H6) BF ([r7,r8]:List bD) 2 (by kernel_rfl))<|Mf (rZ ([r7,r8]:List bD)) (rY ([r7,r8]:List bD))<|tx TQ<|ty (pd (⟨([]:List eZ),([]:List dO),([]:List bR),([]:List cf),([]:List e8),([r7,r8]:List bD)⟩:aw))<|tf (λc10=>tb λr11 br11=>have pp13:=λ{X Y Z} (r:PV _ X Y Z)=>ck (kV _ br9)<|tg 3 c10<|ck (kV _ br11)<|r;tf (λc12=>tb λr14 br14=>tb λr15 br15=>have pp17:=λ{X Y Z} (r:PV _ X Y Z)=>pp13<|tg 7 c12<|tv (g7 (⟨([]:List eZ),([]:List dO),([]:List bR),([]:List cf),([]:List e8),([r1,r2]:List bD)⟩:aw) [])<|tv (g7 (⟨([]:List eZ),([]:List dO),([]:List bR),([]:List cf),([]:List e8),([r3,r4]:List bD)⟩:aw) [])<|ck (uW _ br14)<|tv (bK [([103]:ac)] 1 rfl)<|ck (A6 _ br15)<|r;tf (λc16=>tb λr18 br18=>tb λr19 br19=>have pp21:=λ{X Y Z} (r:PV _ X Y Z)=>pp17<|tg 14 c16<|tv (g7 (⟨([]:List eZ),([]:List dO),([]:List bR),([]:List cf),([]:List e8),([r5,r6]:List bD)⟩:aw) [])<|tv (g7 (⟨([]:List eZ),([]:List dO),([]:List bR),([]:List cf),([]:List e8),([r7,r8]:List bD)⟩:aw) [])<|ck (uW _ br18)<|tv (bK [([102]:ac),([103]:ac)] 2 rfl)<|ck (A6 _ br19)<|r;tf (λc20=>tb λr22 br22=>tb λr23 br23=>have pp25:=λ{X Y Z} (r:PV _ X Y Z)=>pp21<|tg 21 c20<|tv (g7 (⟨([]:List eZ),([]:List dO),([]:List bR),([]:List cf),([]:List e8),([r1,r2]:List bD)⟩:aw) [])<|ck (MD br22)<|tv (bK [([103]:ac)] 1 rfl)<|ck (A6 _ br23)<|r;tf (λc24=>tb λr26 br26=>have pp28:=λ{X Y Z} (r:PV _ X Y Z)=>pp25<|tg 27 c24<|tv (g7 (⟨([]:List eZ),([]:List dO),([]:List bR),([]:List cf),([]:List e8),([r1,r2]:List bD)⟩:aw) [])<|ck (qY _ br26)<|r;tf (λc27=>tb λr29 br29=>have pp31:=λ{X Y Z} (r:PV _ X Y Z)=>pp28<|tg 32 c27<|tv (g7 (⟨([]:List eZ),([]:List dO),([]:List bR),([]:List cf),([]:List e8),([r1,r2]:List bD)⟩:aw) [])<|ck (uS _ br29)<|cb (cz.ln r29)<|r;tf (λc30=>tb λr32 br32=>pp31<|tg 38 c30<|tv (g7 (⟨([]:List eZ),([]:List dO),([]:List bR),([]:List cf),([]:List e8),([r1,r2]:List bD)⟩:aw) [])<|ck (oX _ br32)<|tE) λc30=>pp31<|tg 38 c30<|tE) λc27=>pp28<|tg 32 c27<|tE) λc24=>pp25<|tg 27 c24<|tE) λc20=>pp21<|tg 21 c20<|tE) λc16=>pp17<|tg 14 c16<|tE) λc12=>pp13<|tg 7 c12<|tE) λc10=>ck (kV _ br9)<|tg 3 c10<|tE
noncomputable def qbp:Code:=f21.body.getD .skip
def qdJ:List Nat:=[9,19]
theorem qcT:ZF Pg qdJ 21 f21 qbp:=zf call21 func21 rfl mixed
section
variable(s:ac)(t6:Int)(v:Int)(t7:Int)
def yE:ay:=aM 20 [(0,.str s),(3,.int .i64 v),(6,.int .i64 t6),(7,.int .i64 t7)] [] []
def E6(o:Int):ay:=aM 20 [(3,.int .i64 o)] [] []
def mH:Option ((Int×Int)⊕(Int)):=
 if decide (t7<t6)=true then
  (uD s t7).bind λc2=>
  (re (fh ((NX .i64 v (IntKind.i64.wrap c2)) * 16777619)) 4294967296).bind λq3=>
  some (.inl (q3,fh (t7+1)))
 else
  some (.inr v)
def yD:Option Int:=loop (λ(zz:Int×Int)=>mH s t6 zz.1 zz.2) (v,t7)
theorem Js:OL 0 (cA qbp 119) (mH s t6 v t7) (λ(zz:Int×Int)=>yE s t6 zz.1 zz.2) (λ_=>.exit 0) E6 (yE s t6 v t7):=qcT.l<|
 tF (tb λc2 bc2=>tb λq3 bq3=>tv (nx (k:=.i64) underlying9 bc2)<|tv (qbY underlying5 underlying3 c2)<|tv (W6 (P:=Pg) (t:=3) (k:=.i64) bq3)<|tE)<|tE
theorem K2:OJ 0 (.loop (cA qbp 119)) (yD s t6 v t7) (.exit 0) E6 (yE s t6 v t7):=sQ λ_=>Js _ _ _ _
end
def Je(s:ac):Option Int:=
 (yD s (s.length:Int) 2166136261 0).bind λo4=>
 some o4
theorem OF{s:ac}:OV 21 [.str s] (Je s) (λr=>.int .i64 r) []:=qcT.v<|
 tb λo4 bo4=>cb (wr underlying9 s)<|cu (K2 s (s.length:Int) 2166136261 0 _ bo4)<|tE
noncomputable def b4:Code:=Tryz.f4.body.getD .skip
def A4:List Nat:=[]
theorem Z4:ZF Pg A4 4 Tryz.f4 b4:=zf call4 func4 rfl mixed
def sU(s:ac):Option Bool:=
 if decide ((s.length:Int)>10000)=true then
  Co.bind λr2=>
  some r2
 else
  (lV s).bind λr3=>
  (Je s).bind λr4=>
  if(r3==r4)=true then
   Co.bind λr7=>
   some r7
  else
   some false
theorem E8{s:ac}:OV 4 [.str s] (sU s) (λr=>.bool r) []:=Z4.v<|
 tf (λc1=>tb λr2 br2=>cb (wr underlying9 s)<|tg 4 c1<|ck (E9 _ br2)<|tE) λc1=>tb λr3 br3=>tb λr4 br4=>have pp6:=λ{X Y Z} (r:PV _ X Y Z)=>cb (wr underlying9 s)<|tg 4 c1<|ck (kV _ br3)<|ck (OF _ br4)<|r;tf (λc5=>tb λr7 br7=>pp6<|tg 11 c5<|ck (E9 _ br7)<|tE) λc5=>pp6<|tg 11 c5<|tE
open Go
theorem J6{σ X:Type}(n:Nat)(body:σ->Option (σ⊕X))(S:Nat->σ)(e:X)(hin:∀i,i<n->body (S i)=some (.inl (S (i+1))))(hend:body (S n)=some (.inr e)):loop body (S 0)=some e:=by
 have key:∀k i,k+i=n->loop body (S i)=some e:=by
  intro k
  induction k with
  |zero=>
   intro i hi
   have:i=n:=by omega
   subst this
   exact L2 hend
  |succ k ih=>
   intro i hi
   rw[Q5 (hin i (by omega))]
   exact ih (i+1) (by omega)
 exact key n 0 (by omega)
theorem RQ:Co=some true:=by kernel_rfl
theorem SV{a c:Nat}(ha:a<4294967296)(hc:c<256):a ^^^ c<4294967296:=Nat.xor_lt_two_pow (n:=32) ha (by omega)
theorem Ut{n:Int}(h0:0<=n)(h1:n<4294967296):IntKind.u32.wrap n=n:=by
 simp[IntKind.wrap,IntKind.bits,IntKind.signed];omega
theorem SU(n:Int):IntKind.u32.wrap n=n % 4294967296:=by
 simp[IntKind.wrap,IntKind.bits,IntKind.signed]
theorem Xp{a c:Nat}(ha:a<4294967296)(hc:c<256):NX .u32 a c=((a ^^^ c:Nat):Int):=by
 have h:=SV ha hc
 unfold NX
 rw[BitVec.toNat_xor,BitVec.toNat_ofInt,BitVec.toNat_ofInt]
 have e1:((a:Int) % ((2 ^ IntKind.u32.bits:Nat):Int)).toNat=a:=by
  show((a:Int) % 4294967296).toNat=a;omega
 have e2:((c:Int) % ((2 ^ IntKind.u32.bits:Nat):Int)).toNat=c:=by
  show((c:Int) % 4294967296).toNat=c;omega
 rw[e1,e2,Ut (by omega) (by omega)]
theorem Xo{a c:Nat}(ha:a<4294967296)(hc:c<256):NX .i64 a c=((a ^^^ c:Nat):Int):=by
 have h:=SV ha hc
 unfold NX
 rw[BitVec.toNat_xor,BitVec.toNat_ofInt,BitVec.toNat_ofInt]
 have e1:((a:Int) % ((2 ^ IntKind.i64.bits:Nat):Int)).toNat=a:=by
  show((a:Int) % 18446744073709551616).toNat=a;omega
 have e2:((c:Int) % ((2 ^ IntKind.i64.bits:Nat):Int)).toNat=c:=by
  show((c:Int) % 18446744073709551616).toNat=c;omega
 rw[e1,e2]
 exact E1 (by omega) (by omega)
def xo(s:ac):Nat->Nat
 |0=>2166136261
 |n+1=>((xo s n ^^^ (s[n]?.getD 0).toNat) * 16777619) % 4294967296
theorem JV(s:ac):∀n,xo s n<4294967296
 |0=>by show 2166136261<4294967296;omega
 |n+1=>Nat.mod_lt _ (by omega)
theorem qcD(s:ac)(hs:s.length<=10000):lV s=some ((xo s s.length:Nat):Int):=by
 have hl:pF s 2166136261 0=some (xo s s.length:Int):=by
  unfold pF
  refine J6 s.length (λzz:Int×Int=>iA s zz.1 zz.2) (λn=>((xo s n:Int),(n:Int))) _ (λi hi=>?_) ?_
  ·have ha:=JV s i
   have hc:(s[i]).toNat<256:=(s[i]).toNat_lt
   simp only[iA]
   rw[vaJ (by simp;omega),NV s i hi]
   simp only[vbc]
   rw[Ut (n:=((s[i].toNat:Nat):Int)) (by omega) (by omega),Xp ha hc,E1 (by omega) (by omega),SU]
   simp[xo,hi]
  ·simp only[iA]
   rw[vaM (by simp)]
 unfold lV
 rw[hl]
 have:=JV s s.length
 simp only[vbc]
 rw[show IntKind.i64.wrap ((xo s s.length:Nat):Int)=((xo s s.length:Nat):Int)from E1 (by omega) (by omega)]
theorem qcE(s:ac)(hs:s.length<=10000):Je s=some ((xo s s.length:Nat):Int):=by
 have hl:yD s (s.length:Int) 2166136261 0=some (xo s s.length:Int):=by
  unfold yD
  refine J6 s.length (λzz:Int×Int=>mH s (s.length:Int) zz.1 zz.2) (λn=>((xo s n:Int),(n:Int))) _ (λi hi=>?_) ?_
  ·have ha:=JV s i
   have hc:(s[i]).toNat<256:=(s[i]).toNat_lt
   have hx:=SV ha hc
   simp only[mH]
   rw[vaJ (by simp;omega),NV s i hi]
   simp only[vbc]
   rw[show IntKind.i64.wrap ((s[i].toNat:Nat):Int)=((s[i].toNat:Nat):Int)from E1 (by omega) (by omega),Xo ha hc,E1 (n:=((xo s i ^^^ s[i].toNat:Nat):Int) * 16777619) (by omega) (by omega),E1 (by omega) (by omega)]
   unfold re
   rw[vaM (by decide),Int.tmod_eq_emod_of_nonneg (by omega)]
   simp[xo,hi]
  ·simp only[mH]
   rw[vaM (by simp)]
 unfold Je
 rw[hl]
 rfl
theorem IR(x0:ac)(h:0<=1):sU x0=some true:=by
 unfold sU
 by_cases hs:x0.length<=10000
 ·rw[vaM (by simp;omega),qcD x0 hs,qcE x0 hs]
  simp only[vbc]
  rw[vaJ (by simp),RQ]
  rfl
 ·rw[vaJ (by simp;omega),RQ]
  rfl
end Go.Proofs.YtankopenjcbeeaaGreatDoor
