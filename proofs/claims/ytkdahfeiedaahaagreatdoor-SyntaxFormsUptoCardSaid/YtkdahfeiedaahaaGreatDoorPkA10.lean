/- PROVED: a part of the proof. Conditions: none. -/
import Derived.Test.YtkdahfeiedaahaaGreatDoorPkA8
import Derived.Test.YtkdahfeiedaahaaGreatDoorPkA4
import Derived.Maps.RangeRun
import Derived.Test.YtkdahfeiedaahaaGreatDoorPkA7
import Derived.Test.YtkdahfeiedaahaaGreatDoorPkA9
import Derived.Shelf.Sort.Plain
import Derived.Shelf.Slices.In.SortNone
noncomputable section
namespace Go.Proofs.YtkdahfeiedaahaaGreatDoor
open Go
set_option linter.unusedSimpArgs false
section
variable{P:Program}{E:uc}{Γ:bv}{bs:bQ}{ow:Nat->Option nQ}{w:World}{a:Array Value}{st:aB}
theorem SR.unown(h:SR P E Γ bs ow w a st){r s c:Nat}{m:Option Nat}{seen:Array Nat}(hr:w.heap[r]? =some (.mapIter m s seen c)):Γ r=none/\SR P E Γ bs (fun b=>if b=r then none else ow b) w a st:=by
 have hg:Γ r=none:=by
  cases hx:Γ r with
  |none=>rfl
  |some n=>obtain⟨c',t,fr,h1,_⟩:=h.wi r n hx;rw[hr]at h1;cases h1
 have hne:∀{v:Value} {e:TypeId} {b:Nat},ko P Γ w v e->v.ownBlock=some b->b≠r:=fun{v e b} ho hb hx=>by
  obtain⟨n,xs,_,o2⟩:=ho
  have:=o2 b hb
  rw[hx,hg]at this;cases this
 refine⟨hg,{h with
  on:=fun b L hL=>?_
  ot:=fun t k e he=>?_
  ob:=fun i j e cs own b hB hj hb=>?_}⟩
 ·split at hL
  ·cases hL
  ·exact h.on b L hL
 ·obtain⟨u,v,h1,h2,h3,h4⟩:=h.ot t k e he
  exact⟨u,v,h1,h2,h3,fun b hb=>by rw[vas (hne h3 hb)];exact h4 b hb⟩
 ·obtain⟨v,h1,h3,h4⟩:=h.ob i j e cs own b hB hj hb
  exact⟨v,h1,h3,fun b' hb'=>by rw[vas (hne h3 hb')];exact h4 b' hb'⟩
theorem SR.asEntry(h:SR P E Γ bs ow w a st):SR P ⟨E.GE,Γ,w,bG bs ow⟩ Γ bs ow w a st:={h with
 bn:=fun i b hb=>.inl (.inl ⟨i,hb⟩)
 on:=fun b L hL=>⟨(h.on b L hL).1,.inl (.inr (by rw[hL];simp))⟩
 gx:=fun g cs hg=>by
  obtain⟨k1,k2,k3,k4⟩:=h.gnow hg
  exact⟨k1,fun hT=>hT.elim (fun⟨i,hi⟩=>k2 i g hi rfl) (fun hx=>hx k3),k4⟩
 step:=.refl _ _ _ _}
theorem SR.rebaseE(h:SR P E Γ bs ow w a st){Γ':bv}{bs':bQ}{ow':Nat->Option nQ}{w':World}{a':Array Value}{st':aB}(h':SR P ⟨E.GE,Γ,w,bG bs ow⟩ Γ' bs' ow' w' a' st'):SR P E Γ' bs' ow' w' a' st':=by
 have hTE:∀b,bG bs ow b\/w.heap.size<=b->E.T b\/E.w.heap.size<=b:=fun b hb=>by
  rcases hb with(⟨i,hi⟩|hb)|hb
  ·exact h.bn i b hi
  ·cases hL:ow b with
   |none=>exact absurd hL hb
   |some L=>exact(h.on b L hL).2
  ·exact .inr (vay h.step.size hb)
 exact{h' with
  bn:=fun i b hb=>hTE b (h'.bn i b hb)
  on:=fun b L hL=>⟨(h'.on b L hL).1,hTE b (h'.on b L hL).2⟩
  gx:=h.gx
  step:={
   os:=h'.step.os.trans h.step.os
   tape:=h'.step.tape.trans h.step.tape
   output:=h'.step.output.trans h.step.output
   size:=vay h.step.size h'.step.size
   drawn:=vay h.step.drawn h'.step.drawn
   keep:=fun b hb hT=>by
    have hnT:¬bG bs ow b:=fun hx=>(hTE b (.inl hx)).elim hT fun hx=>absurd hb (vcT.2 hx)
    obtain⟨k1,k2⟩:=h.step.keep b hb hT
    obtain⟨q1,q2⟩:=h'.step.keep b (vaE hb h.step.size) hnT
    exact⟨q1.trans k1,q2.trans k2⟩
   le:=h.step.le.trans h'.step.le}}
end
theorem tu{P:Program}{a:Act}{w w':World}{Q:Exit->Act->World->Prop}{ops:Array Oper}{L:List Nat}{i:Nat}{o:Oper}{v:Value}(hi:ops[i]? =some o)(hg:o.guard=none)(hrun:(execOp a.eval o).run P w=.ok (.value v) w')
  (h:wpOps P ops Q L (a.put o.dst v) w'):wpOps P ops Q (i::L) a w:=by
 rw[wpOps_cons]
 unfold wpOp
 rw[hi]
 simp only
 rw[vaq (by simp[Region.wanted,hg])]
 refine .inl ?_
 unfold Oper.wp
 rw[hrun,Oper.upon_value]
 exact h
def kS(e:TypeId)(l:List ah)(iv:Value)(x:PVal):aB:=⟨[.undef,.undef,.undef,sl cS l,x,.undef,.undef,.undef,.undef,.val iv,.undef,.undef,.undef,.undef,.undef,.undef,.undef,.undef,.undef,.undef,.undef],[],[((3,0),e)]⟩
def zw(x:MapEntry):ah:=match x.key with
 |.string s=>s.data.toList
 |_=>[]
section
variable{P:Program}{GE:List (Nat×List PVal)}{E:uc}{e:TypeId}{es:Array MapEntry}{clock bm r:Nat}
abbrev R1(r:Nat):Value:=.pointer (some ⟨r,0,none⟩)
structure qc7(es:Array MapEntry)(vis:List MapEntry):Prop where
 sub:∀x∈vis,x∈es.toList
 nd:(vis.map (·.born)).Nodup
structure Hu(P:Program)(E:uc)(e:TypeId)(es:Array MapEntry)(clock bm r:Nat)(vis:List MapEntry)(x:PVal)(a:Act)(w:World):Prop where
 it:w.heap[r]? =some (.mapIter (some bm) clock (vis.map (·.born)).toArray clock)
 ex:∃Γ ow,SR P E Γ [] ow w a.tmps (kS e (vis.map zw) (R1 r) x)
theorem Hu.map(hE:xe GE 0 E)(hbm:E.w.heap[bm]? =some (.map es clock)){vis:List MapEntry}{x:PVal}{a:Act}{w:World}(h:Hu P E e es clock bm r vis x a w):w.heap[bm]? =some (.map es clock):=by
 obtain⟨Γ,ow,hS⟩:=h.ex
 rw[(hS.step.keep bm (vae.1 hbm).1 (hE.nt rfl bm)).1];exact hbm
theorem Hu.iv{vis:List MapEntry}{x:PVal}{a:Act}{w:World}(h:Hu P E e es clock bm r vis x a w):a.eval (.tmp 9)=R1 r:=by
 obtain⟨Γ,ow,hS⟩:=h.ex
 have h9:VR Γ [] w (.val (R1 r)) (a.eval (.tmp 9)):=hS.opv a.defers (.tmp 9)
 generalize a.eval (.tmp 9)=u at h9
 cases h9
 rfl
theorem Hu.size{vis:List MapEntry}{x:PVal}{a:Act}{w:World}(h:Hu P E e es clock bm r vis x a w):a.tmps.size=21:=by
 obtain⟨Γ,ow,hS⟩:=h.ex
 exact hS.sz
theorem Hu.put{vis:List MapEntry}{x:PVal}{a:Act}{w:World}(h:Hu P E e es clock bm r vis x a w){d:Nat}{v:Value}(hd:d=10\/d=11\/d=12\/d=13):Hu P E e es clock bm r vis x (a.put (some d) v) w:=by
 obtain⟨Γ,ow,hS⟩:=h.ex
 refine⟨h.it,Γ,ow,?_⟩
 have:=hS.set (d:=d) (p:=.undef) (v:=v) (.undef v)
 rcases hd with rfl|rfl|rfl|rfl<;>exact this
theorem Se(hE:xe GE 0 E)(hbm:E.w.heap[bm]? =some (.map es clock))(hb:LP es clock)(hr:E.w.heap.size<=r){ro:Option Nat}{i3:Nat}{o10 o11:Oper}
  (h1:o10.op=.next (.tmp 9) false) (h1d:o10.dst=some 10) (h1g:o10.guard=none) (h2:o11.op=.extract (.tmp 10) 0) (h2d:o11.dst=some 11) (h2g:o11.guard=none) {vis:List MapEntry} {x:PVal} {a:Act} {w:World} (h:Hu P E e es clock bm r vis x a w):
  Kh ro P (.region i3 #[o10,o11] false) (fun q a' w'=>q=.normal/\a'.defers=a.defers/\((a'.eval (.tmp 11)=.bool false/\(leftOf es (vis.map (·.born)).toArray).size=0/\Hu P E e es clock bm r vis x a' w')\/
   (a'.eval (.tmp 11)=.bool true/\∃y∈(leftOf es (vis.map (·.born)).toArray).toList,(w'.heap[r]? =some (.mapIter (some bm) clock ((vis.map (·.born)).toArray.push y.born) clock)/\∃Γ ow,SR P E Γ [] ow w' a'.tmps (kS e (vis.map zw) (R1 r) x))))) a w:=by
 refine Cg (by simp[fO,h1,h2]) (by rintro⟨_,_,hx,_⟩;cases hx) ?_
 show wpOps P #[o10,o11] _ [0,1] a w
 have hm:=h.map hE hbm
 have hsz:=h.size
 have hext:∀(v:Value) (w':World),(∃l:Array Value,∃b,v=.tuple l/\l[0]? =some (.bool b))->((execOp ((a.put o10.dst v).eval) o11).run P w'=.ok (.value (match v with|.tuple l=>l.getD 0 undef|_=>undef)) w'):=by
  rintro v w' ⟨l,b,rfl,hl⟩
  have:(a.put o10.dst (.tuple l)).eval (.tmp 10)=.tuple l:=by
   refine fJ ?_
   rw[h1d]
   show(a.tmps.setIfInBounds 10 _)[10]? =_
   simp[hsz]
  simp[execOp,h2,this,Instr.extract,hl]
 rcases run_next_at (P:=P) w o10.type r bm clock clock _ es clock h.it hm hb.2 (vaj _)with⟨hz,hrun⟩|⟨y,hy,w1,hw1,hrun⟩
 ·refine tu (o:=o10) rfl h1g (v:=.tuple #[.bool false]) (w':=w) (by simp[execOp,h1,h.iv,hrun]) ?_
  refine tu (o:=o11) rfl h2g (hext _ _ ⟨_,_,rfl,rfl⟩) ?_
  refine⟨rfl,by rw[cf,cf],.inl ⟨?_,hz,?_⟩⟩
  ·refine fJ ?_
   rw[h1d,h2d]
   show((a.tmps.setIfInBounds 10 _).setIfInBounds 11 _)[11]? =_
   simp[hsz]
  ·rw[h1d,h2d];exact(h.put (.inl rfl)).put (.inr (.inl rfl))
 ·refine tu (o:=o10) rfl h1g (v:=.tuple #[.bool true,y.key,y.val]) (w':=Go.ChangeMaps.setBlock w1 r (.mapIter (some bm) clock ((vis.map (·.born)).toArray.push y.born) clock)) (by simp[execOp,h1,h.iv,hrun]) ?_
  refine tu (o:=o11) rfl h2g (hext _ _ ⟨_,_,rfl,rfl⟩) ?_
  have hlt:r<w.heap.size:=(vae.1 h.it).1
  have hw1h:w1.heap=w.heap/\w1.os=w.os/\w1.tape=w.tape/\w1.output=w.output/\w.drawn<=w1.drawn:=by
   rcases hw1 with rfl|rfl
   ·exact⟨rfl,rfl,rfl,rfl,vaj _⟩
   ·exact⟨rfl,rfl,rfl,rfl,vcr _⟩
  obtain⟨k1,k2,k3,k4,k5⟩:=hw1h
  refine⟨rfl,by rw[cf,cf],.inr ⟨?_,y,hy,?_,?_⟩⟩
  ·refine fJ ?_
   rw[h1d,h2d]
   show((a.tmps.setIfInBounds 10 _).setIfInBounds 11 _)[11]? =_
   simp[hsz]
  ·show(w1.heap.setIfInBounds r _)[r]? =_
   rw[k1];simp[hlt]
  ·have h':=(h.put (v:=.tuple #[.bool true,y.key,y.val]) (.inl rfl)).put (d:=11) (v:=.bool true) (.inr (.inl rfl))
   obtain⟨Γ,ow,hS⟩:=h'.ex
   obtain⟨hg,hS⟩:=hS.unown h.it
   have hoth:∀b,b≠r->(Go.ChangeMaps.setBlock w1 r (.mapIter (some bm) clock ((vis.map (·.born)).toArray.push y.born) clock)).heap[b]? =w.heap[b]?:=fun b hb=>by
    show(w1.heap.setIfInBounds r _)[b]? =_
    rw[k1,vaI (fun x=>hb x.symm)]
   refine⟨Γ,fun b=>if b=r then none else ow b,?_⟩
   rw[h1d,h2d]
   refine hS.world (fun b=>b=r) (fun b m hb hm0=>⟨m,hb,vaj _,fun o _=>cx (hoth b fun x=>by rw[x,hg]at hb;cases hb) o⟩) (fun b m hb=>?_) k2 k3 k4 ?_ (fun b _ hb=>⟨hoth b hb,rfl⟩) (fun b hb=>by subst hb;exact .inr hr) (fun i b hb=>by simp at hb) (fun b L hL hx=>?_) k5
   ·obtain⟨c,t,fr,q1,q2⟩:=hS.wi b m hb
    exact⟨c,t,fr,(hoth b fun x=>by rw[x,hg]at hb;cases hb).trans q1,q2⟩
   ·show _<=(w1.heap.setIfInBounds r _).size
    rw[k1];simp
   ·subst hx;simp at hL
theorem Qm(hE:xe GE 0 E)(hbm:E.w.heap[bm]? =some (.map es clock))(hb:LP es clock){ro:Option Nat}{i4:Nat}{o12 o13 o4:Oper}
  (h1:o12.op=.entry (.tmp 9)) (h1d:o12.dst=some 12) (h1g:o12.guard=none) (h2:o13.op=.extract (.tmp 12) 0) (h2d:o13.dst=some 13) (h2g:o13.guard=none) (h3:o4.op=.assign (.tmp 13)) (h3d:o4.dst=some 4) (h3g:o4.guard=none)
  {vis:List MapEntry} {x:PVal} {y:MapEntry} (hy:y∈es.toList) (hk:y.key=.string ⟨(zw y).toArray⟩) {a:Act} {w:World} (hit:w.heap[r]? =some (.mapIter (some bm) clock ((vis.map (·.born)).toArray.push y.born) clock)) (h:∃Γ ow,SR P E Γ [] ow w a.tmps (kS e (vis.map zw) (R1 r) x)):
  Kh ro P (.region i4 #[o12,o13,o4] false) (fun q a' w'=>q=.normal/\a'.defers=a.defers/\w'=w/\∃Γ ow,SR P E Γ [] ow w a'.tmps (kS e (vis.map zw) (R1 r) (.str (zw y)))) a w:=by
 refine Cg (by simp[fO,h1,h2,h3]) (by rintro⟨_,_,hx,_⟩;cases hx) ?_
 show wpOps P #[o12,o13,o4] _ [0,1,2] a w
 obtain⟨Γ,ow,hS⟩:=h
 have hm:w.heap[bm]? =some (.map es clock):=by rw[(hS.step.keep bm (vae.1 hbm).1 (hE.nt rfl bm)).1];exact hbm
 have hsz:a.tmps.size=21:=hS.sz
 have h9:a.eval (.tmp 9)=R1 r:=by
  have h9:VR Γ [] w (.val (R1 r)) (a.eval (.tmp 9)):=hS.opv a.defers (.tmp 9)
  generalize a.eval (.tmp 9)=u at h9
  cases h9
  rfl
 have hrun:=run_entry_at (P:=P) w r bm clock _ es clock y hit hm hy hb.1
 refine tu (o:=o12) rfl h1g (v:=.tuple #[y.key,y.val]) (w':=w) (by simp[execOp,h1,h9,hrun]) ?_
 have e12:(a.put o12.dst (.tuple #[y.key,y.val])).eval (.tmp 12)=.tuple #[y.key,y.val]:=by
  refine fJ ?_
  rw[h1d]
  show(a.tmps.setIfInBounds 12 _)[12]? =_
  simp[hsz]
 refine tu (o:=o13) rfl h2g (v:=y.key) (w':=w) (by simp[execOp,h2,e12,Instr.extract]) ?_
 have e13:((a.put o12.dst (.tuple #[y.key,y.val])).put o13.dst y.key).eval (.tmp 13)=y.key:=by
  refine fJ ?_
  rw[h1d,h2d]
  show((a.tmps.setIfInBounds 12 _).setIfInBounds 13 _)[13]? =_
  simp[hsz]
 refine tu (o:=o4) rfl h3g (v:=y.key) (w':=w) (by simp[execOp,h3,e13]) ?_
 refine⟨rfl,by rw[cf,cf,cf],rfl,Γ,ow,?_⟩
 rw[h1d,h2d,h3d]
 have k1:=hS.set (d:=12) (p:=.undef) (v:=.tuple #[y.key,y.val]) (.undef _)
 have k2:=k1.set (d:=13) (p:=.undef) (v:=y.key) (.undef _)
 have k3:=k2.set (d:=4) (p:=.str (zw y)) (v:=y.key) (by rw[hk];exact .str _)
 exact k3
theorem RA:∀{l:List MapEntry},(l.map (·.born)).Nodup->∀{x y:MapEntry},x∈l->y∈l->x.born=y.born->x=y
 |[],_,x,y,hx,_,_=>by cases hx
 | z :: l,h,x,y,hx,hy,he => by
  rw[vaB,vbC]at h
  rcases vaC.1 hx with hx1|hx1<;>rcases vaC.1 hy with hy1|hy1
  ·rw[hx1,hy1]
  ·exact absurd (vah.2 ⟨y,hy1,by rw[<-he,hx1]⟩) h.1
  ·exact absurd (vah.2 ⟨x,hx1,by rw[he,hy1]⟩) h.1
  ·exact RA h.2 hx1 hy1 he
theorem xX{α β:Type}(f:α->β):∀{l:List α},(l.map f).Nodup->l.Nodup
 |[],_=>by simp
 |x::l,h=>by
  rw[vaB,vbC]at h
  exact vbC.2 ⟨fun hx=>h.1 (vah.2 ⟨x,hx,rfl⟩),xX f h.2⟩
theorem WK{vis:List MapEntry}{y:MapEntry}(hy:y∈(leftOf es (vis.map (·.born)).toArray).toList):y∈es.toList/\y.born∉vis.map (·.born):=by
 unfold leftOf at hy
 simp only[vcL,vaY,vaJ]at hy
 refine⟨hy.1,fun hx=>?_⟩
 have:=hy.2
 rw[<-vcy]at this
 exact this (by simpa using hx)
theorem U2{vis:List MapEntry}(hb:LP es clock)(hv:qc7 es vis)(hz:(leftOf es (vis.map (·.born)).toArray).size=0):vis.Perm es.toList:=by
 refine(List.perm_ext_iff_of_nodup (xX _ hv.nd) (xX _ hb.1)).2 fun x=>⟨hv.sub x,fun hx=>?_⟩
 have hin:x.born∈vis.map (·.born):=Classical.byContradiction fun hn=>by
  have:x∈(leftOf es (vis.map (·.born)).toArray).toList:=by
   unfold leftOf
   simp only[vcL,vaY,vaJ]
   refine⟨hx,?_⟩
   rw[<-vcy]
   exact fun hc=>hn (by simpa using hc)
  have h0:(leftOf es (vis.map (·.born)).toArray).toList.length=0:=by simpa using hz
  rw[vcu.1 h0]at this
  cases this
 obtain⟨v,hvm,he⟩:=vah.1 hin
 rw[<-RA hb.1 (hv.sub v hvm) hx he]
 exact hvm
theorem U1(hE:xe GE 0 E)(hbm:E.w.heap[bm]? =some (.map es clock))(hb:LP es clock)(hr:E.w.heap.size<=r)(hk:∀y∈es.toList,y.key=.string ⟨(zw y).toArray⟩){ro:Option Nat}{i3 i4:Nat}{o10 o11 o12 o13 o4:Oper}{c5:Code}
  (h1:o10.op=.next (.tmp 9) false) (h1d:o10.dst=some 10) (h1g:o10.guard=none) (h2:o11.op=.extract (.tmp 10) 0) (h2d:o11.dst=some 11) (h2g:o11.guard=none)
  (h3:o12.op=.entry (.tmp 9)) (h3d:o12.dst=some 12) (h3g:o12.guard=none) (h4:o13.op=.extract (.tmp 12) 0) (h4d:o13.dst=some 13) (h4g:o13.guard=none) (h5:o4.op=.assign (.tmp 13)) (h5d:o4.dst=some 4) (h5g:o4.guard=none)
  (h6:∀(l:List ah) (s:ah),l.length<es.size->aU P GE 1000 c5 (EX .normal (kS e (l++[s]) (R1 r) .undef)) (kS e l (R1 r) (.str s))) {a:Act} {w:World} (h:Hu P E e es clock bm r [] .undef a w):
  Kh ro P (.loop (.seq (.region i3 #[o10,o11] false) (.seq (.cond (.tmp 11) .skip (.exit 0)) (.block 1 (.seq (.region i4 #[o12,o13,o4] false) c5)))))
   (fun q a' w'=>q=.exit 0/\a'.defers=a.defers/\∃vis:List MapEntry,vis.Perm es.toList/\∃Γ ow,SR P E Γ [] ow w' a'.tmps (kS e (vis.map zw) (R1 r) .undef)) a w:=by
 refine Ec (fun k a' w'=>a'.defers=a.defers/\∃vis,qc7 es vis/\vis.length+k=es.size+1/\Hu P E e es clock bm r vis .undef a' w') (es.size+1) ⟨rfl,[],⟨by simp,by simp⟩,by simp,h⟩ ?_
 rintro k a1 w1 ⟨hd1,vis,hv,hlen,hR⟩
 refine HK (mI (Se hE hbm hb hr h1 h1d h1g h2 h2d h2g hR) fun q a2 w2 hq=>?_)
 obtain⟨rfl,hd2,hc⟩:=hq
 show Kh ro P (.seq _ _) _ a2 w2
 rcases hc with⟨hf,hz,hR2⟩|⟨ht,y,hy,hit,hS⟩
 ·refine HK (ME hf (fun hx=>by cases hx) fun _=>RI ?_)
  exact⟨rfl,hd2.trans hd1,vis,U2 hb hv hz,hR2.ex⟩
 ·obtain⟨hy1,hy2⟩:=WK hy
  refine HK (ME ht (fun _=>RJ ?_) fun hx=>by cases hx)
  show Kh ro P (.block 1 _) _ a2 w2
  refine O5 (HK (mI (Qm hE hbm hb h3 h3d h3g h4 h4d h4g h5 h5d h5g hy1 (hk y hy1) hit hS) fun q a3 w3 hq=>?_))
  obtain⟨rfl,hd3,rfl,Γ,ow,hS3⟩:=hq
  show Kh ro P c5 _ a3 w3
  have hnd:((vis++[y]).map (·.born)).Nodup:=by
   rw[vbg,vbX]
   exact⟨hv.nd,by simp,fun p hp q hq hpq=>by simp at hq;subst hq;subst hpq;exact hy2 hp⟩
  have hsub:∀x∈vis++[y],x∈es.toList:=fun x hx=>by
   rcases vaO.1 hx with hx|hx
   ·exact hv.sub x hx
   ·rw[vbm.1 hx];exact hy1
  have hle:vis.length<es.size:=by
   have:=(xX _ hnd).length_le_of_subset hsub
   simp at this
   omega
  obtain⟨hg,hS3⟩:=hS3.unown hit
  have hE':xe GE 1000 ⟨E.GE,Γ,w3,bG [] fun b=>if b=r then none else ow b⟩:={
   ge:=hE.ge
   low:=fun b n hb=>hS3.lt_of_ghost hb
   nt:=fun h0=>by cases h0
   gl:=fun g cs hg=>(hS3.gl g cs (by rw[hE.ge];exact hg))}
  have h7:=h6 (vis.map zw) (zw y) (by simpa using hle) ro _ [] a3 w3 hE' rfl ⟨Γ,[],_,hS3.asEntry,fun i _=>rfl⟩
  refine mI h7 fun q a4 w4 hq=>?_
  obtain⟨hd4,st,⟨Γ4,bs4,ow4,hS4,_⟩,rfl,rfl⟩:=hq
  have hb4:bs4=[]:=vap hS4.bl
  subst hb4
  show ∃n',n'<k/\_
  refine⟨k - 1,by omega,((hd4.trans hd3).trans hd2).trans hd1,vis++[y],⟨hsub,hnd⟩,by simp;omega,?_,Γ4,ow4,?_⟩
  ·have hrl:=(vae.1 hit).1
   rw[(hS4.step.keep r hrl fun hT=>hT.elim (fun⟨i,hi⟩=>by simp at hi) (fun hx=>hx (by simp))).1]
   simpa using hit
  ·have:=hS3.rebaseE hS4
   simpa using this
end
set_option linter.unusedVariables false
def EC(l:List ah):List ah:=l.mergeSort fun x y=>decide (x<=y)
abbrev Xy(x y:ah):Prop:=Op.bytesLess x y=true
theorem Jb:∀(x:ah),Op.bytesLess x x=false
 |[]=>rfl
 |a::x=>by
  unfold Op.bytesLess
  rw[Jb x]
  simp[UInt8.lt_irrefl]
theorem D3:∀{x y z:ah},Xy x y->Xy y z->Xy x z
 |_,_,[],h1,h2=>by simp[Xy,Op.bytesLess]at h2
 |_,[],_::_,h1,h2=>by simp[Xy,Op.bytesLess]at h1
 |[],_::_,_::_,_,_=>rfl
 | a :: x,b :: y,c :: z,h1,h2 => by
  unfold Xy Op.bytesLess at h1 h2 ⊢
  simp only[vaZ,vak,vad,vaW]at h1 h2 ⊢
  rcases h1 with h1|⟨rfl,h1⟩
  ·rcases h2 with h2|⟨rfl,h2⟩
   ·exact .inl (UInt8.lt_trans h1 h2)
   ·exact .inl h1
  ·rcases h2 with h2|⟨rfl,h2⟩
   ·exact .inl h2
   ·exact .inr ⟨rfl,D3 h1 h2⟩
theorem HD:∀{x y:ah},Op.bytesLess x y=false->Op.bytesLess y x=false->x=y
 |[],[],_,_=>rfl
 |[],_::_,h,_=>by simp[Op.bytesLess]at h
 |_::_,[],_,h=>by simp[Op.bytesLess]at h
 | a :: x,b :: y,h1,h2 => by
  unfold Op.bytesLess at h1 h2
  simp only[Bool.or_eq_false_iff,va1,Bool.and_eq_false_imp,vaW]at h1 h2
  have hab:a=b:=by
   have k1:=UInt8.not_lt.1 h1.1
   have k2:=UInt8.not_lt.1 h2.1
   exact UInt8.le_antisymm k2 k1
  subst hab
  rw[HD (h1.2 rfl) (h2.2 rfl)]
theorem YD:∀(x y:ah),Op.bytesLess x y=decide (x<y)
 |[],[]=>by simp[Op.bytesLess]
 |_::_,[]=>by simp[Op.bytesLess]
 |[],_::_=>by simp[Op.bytesLess]
 |a::x,b::y=>by
  unfold Op.bytesLess
  rw[YD x y,vbA]
  simp[List.cons_lt_cons_iff]
theorem T5(x y:ah):decide (x<=y)= !Op.bytesLess y x:=by
 rw[YD]
 rw[<-decide_not]
 rfl
theorem Q5(l:List ah):(EC l).Pairwise fun x y=>Op.bytesLess y x=false:=by
 have:=List.pairwise_mergeSort (le:=fun x y:ah=>decide (x<=y)) (fun a b c h1 h2=>by
  rw[T5]at h1 h2 ⊢
  simp only[vaJ]at h1 h2 ⊢
  cases h:Op.bytesLess c a with
  |false=>rfl
  | true =>
   exfalso
   by_cases hb:Op.bytesLess a b=true
   ·have:=D3 h hb
    unfold Xy at this
    rw[h2]at this
    cases this
   ·have:a=b:=HD (by simpa using hb) h1
    subst this
    rw[h2]at h
    cases h) (fun a b=>by
  rw[T5,T5]
  cases h:Op.bytesLess b a with
  |false=>rfl
  | true =>
   cases h':Op.bytesLess a b with
   |false=>rfl
   |true=>
    have:=D3 h h'
    unfold Xy at this
    rw[Jb]at this
    cases this) l
 refine List.Pairwise.imp ?_ this
 intro a b h
 rw[T5]at h
 simpa using h
def Tj(x:ah):List ah->List ah
 |[]=>[x]
 |y::r=>if Op.bytesLess y x=true then y::Tj x r else x::y::r
def Ga:List ah->List ah
 |[]=>[]
 |x::r=>Tj x (Ga r)
theorem Jh(x:ah):∀l,(Tj x l).Perm (x::l)
 |[]=>.refl _
 | y :: r => by
  unfold Tj
  split
  ·exact((Jh x r).cons y).trans (List.Perm.swap x y r)
  ·exact .refl _
theorem Cl:∀l,(Ga l).Perm l
 |[]=>.refl _
 |x::r=>(Jh x (Ga r)).trans ((Cl r).cons x)
abbrev XF(l:List ah):Prop:=l.Pairwise fun x y=>Op.bytesLess y x=false
theorem Kl(x:ah):∀{l},XF l->XF (Tj x l)
 |[],_=>by simp[Tj,XF]
 | y :: r,h => by
  unfold XF at h ⊢
  have h':=vbK.1 h
  unfold Tj
  split
  ·rename_i hy
   rw[vbK]
   refine⟨fun z hz=>?_,Kl x h'.2⟩
   rcases vaC.1 ((Jh x r).mem_iff.1 hz)with rfl|hz
   ·cases hc:Op.bytesLess z y with
    |false=>rfl
    |true=>have:=D3 hy hc;unfold Xy at this;rw[Jb]at this;cases this
   ·exact h'.1 z hz
  ·rename_i hy
   have hy:Op.bytesLess y x=false:=by simpa using hy
   rw[vbK]
   refine⟨fun z hz=>?_,h⟩
   rcases vaC.1 hz with rfl|hz
   ·exact hy
   ·have hz:=h'.1 z hz
    cases hc:Op.bytesLess z x with
    |false=>rfl
    | true =>
     exfalso
     by_cases hxy:Op.bytesLess x y=true
     ·have:=D3 hc hxy
      unfold Xy at this
      rw[hz]at this;cases this
     ·have:x=y:=HD (by simpa using hxy) hy
      subst this
      rw[hz]at hc;cases hc
theorem xL:∀l,XF (Ga l)
 |[]=>by simp[Ga,XF]
 |x::r=>Kl x (xL r)
theorem GV:∀{a b:List ah},XF a->XF b->a.Perm b->a=b
 |[],b,_,_,h=>(List.Perm.nil_eq h)
 |x::a,[],_,_,h=>by have:=h.length_eq;simp at this
 | x :: a,y :: b,ha,hb,h => by
  unfold XF at ha hb
  have ha':=vbK.1 ha
  have hb':=vbK.1 hb
  have hxy:x=y:=by
   rcases vaC.1 (h.mem_iff.1 (vch:x∈x::a))with hx|hx
   ·exact hx
   ·rcases vaC.1 (h.mem_iff.2 (vch:y∈y::b))with hy|hy
    ·exact hy.symm
    ·exact HD (hb'.1 x hx) (ha'.1 y hy)
  subst hxy
  congr 1
  exact GV ha'.2 hb'.2 (List.Perm.cons_inv h)
theorem WI(l:List ah):Ga l=EC l:=GV (xL l) (Q5 l) ((Cl l).trans (List.mergeSort_perm l _).symm)
open Go Go.Sort Go.Proofs.Tryz
set_option maxRecDepth 100000
theorem WA{w:World}{b:Nat}{cur:Array Value}{e:TypeId}{l:List ah}(hh:w.heap[b]? =some (.cells cur e (0,0)))(ht:cur.toList.take l.length=l.map fun s=>Value.string ⟨s.toArray⟩):Holds encStr w b 0 l.toArray:=by
 intro j hj
 have hj':j<l.length:=by simpa using hj
 rw[vaK]
 refine⟨?_,frozen_of_row w b j cur e hh⟩
 rw[cell_of_row w b j cur e _ hh]
 have h1:(cur.toList.take l.length)[j]? =(l.map fun s=>Value.string ⟨s.toArray⟩)[j]?:=by rw[ht]
 rw[vao hj']at h1
 simp only[vaQ,vaw,vab hj',vag]at h1
 rw[h1,getElem!_pos _ j hj]
 simp[encStr]
theorem Vu{w:World}{b n:Nat}{cur:Array Value}{e:TypeId}{os:Array Obj}(d l:List ah)(hh:w.heap[b]? =some (.cells cur e (0,0)))(hd:d.length<=cur.size)(hl:d.take l.length=l):(∀b',b'<w.heap.size->b'≠b->(grow (putRow encStr (Sort.ahead w n) b 0 d.toArray) os).heap[b']? =w.heap[b']?)/\w.heap.size<=(grow (putRow encStr (Sort.ahead w n) b 0 d.toArray) os).heap.size/\
   ∃cur',(grow (putRow encStr (Sort.ahead w n) b 0 d.toArray) os).heap[b]? =some (.cells cur' e (0,0))/\cur'.size=cur.size/\cur'.toList.take l.length=l.map fun s=>Value.string ⟨s.toArray⟩:=by
 have hb:b<w.heap.size:=(vae.1 hh).1
 have hsz:(putRow encStr (Sort.ahead w n) b 0 d.toArray).heap.size=w.heap.size:=by simp[putRow,mapBlock,Sort.ahead]
 refine⟨fun b' h1 h2=>?_,?_,putCells encStr 0 d.toArray cur,?_,by simp[putCells],?_⟩
 ·show((putRow encStr (Sort.ahead w n) b 0 d.toArray).heap++os)[b']? =_
  rw[vaP (by rw[hsz];exact h1)]
  show(w.heap.modify b (onCells _))[b']? =_
  rw[vbL,vas (fun e=>h2 e.symm)]
 ·show _<=((putRow encStr (Sort.ahead w n) b 0 d.toArray).heap++os).size
  rw[Array.size_append,hsz];omega
 ·show((putRow encStr (Sort.ahead w n) b 0 d.toArray).heap++os)[b]? =_
  rw[vaP (by rw[hsz];exact hb)]
  show(w.heap.modify b (onCells _))[b]? =_
  rw[vbL,vaq rfl,hh]
  rfl
 ·have hll:l.length<=d.length:=by have h0:=va9 List.length hl;rw[vbo]at h0;omega
  refine va6 fun i=>?_
  by_cases hi:i<l.length
  ·have hdl:i<d.length:=by omega
   have hdi:d[i]=l[i]:=by
    have h1:(d.take l.length)[i]? =l[i]?:=by rw[hl]
    rw[vao hi,vab hdl,vab hi]at h1
    exact vbh h1
   rw[vao hi]
   simp only[vaQ,putCells,Array.getElem?_mapIdx,vaw,vab hi,vag]
   have hc:cur[i]? =some (cur[i]'(by omega)):=vaH (by omega)
   rw[hc]
   simp only[vag]
   rw[vaq ⟨vaN _,by simp;omega⟩,Nat.sub_zero,getElem!_pos _ i (by simpa using hdl)]
   simp[encStr,hdi]
  ·rw[vaD (by simp[putCells];omega),vaD (by simp;omega)]
theorem CD(l:List ah):(EC l).length=l.length:=by unfold EC;exact List.length_mergeSort _
theorem Y4{n:Nat}(h:n<=fX):n<4611686018427387904:=by unfold fX at h;omega
theorem Yw:Y0 Pg 127 9 (fun s=>Value.string ⟨s.toArray⟩) EC (fun _ _ _=>.tuple #[]):={
 call:=call127
 row:=fun w b cap cur l hh hc hl hm hla ht=>by
  have hlen:=Y4 hla
  refine(Any.slices_Sort_string Tryz.lays190 b 0 cap l w (WA hh ht) ((vae.1 hh).1) hlen).mono fun r w' hr=>?_
  obtain⟨rfl,n,os,rfl⟩:=hr
  obtain⟨k1,k2,cur',k3,k4,k5⟩:=Vu (n:=n) (os:=os) (EC l) (EC l) hh (by rw[CD];omega) vaT
  exact⟨rfl,by rw[CD];exact hl,rfl,rfl,rfl,⟨k2,vbO _ _⟩,k1,cur',k3,by omega,k5⟩
 none:=fun w=>⟨by simp[EC],Any.slices_Sort_string_none Tryz.lays190 Option.none 0 w⟩}
theorem qdR:Pg.cellsOf 9=1:=by kernel_rfl
open Go Go.Proofs.Tryz
def GU(m:List (ah×Bool)):Option (List ah):=if decide (m.length<=fX)=true then some (Ga (m.map fun e=>e.1))else none
abbrev qdT:Nat:=82
noncomputable def Wf:Code:=f82.body.getD .skip
def qdj:Code->Nat×Array Oper
 |.region id ops _=>(id,ops)
 |_=>(0,#[])
abbrev qbF:Code:=jF Wf [false]
abbrev qbG:Code:=jF Wf [true,false]
abbrev ON:Code:=jF Wf [true,true,false,false]
abbrev Z3:Code:=jF Wf [true,true,false,true,false,false,false]
abbrev YN:Code:=jF Wf [true,true,false,true,false,false,true,true,false,false]
abbrev qcP:Code:=jF Wf [true,true,false,true,false,false,true,true,false,true]
abbrev Z4:Code:=jF Wf [true,true,true,false]
abbrev qdk:Code:=jF Wf [true,true,true,true,false]
abbrev BW(c:Code)(i:Nat):Oper:=((qdj c).2)[i]?.getD default
abbrev Yu(c:Code):Nat:=(qdj c).1
theorem Zh:Wf=.seq (.region (Yu qbF) #[BW qbF 0] false) (.seq (.region (Yu qbG) #[BW qbG 0] false) (.seq (.seq (.region (Yu ON) #[BW ON 0,BW ON 1,BW ON 2,BW ON 3,BW ON 4] false)
  (.block 0 (.loop (.seq (.region (Yu Z3) #[BW Z3 0,BW Z3 1] false) (.seq (.cond (.tmp 11) .skip (.exit 0)) (.block 1 (.seq (.region (Yu YN) #[BW YN 0,BW YN 1,BW YN 2] false) qcP)))))))
  (.seq (.region (Yu Z4) #[BW Z4 0,BW Z4 1] false) (.seq qdk .ret)))):=by kernel_rfl
abbrev eS:TypeId:=9
theorem qdY(iv:Value)(l:List ah)(s:ah)(h:l.length+1<=fX):aU Pg GE 1000 qcP (EX .normal (kS eS (l++[s]) iv .undef)) (kS eS l iv (.str s)):=by
 have bl:app l [s]=some (l++[s]):=by unfold app;rw[vaq (by simpa using h)]
 have z:=sv (cO.mk' (v:=PVal.str) OF ([s]:List ah) 1 (by kernel_rfl))<|sv (cO.ap bl)<|eF .normal (kS eS (l++[s]) iv .undef)
 exact uK (A:=[14]) mixed z (by kernel_rfl)
theorem qdZ(l:List ah)(h:l.length<=fX):aU Pg GE 0 (.region (Yu Z4) #[BW Z4 0,BW Z4 1] false) (EX .normal (uJ 21 3 (EC l) eS)) (uJ 21 3 l eS):=
 aU.inplace (t:=3) (d1:=18) (d2:=19) Yw qdR h rfl rfl rfl rfl rfl rfl (by decide) (.inl ⟨rfl,CD l⟩)
abbrev sE(l:List ah):aB:=aZ 21 [(2,sl cS l)] [] [((2,0),eS)]
theorem qd0(l:List ah):aU Pg GE 0 (.seq qdk .ret) (EX .ret (sE l)) (uJ 21 3 l eS):=by
 have z:=eF .ret (sE l)
 exact uK (A:=[20]) mixed z (by kernel_rfl)
theorem Cx{a:Act}{d t:Nat}{v:Value}:(a.put (some d) v).tmps[t]? =if d=t then(if d<a.tmps.size then some v else none)else a.tmps[t]?:=by
 show(a.tmps.setIfInBounds d v)[t]? =_
 rw[vbj]
theorem y1{a:Act}{d:Nat}{v:Value}:(a.put (some d) v).tmps.size=a.tmps.size:=by
 show(a.tmps.setIfInBounds d v).size=_
 simp
theorem Xv{a:Act}{w:World}{Q:Exit->Act->World->Prop}{id:Nat}{ops:Array Oper}(h:wpOps Pg ops Q (List.range ops.size) a w):(Code.region id ops false).wp Pg Q a w:=wp_region h
theorem qcR(m:List (ah×Bool)):og Pg 124 (.bptr 0 0) [.cells [.mapr 1] [],.map (aW PVal.bool m)]=some (.mapr 1):=by kernel_rfl
theorem qcQ:bw Pg 126 (.bptr 0 0) 0=some (.bptr 0 0):=by kernel_rfl
theorem qcS:Pg.underlying 124=some (.map 9 4):=by kernel_rfl
theorem Gg{m:List (ah×Bool)}{r:List ah}(h:GU m=some r):C Pg GE qdT [.bptr 0 0] [] [.cells [.mapr 1] [],.map (aW PVal.bool m)] (sl cS r) [(0,eS)] [.cells [.mapr 1] [],.map (aW PVal.bool m)]:=by
 rcases aH h with⟨hl,h⟩|⟨_,h⟩
 rotate_left
 ·cases h
 obtain rfl:=lf h
 have hlen:m.length<=fX:=by simpa using hl
 refine⟨call82,fun Γ bs ow w vs hS=>calls_of_wp func82 (c:=Wf) rfl ?_⟩
 obtain⟨v,rfl⟩:∃v,vs=#[v]:=vcF.1 hS.sz
 have hvr:VR Γ bs w (.bptr 0 0) v:=hS.tm 0 _ _ rfl rfl
 have hv0:∃b0,v=.pointer (some ⟨b0,0,none⟩)/\bs[0]? =some (some b0):=by cases hvr with|bptr _ _ b0 hb0=>exact⟨b0,rfl,hb0⟩
 obtain⟨b0,rfl,hb0⟩:=hv0
 obtain⟨vm,hld,hvm⟩:=Fg (P:=Pg) hS (t:=124) hvr (qcR m)
 have hvm0:∃bm,vm=.map (some bm)/\bs[1]? =some (some bm):=by cases hvm with|mapr _ bm hbm=>exact⟨bm,rfl,hbm⟩
 obtain⟨bm,rfl,hb1⟩:=hvm0
 obtain⟨_,hbml,es,clock,hmap,hsz,hent,hborn⟩:=hS.bx 1 bm _ hb1 rfl
 obtain⟨vf,hfa,hvf⟩:=Es (P:=Pg) hvr qcQ
 have hvf0:vf=.pointer (some ⟨b0,0,none⟩):=by cases hvf with|bptr _ _ b hb=>rw[hb0]at hb;cases hb;rfl
 subst hvf0
 have hrg:=run_range_map (P:=Pg) w 124 9 4 bm es clock qcS hmap
 have hB:NP GE Γ w:=hS.base
 have hE:xe GE 0 (I9 GE Γ w):=hB.good
 have hkey:∀(j:Nat) (x:MapEntry),es[j]? =some x->∃s u,m[j]? =some (s,u)/\x.key=.string ⟨s.toArray⟩:=fun j x hx=>by
  have hj:j<m.length:=by have:=(vae.1 hx).1;rw[hsz]at this;simpa[aW]using this
  obtain⟨h1,_⟩:=hent j (.str m[j].1) (.bool m[j].2) x (by simp[aW,hj]) hx
  refine⟨m[j].1,m[j].2,by simp[hj],?_⟩
  generalize x.key=k at h1
  cases h1;rfl
 have hk:∀y∈es.toList,y.key=.string ⟨(zw y).toArray⟩:=fun y hy=>by
  obtain⟨j,hj⟩:=vbc.1 hy
  obtain⟨s,u,_,h2⟩:=hkey j y (by simpa using hj)
  unfold zw
  rw[h2]
 have hks:es.toList.map zw=m.map fun e=>e.1:=by
  refine va6 fun j=>?_
  simp only[vaw,vaQ]
  cases hj:es[j]? with
  |none=>
   have h1:m.length<=j:=by have:=vbN.1 hj;rw[hsz]at this;simpa[aW]using this
   simp[h1]
  |some x=>
   obtain⟨s,u,h1,h2⟩:=hkey j x hj
   simp[h1,zw,h2]
 have hn:f82.ntmps=21:=by kernel_rfl
 refine(fun(key:∀A0:Act,A0.tmps.size=21->A0.tmps[0]? =some (.pointer (some ⟨b0,0,none⟩))->A0.defers=[]->Wf.wp Pg _ A0 w)=>key _ ?_ ?_ rfl) ?_
 ·rw[hn];simp
 ·rw[hn];simp
 intro A0 z0 z1 z2
 rw[Zh]
 have d00:(BW qbF 0).dst=some 2:=by kernel_rfl
 have d10:(BW qbG 0).dst=some 3:=by kernel_rfl
 have o20:(BW ON 0).op=.move (.tmp 0):=by kernel_rfl
 have d20:(BW ON 0).dst=some 5:=by kernel_rfl
 have o21:(BW ON 1).op=.nilCheck (.tmp 5):=by kernel_rfl
 have d21:(BW ON 1).dst=some 6:=by kernel_rfl
 have o22:(BW ON 2).op=.fieldAddr 126 (.tmp 6) 0:=by kernel_rfl
 have d22:(BW ON 2).dst=some 7:=by kernel_rfl
 have o23:(BW ON 3).op=.load 124 (.tmp 7):=by kernel_rfl
 have d23:(BW ON 3).dst=some 8:=by kernel_rfl
 have o24:(BW ON 4).op=.range 124 (.tmp 8):=by kernel_rfl
 have d24:(BW ON 4).dst=some 9:=by kernel_rfl
 refine wp_seq (Xv (tu (o:=BW qbF 0) (by kernel_rfl) (by kernel_rfl) (v:=.slice none 0 0) (w':=w) (by kernel_rfl) ?_))
 rw[d00]
 show Code.wp Pg _ _ _ w
 refine wp_seq (Xv (tu (o:=BW qbG 0) (by kernel_rfl) (by kernel_rfl) (v:=.slice none 0 0) (w':=w) (by kernel_rfl) ?_))
 rw[d10]
 show Code.wp Pg _ _ _ w
 refine wp_seq (wp_seq (Xv (tu (o:=BW ON 0) (by kernel_rfl) (by kernel_rfl) (v:=.pointer (some ⟨b0,0,none⟩)) (w':=w) ?_ ?_)))
 ·have:((A0.put (some 2) (.slice none 0 0)).put (some 3) (.slice none 0 0)).eval (.tmp 0)=.pointer (some ⟨b0,0,none⟩):=fJ (by simp only[Cx];exact z1)
  simp[execOp,o20,this]
 rw[d20]
 refine tu (o:=BW ON 1) (by kernel_rfl) (by kernel_rfl) (v:=.pointer (some ⟨b0,0,none⟩)) (w':=w) ?_ ?_
 ·have:(((A0.put (some 2) (.slice none 0 0)).put (some 3) (.slice none 0 0)).put (some 5) (.pointer (some ⟨b0,0,none⟩))).eval (.tmp 5)=.pointer (some ⟨b0,0,none⟩):=fJ (by simp only[Cx,y1,z0];rfl)
  simp[execOp,o21,this]
 rw[d21]
 refine tu (o:=BW ON 2) (by kernel_rfl) (by kernel_rfl) (v:=.pointer (some ⟨b0,0,none⟩)) (w':=w) ?_ ?_
 ·have:((((A0.put (some 2) (.slice none 0 0)).put (some 3) (.slice none 0 0)).put (some 5) (.pointer (some ⟨b0,0,none⟩))).put (some 6) (.pointer (some ⟨b0,0,none⟩))).eval (.tmp 6)=.pointer (some ⟨b0,0,none⟩):=fJ (by simp only[Cx,y1,z0];rfl)
  simp[execOp,o22,this,hfa]
 rw[d22]
 refine tu (o:=BW ON 3) (by kernel_rfl) (by kernel_rfl) (v:=.map (some bm)) (w':=w) ?_ ?_
 ·have:(((((A0.put (some 2) (.slice none 0 0)).put (some 3) (.slice none 0 0)).put (some 5) (.pointer (some ⟨b0,0,none⟩))).put (some 6) (.pointer (some ⟨b0,0,none⟩))).put (some 7) (.pointer (some ⟨b0,0,none⟩))).eval (.tmp 7)=.pointer (some ⟨b0,0,none⟩):=fJ (by simp only[Cx,y1,z0];rfl)
  simp[execOp,o23,this,hld]
 rw[d23]
 refine tu (o:=BW ON 4) (by kernel_rfl) (by kernel_rfl) (v:=R1 w.heap.size) (w':=w.alloc (.mapIter (some bm) clock #[] clock)) ?_ ?_
 ·have:((((((A0.put (some 2) (.slice none 0 0)).put (some 3) (.slice none 0 0)).put (some 5) (.pointer (some ⟨b0,0,none⟩))).put (some 6) (.pointer (some ⟨b0,0,none⟩))).put (some 7) (.pointer (some ⟨b0,0,none⟩))).put (some 8) (.map (some bm))).eval (.tmp 8)=.map (some bm):=fJ (by simp only[Cx,y1,z0];rfl)
  simp[execOp,o24,this,hrg]
 rw[d24]
 generalize hA1:((((((A0.put (some 2) (.slice none 0 0)).put (some 3) (.slice none 0 0)).put (some 5) (.pointer (some ⟨b0,0,none⟩))).put (some 6) (.pointer (some ⟨b0,0,none⟩))).put (some 7) (.pointer (some ⟨b0,0,none⟩))).put (some 8) (.map (some bm))).put (some 9) (R1 w.heap.size)=A1
 have y0:A1.tmps.size=21:=by rw[<-hA1];simp[y1,z0]
 have y3:A1.tmps[3]? =some (.slice none 0 0):=by rw[<-hA1];simp only[Cx,y1,z0];rfl
 have y9:A1.tmps[9]? =some (R1 w.heap.size):=by rw[<-hA1];simp only[Cx,y1,z0];rfl
 have y2:A1.defers=[]:=by rw[<-hA1];simp only[cf];exact z2
 clear hA1
 have h0:SR Pg (I9 GE Γ w) Γ [] (fun _=>none) w A1.tmps ⟨(kS eS [] (R1 w.heap.size) .undef).tmps,[],[]⟩:=by
  refine hB.fresh 0 y0 fun t p v hp hv=>?_
  by_cases h3:t=3
  ·subst h3
   rw[y3]at hv
   cases hp;cases hv
   exact .sliceNil
  ·by_cases h9:t=9
   ·subst h9
    rw[y9]at hv
    cases hp;cases hv
    exact .val _
   ·have:p=.undef:=by
     have ht:t<21:=by have:=am hp;simpa[kS]using this
     clear hv
     rcases(show t=0\/t=1\/t=2\/t=4\/t=5\/t=6\/t=7\/t=8\/t=10\/t=11\/t=12\/t=13\/t=14\/t=15\/t=16\/t=17\/t=18\/t=19\/t=20 by omega)with h|h|h|h|h|h|h|h|h|h|h|h|h|h|h|h|h|h|h<;>subst h<;>cases hp<;>rfl
    rw[this]
    exact .undef v
 have h1:SR Pg (I9 GE Γ w) Γ [] (fun _=>none) w A1.tmps (kS eS [] (R1 w.heap.size) .undef):={h0 with
  ot:=fun t k e he=>by
   simp[kS]at he
   obtain⟨⟨rfl,rfl⟩,rfl⟩:=he
   exact⟨_,_,y3,rfl,⟨0,[],World.ownsRow_nil _ _ _ _,fun b hb=>by simp[Value.ownBlock]at hb⟩,fun b hb=>by simp[Value.ownBlock]at hb⟩
  ob:=fun i j e cs own b hB=>by simp[kS]at hB}
 obtain⟨h2,_⟩:=h1.allocO (.mapIter (some bm) clock #[] clock)
 have hR:Hu Pg (I9 GE Γ w) eS es clock bm w.heap.size [] .undef A1 (w.alloc (.mapIter (some bm) clock #[] clock)):=⟨World.alloc_heap_new w _,Γ,_,h2⟩
 have hel:es.size<=fX:=by rw[hsz];simpa[aW]using hlen
 have hlp:=U1 (P:=Pg) (GE:=GE) (E:=I9 GE Γ w) (e:=eS) (ro:=none) (i3:=Yu Z3) (i4:=Yu YN) (o10:=BW Z3 0) (o11:=BW Z3 1) (o12:=BW YN 0) (o13:=BW YN 1) (o4:=BW YN 2) (c5:=qcP) hE hmap hborn (vaj _) hk
  (by kernel_rfl) (by kernel_rfl) (by kernel_rfl) (by kernel_rfl) (by kernel_rfl) (by kernel_rfl) (by kernel_rfl) (by kernel_rfl) (by kernel_rfl) (by kernel_rfl) (by kernel_rfl) (by kernel_rfl) (by kernel_rfl) (by kernel_rfl) (by kernel_rfl)
  (fun l s hls=>qdY (R1 w.heap.size) l s (by omega)) hR
 show Code.wp Pg _ _ A1 _
 refine wp_block (wp_mono hlp fun q A2 w2 hq=>?_)
 obtain⟨rfl,hd2,vis,hperm,Γ2,ow2,hS2⟩:=hq
 show Code.wp Pg _ _ A2 w2
 have hS2:SR Pg (I9 GE Γ w) Γ2 [] ow2 w2 A2.tmps (uJ 21 3 (vis.map zw) eS):=hS2.forgetT (tm:=(uJ 21 3 (vis.map zw) eS).tmps) rfl
 have hvl:(vis.map zw).length<=fX:=by rw[vbD,hperm.length_eq];simpa using hel
 have hwp6:=qdZ (vis.map zw) hvl none (I9 GE Γ w) [] A2 w2 hE rfl ⟨Γ2,[],ow2,hS2,fun i hi=>absurd hi (vaG _)⟩
 refine wp_seq (wp_mono hwp6 fun q A3 w3 hq=>?_)
 obtain⟨hd3,st3,⟨Γ3,bs3,ow3,hS3,_⟩,rfl,rfl⟩:=hq
 show Code.wp Pg _ _ A3 w3
 have hwp7:=qd0 (EC (vis.map zw)) none (I9 GE Γ w) [] A3 w3 hE rfl ⟨Γ3,bs3,ow3,hS3,fun i hi=>absurd hi (vaG _)⟩
 refine wp_mono hwp7 fun q A4 w4 hq=>?_
 obtain⟨hd4,st4,⟨Γ4,bs4,ow4,hS4,_⟩,rfl,rfl⟩:=hq
 have hsort:EC (vis.map zw)=Ga (m.map fun e=>e.1):=by
  rw[<-WI]
  refine GV (xL _) (xL _) (((Cl _).trans ?_).trans (Cl _).symm)
  rw[<-hks]
  exact hperm.map zw
 rw[hsort]at hS4
 obtain⟨vr,e1,e2,e3⟩:=wo hS4 (fn:=f82) (r:=sl cS (Ga (m.map fun e=>e.1))) (by kernel_rfl)
 have hf:=hS4.finish (H':=[]) (src:=d9 f82.results.toList) (ro:=[(0,eS)]) e2 (aw cy _) trivial (fun x hx=>by
  simp only[vbm]at hx
  subst hx
  exact⟨vbm.2 rfl,fun u v'=>e3 0 u v' trivial⟩) (fun x hx y hy _=>by
  simp only[vbm]at hx hy
  rw[hx,hy])
 have hbs4:bs4.take (List.length ([]:List aM))=[]:=by simp
 rw[hbs4]at hf
 refine⟨((((hd4.trans hd3).trans hd2)).trans y2:A4.defers=[]),vr,e1,vr,Γ4,M7 0 (Bm (d9 f82.results.toList) [(0,eS)] ow4) ow,rfl,?_⟩
 have hT:∀b,¬(I9 GE Γ w).T b:=fun b hb=>hb
 have hw:=hS.aside hf
 have hr:VR Γ4 bs w4 (sl cS (Ga (m.map fun e=>e.1))) vr:=e2.clo (aw cy _)
 have:=hw.setResult (d:=0) (ro:=[(0,eS)]) (by simp) hr (owC:=Bm (d9 f82.results.toList) [(0,eS)] ow4) (fun k e hm=>?_) (fun b t k hb=>?_)
 ·exact this
 ·obtain⟨u,v',h1,h2,h3,h4⟩:=hf.ot 0 k e (vah.2 ⟨(k,e),hm,rfl⟩)
  simp at h1;subst h1
  exact⟨v',h2,h3,h4⟩
 ·obtain⟨k1,k2⟩:=hf.on b _ hb
  have hge:w.heap.size<=b:=k2.resolve_left (hT b)
  refine⟨?_,k1,.inr (vay hS.step.size hge)⟩
  cases hL:ow b with
  |none=>rfl
  |some L=>have:=(hS.on b L hL).1;omega
abbrev qdS:Nat:=106
noncomputable def Zf:Code:=f106.body.getD .skip
abbrev qde:Code:=jF Zf [false]
abbrev qdf:Code:=jF Zf [true,false,false]
abbrev Xz:Code:=jF Zf [true,false,true,false]
abbrev qcD:Code:=jF Zf [true,true,false]
theorem Zg:Zf=.seq qde (.seq (.seq qdf (.block 0 (.rangeFunc (.tmp 9) #[10,11] (qbr Xz) (qbs Xz)))) (.seq qcD .ret)):=by kernel_rfl
def HQ(nm:ah)(s:ah×Bool)(x:ae):Option (Bool×(ah×Bool)):=if(x.old==nm)=true then some (false,(x.new,true))else some (true,s)
def Ap(scope:List ae)(name:ah):Option (ah×Bool):=if decide (scope.length<4611686018427387904)=true then
 (Xt (HQ name) scope.reverse ([],false)).bind fun q=>if q.1=true then some ([],false)else some q.2 else none
abbrev X6(s:ah×Bool):List aM:=[.dead,.cells [.str s.1] [],.cells [.bool s.2] []]
abbrev VL(nm:ah)(s:ah×Bool):aB:=aZ 18 [(3,.eptr [.str nm]),(4,.bptr 1 0),(5,.bptr 2 0)] (X6 s) []
abbrev ZA(sc:List ae)(nm:ah):aB:=aZ 18 [(0,Ku sc),(3,.eptr [.str nm]),(4,.bptr 1 0),(5,.bptr 2 0)] (X6 ([],false)) []
theorem qcE(sc:List ae)(nm:ah):aU Pg GE 0 qde (EX .normal (ZA sc nm)) (aZ 18 [(0,Ku sc),(1,.str nm)] [] []):=by
 have z:=se (OF nm)<|sx (show gT Pg 9=some [.str []] by kernel_rfl)<|sx (show gT Pg 4=some [.bool false] by kernel_rfl)<|eF .normal (ZA sc nm)
 exact uK (A:=[]) mixed z (by kernel_rfl)
abbrev Yx(sc:List ae)(nm:ah):aB:=aZ 18 [(3,.eptr [.str nm]),(4,.bptr 1 0),(5,.bptr 2 0),(9,.func (.func RL) [] [.eptr [Ku sc]])] (X6 ([],false)) []
theorem qcF(sc:List ae)(nm:ah):aU Pg GE 0 qdf (EX .normal (Yx sc nm)) (ZA sc nm):=by
 have z:=cm (Rz sc)<|eF .normal (Yx sc nm)
 exact uK (A:=[]) mixed z (by kernel_rfl)
abbrev qdW(x:ae):List PVal:=[.str x.old,.str x.new]
abbrev ZB(nm:ah)(s:ah×Bool)(x:ae):aB:=aZ 18 [(3,.eptr [.str nm]),(4,.bptr 1 0),(5,.bptr 2 0),(7,.bptr 3 0)] (X6 s++[.cells (qdW x) []]) []
theorem qcG(nm:ah)(s:ah×Bool)(x:ae):aU Pg GE 3 (qbr Xz) (EX .normal (ZB nm s x)) (aZ 18 [(3,.eptr [.str nm]),(4,.bptr 1 0),(5,.bptr 2 0),(11,.agg (aa x))] (X6 s) []):=by
 have z:=sx (show gT Pg 137=some [.str [],.str []] by kernel_rfl)<|sx (Lm x)<|eF .normal (ZB nm s x)
 exact uK (A:=[]) mixed z (by kernel_rfl)
abbrev ZC(nm:ah)(r:ah×Bool):aB:=aZ 18 [(3,.eptr [.str nm]),(4,.bptr 1 0),(5,.bptr 2 0)] (X6 r++[.dead]) []
theorem qcH(nm:ah)(s:ah×Bool)(x:ae){r:Bool×(ah×Bool)}(h:HQ nm s x=some r):aU Pg GE 3 (qbs Xz) (EX (if r.1=true then .normal else .ret) (ZC nm r.2)) (ZB nm s x):=by
 unfold HQ at h
 rcases aH h with⟨c1,h⟩|⟨c1,h⟩
 ·cases h
  have z:=ss<|sv (cT GS (.str nm) [])<|sg 0 c1<|ss<|ss<|ss<|eF .ret (ZC nm (x.new,true))
  exact uK (A:=[]) mixed z (by kernel_rfl)
 ·cases h
  have z:=ss<|sv (cT GS (.str nm) [])<|sg 0 c1<|eF .normal (ZC nm s)
  exact uK (A:=[]) mixed z (by kernel_rfl)
theorem qcI(nm:ah)(s:ah×Bool):aU Pg GE 3 (.seq qcD .ret) (EX .ret (VL nm ([],false))) (VL nm s):=by
 have z:=ss<|ss<|eF .ret (VL nm ([],false))
 exact uK (A:=[]) mixed z (by kernel_rfl)
theorem Zu(nm:ah)(s:ah×Bool):aU Pg GE 3 .ret (EX .ret (VL nm s)) (VL nm s):=by
 have z:=eF .ret (VL nm s)
 exact uK (A:=[]) mixed z (by kernel_rfl)
abbrev Cz(fn:FuncId)(a:Array Value)(D:Nat)(b:Bool):Loop:={state:=if b then .ready else .done,pending:=if b then none else some .ret,fn:=fn,tmps:=a,params:=#[10,11],assign:=qbr Xz,body:=qbs Xz,defers:=D}
def JD(nm:ah)(Γe:bv)(we:World)(bs:bQ)(a:Array Value)(fn:FuncId)(l D:Nat)(b:Bool)(s:ah×Bool)(Γ:bv)(w:World):Prop:=
 ∃ow,SR Pg (I9 GE Γe we) Γ bs ow w a (VL nm s)/\¬bG bs ow l/\¬bG bs ow D/\w.heap[l]? =some (.loop (Cz fn a D b))/\w.heap[D]? =some (.deferred (some []))
theorem qaq{nm:ah}{Γe:bv}{we:World}{bs:bQ}{a:Array Value}{fn:FuncId}{l D:Nat}:Sd Pg GE (JD nm Γe we bs a fn l D) where
 base:=fun b s Γ w ⟨ow,h,_⟩=>h.base
 side:=fun b s Γ w ⟨ow,h,hTl,hTD,hhl,hhD⟩ Γ' bs' ow' w' a' st' h'=>
  ⟨ow,h.aside h',hTl,hTD,(h'.step.keep l (kV hhl) id).1.trans hhl,(h'.step.keep D (kV hhD) id).1.trans hhD⟩
theorem qb3{nm:ah}{Γe:bv}{we:World}{bs:bQ}{a:Array Value}{fn:FuncId}{l D:Nat}(hl:we.heap.size<=l)(hD:we.heap.size<=D)(hne:D≠l)(hb:bs.length=3)(s:ah×Bool)(Γ:bv)(w:World)(i:Int)(x:ae)(v:Value)(n:Nat)(r:Bool×(ah×Bool))
  (hj:JD nm Γe we bs a fn l D true s Γ w) (hv:VR Γ [] w (.agg (aa x)) v) (hr:HQ nm s x=some r):YieldAt Fence.wide n Pg l #[.int .i64 i,v] w fun e w'=>∃Γ',e=.returned (.bool r.1)/\Γ.Le w Γ' w'/\JD nm Γe we bs a fn l D r.1 r.2 Γ' w':=by
 obtain⟨ow,h,hTl,hTD,hhl,hhD⟩:=hj
 have hS4:=qcH nm s x hr
 refine⟨_,_,_,_,run_yield hhl rfl,?_⟩
 have hz:(((#[10,11]:Array Tmp).zip #[Value.int .i64 i,v]).foldl (fun tmps (t,a)=>tmps.setIfInBounds t a) a)=(a.setIfInBounds 10 (.int .i64 i)).setIfInBounds 11 v:=by simp
 show RoundIn Fence.wide n Pg l fn (((#[10,11]:Array Tmp).zip #[Value.int .i64 i,v]).foldl (fun tmps (t,a)=>tmps.setIfInBounds t a) a) (qbr Xz) (qbs Xz) w _
 rw[hz]
 have h7:SR Pg (I9 GE Γe we) Γ bs ow w ((a.setIfInBounds 10 (.int .i64 i)).setIfInBounds 11 v) (aZ 18 [(3,.eptr [.str nm]),(4,.bptr 1 0),(5,.bptr 2 0),(11,.agg (aa x))] (X6 s) []):=(h.set (d:=10) (p:=.undef) (v:=.int .i64 i) (.undef _)).set (d:=11) (p:=.agg (aa x)) (hv.mono (.refl _ _) (fun i b hi=>by simp at hi))
 refine roundIn_of_wpIn trivial (wpIn_mono (aU.on (qcG nm s x) (by decide) h7 (by rw[hb];decide) (some l) [] n) ?_)
 rintro e ⟨a1,ds1⟩ w1 ⟨rfl,Γ1,bs1,ow1,st1,h1,⟨rfl,rfl⟩,hbs1,hle1,hsz1,hk1⟩
 obtain⟨k1,t1⟩:=hk1 l (kV hhl) hTl
 obtain⟨k1D,t1D⟩:=hk1 D (kV hhD) hTD
 have hl1:=k1.trans hhl
 refine⟨_,run_beginRound hl1 rfl,?_⟩
 obtain⟨h1',hle1'⟩:=h1.putOther (l:=l) (o:=.loop {Cz fn a D true with state:=.busy}) t1 (.inr hl) (fun c t fr e=>by rw[hl1]at e;cases e)
 have hb1:3<=bs1.length:=by have:=h1.bl;rw[this];exact Nat.le_of_ble_eq_true rfl
 obtain⟨bq,s'⟩:=r
 refine wpIn_mono (aU.on hS4 (by decide) h1' hb1 (some l) [] n) ?_
 rintro e ⟨a2,ds2⟩ w2 ⟨rfl,Γ2,bs2,ow2,st2,h2,⟨rfl,rfl⟩,hbs2,hle2,hsz2,hk2⟩
 have hl1':(w1.putObj l (.loop {Cz fn a D true with state:=.busy})).heap[l]? =some (.loop {Cz fn a D true with state:=.busy}):=World.putObj_heap_same (kV hl1)
 have hD1':(w1.putObj l (.loop {Cz fn a D true with state:=.busy})).heap[D]? =some (.deferred (some [])):=(World.putObj_heap_other hne).trans (k1D.trans hhD)
 obtain⟨k2,t2⟩:=hk2 l (kV hl1') t1
 obtain⟨k2D,t2D⟩:=hk2 D (kV hD1') t1D
 have hl2:=k2.trans hl1'
 cases bq with
 |true=>
  refine⟨_,_,run_endRound none hl2,?_⟩
  obtain⟨h3,hle3⟩:=h2.putOther (l:=l) (o:=.loop {{Cz fn a D true with state:=.busy}with state:=if(none:Option Code).isNone then .ready else .done,pending:=none}) t2 (.inr hl) (fun c t fr e=>by rw[hl2]at e;cases e)
  have hle:Γ.Le w Γ2 (w2.putObj l (.loop {{Cz fn a D true with state:=.busy}with state:=if(none:Option Code).isNone then .ready else .done,pending:=none})):=((hle1.trans hle1').trans hle2).trans hle3
  obtain⟨ow3,h4,hT4⟩:=h.back rfl h3 hle (H':=X6 s') (fun i hi=>(hbs2 i (by omega)).trans (hbs1 i (by omega))) ⟨trivial,⟨rfl,aI trivial trivial,fun x hx=>hx⟩,⟨rfl,aI trivial trivial,fun x hx=>hx⟩,trivial⟩ hb.symm
  exact⟨Γ2,rfl,hle,ow3,h4,fun hx=>t2 (hT4 l hx),fun hx=>t2D (hT4 D hx),World.putObj_heap_same (kV hl2),(World.putObj_heap_other hne).trans (k2D.trans hD1')⟩
 |false=>
  refine⟨_,_,run_endRound (some .ret) hl2,?_⟩
  obtain⟨h3,hle3⟩:=h2.putOther (l:=l) (o:=.loop {{Cz fn a D true with state:=.busy}with state:=if(some Code.ret:Option Code).isNone then .ready else .done,pending:=some .ret}) t2 (.inr hl) (fun c t fr e=>by rw[hl2]at e;cases e)
  have hle:Γ.Le w Γ2 (w2.putObj l (.loop {{Cz fn a D true with state:=.busy}with state:=if(some Code.ret:Option Code).isNone then .ready else .done,pending:=some .ret})):=((hle1.trans hle1').trans hle2).trans hle3
  obtain⟨ow3,h4,hT4⟩:=h.back rfl h3 hle (H':=X6 s') (fun i hi=>(hbs2 i (by omega)).trans (hbs1 i (by omega))) ⟨trivial,⟨rfl,aI trivial trivial,fun x hx=>hx⟩,⟨rfl,aI trivial trivial,fun x hx=>hx⟩,trivial⟩ hb.symm
  exact⟨Γ2,rfl,hle,ow3,h4,fun hx=>t2 (hT4 l hx),fun hx=>t2D (hT4 D hx),World.putObj_heap_same (kV hl2),(World.putObj_heap_other hne).trans (k2D.trans hD1')⟩
theorem EK{sc:List ae}{nm:ah}{r:ah×Bool}(h:Ap sc nm=some r):CC Pg GE qdS [Ku sc,.str nm] (.tuple [.str r.1,.bool r.2]) []:=by
 refine⟨aI (S6 sc)<|aI trivial trivial,call106,fun Γ bs ow w vs hS=>(callsIn_wide (n:=0)).1 (callsIn_of_wp_marks func106 (c:=Zf) rfl trivial ?_)⟩
 obtain rfl:bs=[]:=vap hS.bl
 have hvs:vs.size=2:=hS.sz
 have hB:NP GE Γ w:=hS.base
 have hE:xe GE 0 (I9 GE Γ w):=hB.good
 have h0:SR Pg (I9 GE Γ w) Γ [] (fun _=>none) w (vs++Array.replicate 16 undef) (aZ 18 [(0,Ku sc),(1,.str nm)] [] []):=by
  refine hB.fresh (a:=vs++Array.replicate 16 undef) 0 (tmps:=[Ku sc,.str nm]++List.replicate 16 .undef) (by simp[hvs]) fun t q u hq hu=>?_
  by_cases ht:t<2
  ·rw[vac (by simpa using ht)]at hq
   rw[vaP (by omega)]at hu
   exact hS.tm t q u hq hu
  ·rw[vaf (by show 2<=t;omega),vaV]at hq
   split at hq<;>cases hq
   exact .undef u
 have key:∀R:Ending->World->Prop,(∀{Γ6:bv} {bs6:bQ} {ow6:Nat->Option nQ} {a6:Array Value} {w6:World},SR Pg (I9 GE Γ w) Γ6 bs6 ow6 w6 a6 (VL nm r)->LeavesInM Fence.wide 0 Pg f106 a6 R [] .returning w6)->
   Zf.wpIn Fence.wide 0 Pg (bodyPostM Fence.wide 0 Pg f106 R) ⟨vs++Array.replicate 16 undef,[]⟩ w:=fun R hfin=>by
  unfold Ap at h
  rcases aH h with⟨c0,h⟩|⟨c0,h⟩
  rotate_left
  ·cases h
  have hlen:sc.length<4611686018427387904:=by simpa using c0
  rw[Zg]
  refine wpIn_seq (wpIn_mono (aU.wideE (qcE sc nm) hE h0 0 []) ?_)
  rintro e ⟨a1,ds1⟩ w1 ⟨rfl,Γ1,bs1,ow1,st1,h1,rfl,rfl⟩
  obtain⟨q,hq,h⟩:=aG h
  refine wpIn_seq (wpIn_seq (wpIn_mono (aU.wideE (qcF sc nm) hE h1 0 []) ?_))
  rintro e ⟨a3,ds3⟩ w3 ⟨rfl,Γ3,bs3,ow3,st3,h3,rfl,rfl⟩
  have h6:=h3.opv [] (.tmp 9)
  have e6:opv (I9 GE Γ w).GE (Yx sc nm).tmps (.tmp 9)=.func (.func RL) [] [.eptr [Ku sc]]:=rfl
  rw[e6]at h6
  have hbl:bs3.length=3:=h3.bl
  refine wpIn_block (wpIn_rangeFunc fun fn _=>?_)
  obtain⟨g1,l1⟩:=h3.allocO (.deferred (some []))
  obtain⟨g2,l2⟩:=g1.allocO (.loop (Cz fn a3 w3.heap.size true))
  have gF:=g2.forgetT (tm:=(VL nm ([],false)).tmps) rfl
  have hsz3:w.heap.size<=w3.heap.size:=h3.step.size
  have htl:∀b,w3.heap.size<=b->¬bG bs3 ow3 b:=fun b hb hx=>by
   rcases hx with⟨i,hi⟩|hx
   ·have hil:i<(Yx sc nm).boxes.length:=by rw[<-h3.bl];exact am hi
    have:=(h3.bx i b _ hi (vab hil)).2.1
    omega
   ·cases hL:ow3 b with
    |none=>exact hx hL
    |some L=>have:=(h3.on b L hL).1;omega
  generalize hvf:(Act.mk a3 []).eval (.tmp 9)=vf at h6
  cases h6 with
  |func _ _ _ fs cs hl1 hl2 hf hc=>
  obtain rfl:fs=#[]:=vaX hl1
  obtain⟨cv,rfl⟩:∃v,cs=#[v]:=vcF.1 hl2
  have hcv:VR Γ3 bs3 w3 (.eptr [Ku sc]) cv:=hc 0 _ _ rfl rfl
  have hJ:JD nm Γ w bs3 a3 fn (w3.heap.size+1) w3.heap.size true ([],false) Γ3 ((w3.alloc (.deferred (some []))).alloc (.loop (Cz fn a3 w3.heap.size true))):=by
   refine⟨ow3,gF,htl _ (by omega),htl _ (vaj _),?_,?_⟩
   ·have:=World.alloc_heap_new (w3.alloc (.deferred (some []))) (.loop (Cz fn a3 w3.heap.size true))
    rwa[World.size_alloc]at this
   ·rw[fI _ _ (by rw[World.size_alloc];omega)]
    exact World.alloc_heap_new w3 _
  have hY:=qb3 (nm:=nm) (Γe:=Γ) (we:=w) (bs:=bs3) (a:=a3) (fn:=fn) (l:=w3.heap.size+1) (D:=w3.heap.size) (by omega) hsz3 (by omega) hbl
  refine⟨_,_,_,{target:=.fn (.func RL) #[cv],args:=#[.func (.yield (w3.heap.size+1)) #[] #[]]},(w3.alloc (.deferred (some []))).alloc (.loop (Cz fn a3 w3.heap.size true)),RL,#[.func (.yield (w3.heap.size+1)) #[] #[],cv],(w3.alloc (.deferred (some []))).alloc (.loop (Cz fn a3 w3.heap.size true)),run_enterLoop_outer fn a3 #[10,11] (qbr Xz) (qbs Xz),?_,fun _ _=>trivial,?_,fun hx=>by simp[Fence.wide]at hx,?_⟩
  ·have hvf':(Act.mk a3 []).eval (.tmp 9)=.func (.func RL) #[] #[cv]:=hvf
   simp only[resolve,hvf',Deferred.ofValue]
   simp[Act.eval]
   rfl
  ·simp[invoke,call157]
  ·refine(qaU qaq hY sc hlen (n:=0 - 1) hq hJ (((hcv.mono l1 (.refl _)).mono l2 (.refl _)).clo (Kg sc))).mono ?_
   rintro e w4 ⟨⟨u,rfl⟩,Γ4,hle4,ow4,h4,tl4,tD4,hl4,hD4⟩
   refine⟨_,_,run_endLoop hl4 (by cases q.1<;>simp),?_⟩
   obtain⟨h5,hle5⟩:=h4.putOther (l:=w3.heap.size+1) (o:=.loop {Cz fn a3 w3.heap.size q.1 with state:=.exhausted}) tl4 (.inr (show w.heap.size<=_ by omega)) (fun c t fr e=>by rw[hl4]at e;cases e)
   have hD5:(w4.putObj (w3.heap.size+1) (.loop {Cz fn a3 w3.heap.size q.1 with state:=.exhausted})).heap[w3.heap.size]? =some (.deferred (some [])):=(World.putObj_heap_other (by omega)).trans hD4
   generalize w4.putObj (w3.heap.size+1) (.loop {Cz fn a3 w3.heap.size q.1 with state:=.exhausted})=w5 at h5 hle5 hD5
   have last:∀c:Code,aU Pg GE 3 c (EX .ret (VL nm r)) (VL nm q.2)->∀Q:Exit->Act->World->Prop,(∀a w,bodyPostM Fence.wide 0 Pg f106 R .ret a w->Q .ret a w)->c.wpIn Fence.wide 0 Pg Q ⟨a3,[{target:=.collected w3.heap.size,args:=#[]}]⟩ w5:=fun c hc Q hQ=>by
    refine wpIn_mono (wpIn_wide.2 (aU.on hc (by decide) h5 (by rw[hbl];decide) none [{target:=.collected w3.heap.size,args:=#[]}])) ?_
    rintro e ⟨a6,ds6⟩ w6 ⟨rfl,Γ6,bs6,ow6,st6,h6,⟨rfl,rfl⟩,hbs6,hle6,hsz6,hk6⟩
    obtain⟨k6,t6⟩:=hk6 _ (kV hD5) tD4
    have hD6:=k6.trans hD5
    obtain⟨h7,hle7⟩:=h6.putOther (l:=w3.heap.size) (o:=.deferred none) t6 (.inr hsz3) (fun c t fr e=>by rw[hD6]at e;cases e)
    exact hQ _ _ ⟨by simp,.inl ⟨w3.heap.size,_,rfl,run_takeDeferred hD6,hfin h7⟩⟩
   rcases aH h with⟨c3,h⟩|⟨c3,h⟩
   ·cases h
    have e3:(Cz fn a3 w3.heap.size q.1).pending=none:=by show(if q.1=true then none else some Code.ret)=none;rw[c3];rfl
    rw[e3]
    exact last (.seq qcD .ret) (qcI nm q.2) _ (fun _ _ hx=>hx)
   ·cases h
    have e3:(Cz fn a3 w3.heap.size q.1).pending=some .ret:=by show(if q.1=true then none else some Code.ret)=some .ret;rw[c3];rfl
    rw[e3]
    exact last .ret (Zu nm q.2) _ (fun _ _ hx=>hx)
 rw[hvs]
 refine key _ fun{Γ6 bs6 ow6 a6 w6} h7=>?_
 have hS7:SR Pg ⟨GE,Γ,w,bG [] ow⟩ Γ6 bs6 ow6 w6 a6 (VL nm r):={h7 with
  bn:=fun i b hb=>(h7.bn i b hb).elim False.elim .inr
  on:=fun b L hL=>⟨(h7.on b L hL).1,(h7.on b L hL).2.elim False.elim .inr⟩
  gx:=hS.gx
  step:={h7.step with keep:=fun b hb _=>h7.step.keep b hb (fun hx=>hx)}}
 obtain⟨vr,e1,e2,e3⟩:=wo hS7 (fn:=f106) (r:=.tuple [.str r.1,.bool r.2]) (by kernel_rfl)
 refine⟨vr,e1,vr,Γ6,Bm (d9 f106.results.toList) [] ow6,rfl,?_⟩
 have hf:=hS7.finish (H':=[]) (src:=d9 f106.results.toList) (ro:=[]) e2 (aI trivial<|aI trivial trivial) trivial (fun x hx=>by cases hx) (fun x hx=>by cases hx)
 simpa using hf
end Go.Proofs.YtkdahfeiedaahaaGreatDoor
