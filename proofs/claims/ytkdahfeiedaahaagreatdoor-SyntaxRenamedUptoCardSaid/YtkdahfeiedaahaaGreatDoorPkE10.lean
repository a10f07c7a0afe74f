/- PROVED: a part of the proof. Conditions: none. -/
import Derived.Test.YtkdahfeiedaahaaGreatDoorPkE8
import Derived.Test.YtkdahfeiedaahaaGreatDoorPkE4
import Derived.Maps.RangeRun
import Derived.Test.YtkdahfeiedaahaaGreatDoorPkE7
import Derived.Test.YtkdahfeiedaahaaGreatDoorPkE9
import Derived.Shelf.Sort.Plain
import Derived.Shelf.Slices.In.SortNone
noncomputable section
namespace Go.Proofs.YtkdahfeiedaahaaGreatDoor
open Go
set_option linter.unusedSimpArgs false
section
variable{P:Program}{E:qt}{Γ:aV}{bs:bw}{ow:Nat->Option l7}{w:World}{a:Array Value}{st:aA}
theorem SR.unown(h:SR P E Γ bs ow w a st){r s c:Nat}{m:Option Nat}{seen:Array Nat}(hr:w.heap[r]? =some (.mapIter m s seen c)):Γ r=none/\SR P E Γ bs (fun b=>if b=r then none else ow b) w a st:=by
 have hg:Γ r=none:=by
  cases hx:Γ r with
  |none=>rfl
  |some n=>obtain⟨c',t,fr,h1,_⟩:=h.wi r n hx;rw[hr]at h1;cases h1
 have hne:∀{v:Value} {e:TypeId} {b:Nat},jD P Γ w v e->v.ownBlock=some b->b≠r:=fun{v e b} ho hb hx=>by
  obtain⟨n,xs,_,o2⟩:=ho
  have:=o2 b hb
  rw[hx,hg]at this;cases this
 refine⟨hg,{h with
  on:=fun b L hL=>?_
  ot:=fun t k e he=>?_
  ob:=fun i j e cs own b hB hj hb=>?_}⟩
 ·split at hL
  ·cases hL
  ·exact h.on b L hL
 ·obtain⟨u,v,h1,h2,h3,h4⟩:=h.ot t k e he
  exact⟨u,v,h1,h2,h3,fun b hb=>by rw[vat (hne h3 hb)];exact h4 b hb⟩
 ·obtain⟨v,h1,h3,h4⟩:=h.ob i j e cs own b hB hj hb
  exact⟨v,h1,h3,fun b' hb'=>by rw[vat (hne h3 hb')];exact h4 b' hb'⟩
theorem SR.asEntry(h:SR P E Γ bs ow w a st):SR P ⟨E.GE,Γ,w,bg bs ow⟩ Γ bs ow w a st:={h with
 bn:=fun i b hb=>.inl (.inl ⟨i,hb⟩)
 on:=fun b L hL=>⟨(h.on b L hL).1,.inl (.inr (by rw[hL];simp))⟩
 gx:=fun g cs hg=>by
  obtain⟨k1,k2,k3,k4⟩:=h.gnow hg
  exact⟨k1,fun hT=>hT.elim (fun⟨i,hi⟩=>k2 i g hi rfl) (fun hx=>hx k3),k4⟩
 step:=.refl _ _ _ _}
theorem SR.rebaseE(h:SR P E Γ bs ow w a st){Γ':aV}{bs':bw}{ow':Nat->Option l7}{w':World}{a':Array Value}{st':aA}(h':SR P ⟨E.GE,Γ,w,bg bs ow⟩ Γ' bs' ow' w' a' st'):SR P E Γ' bs' ow' w' a' st':=by
 have hTE:∀b,bg bs ow b\/w.heap.size<=b->E.T b\/E.w.heap.size<=b:=fun b hb=>by
  rcases hb with(⟨i,hi⟩|hb)|hb
  ·exact h.bn i b hi
  ·cases hL:ow b with
   |none=>exact absurd hL hb
   |some L=>exact(h.on b L hL).2
  ·exact .inr (vaC h.step.size hb)
 exact{h' with
  bn:=fun i b hb=>hTE b (h'.bn i b hb)
  on:=fun b L hL=>⟨(h'.on b L hL).1,hTE b (h'.on b L hL).2⟩
  gx:=h.gx
  step:={
   os:=h'.step.os.trans h.step.os
   tape:=h'.step.tape.trans h.step.tape
   output:=h'.step.output.trans h.step.output
   size:=vaC h.step.size h'.step.size
   drawn:=vaC h.step.drawn h'.step.drawn
   keep:=fun b hb hT=>by
    have hnT:¬bg bs ow b:=fun hx=>(hTE b (.inl hx)).elim hT fun hx=>absurd hb (vcE.2 hx)
    obtain⟨k1,k2⟩:=h.step.keep b hb hT
    obtain⟨q1,q2⟩:=h'.step.keep b (vaJ hb h.step.size) hnT
    exact⟨q1.trans k1,q2.trans k2⟩
   le:=h.step.le.trans h'.step.le}}
end
theorem pQ{P:Program}{a:Act}{w w':World}{Q:Exit->Act->World->Prop}{ops:Array Oper}{L:List Nat}{i:Nat}{o:Oper}{v:Value}(hi:ops[i]? =some o)(hg:o.guard=none)(hrun:(execOp a.eval o).run P w=.ok (.value v) w')
  (h:wpOps P ops Q L (a.put o.dst v) w'):wpOps P ops Q (i::L) a w:=by
 rw[wpOps_cons]
 unfold wpOp
 rw[hi]
 simp only
 rw[vaq (by simp[Region.wanted,hg])]
 refine .inl ?_
 unfold Oper.wp
 rw[hrun,Oper.upon_value]
 exact h
def kS(e:TypeId)(l:List ag)(iv:Value)(x:PVal):aA:=⟨[.undef,.undef,.undef,sl cS l,x,.undef,.undef,.undef,.undef,.val iv,.undef,.undef,.undef,.undef,.undef,.undef,.undef,.undef,.undef,.undef,.undef],[],[((3,0),e)]⟩
def u9(x:MapEntry):ag:=match x.key with
 |.string s=>s.data.toList
 |_=>[]
section
variable{P:Program}{GE:List (Nat×List PVal)}{E:qt}{e:TypeId}{es:Array MapEntry}{clock bm r:Nat}
abbrev Mz(r:Nat):Value:=.pointer (some ⟨r,0,none⟩)
structure XX(es:Array MapEntry)(vis:List MapEntry):Prop where
 sub:∀x∈vis,x∈es.toList
 nd:(vis.map (·.born)).Nodup
structure Db(P:Program)(E:qt)(e:TypeId)(es:Array MapEntry)(clock bm r:Nat)(vis:List MapEntry)(x:PVal)(a:Act)(w:World):Prop where
 it:w.heap[r]? =some (.mapIter (some bm) clock (vis.map (·.born)).toArray clock)
 ex:∃Γ ow,SR P E Γ [] ow w a.tmps (kS e (vis.map u9) (Mz r) x)
theorem Db.map(hE:sZ GE 0 E)(hbm:E.w.heap[bm]? =some (.map es clock)){vis:List MapEntry}{x:PVal}{a:Act}{w:World}(h:Db P E e es clock bm r vis x a w):w.heap[bm]? =some (.map es clock):=by
 obtain⟨Γ,ow,hS⟩:=h.ex
 rw[(hS.step.keep bm (vad.1 hbm).1 (hE.nt rfl bm)).1];exact hbm
theorem Db.iv{vis:List MapEntry}{x:PVal}{a:Act}{w:World}(h:Db P E e es clock bm r vis x a w):a.eval (.tmp 9)=Mz r:=by
 obtain⟨Γ,ow,hS⟩:=h.ex
 have h9:VR Γ [] w (.val (Mz r)) (a.eval (.tmp 9)):=hS.opv a.defers (.tmp 9)
 generalize a.eval (.tmp 9)=u at h9
 cases h9
 rfl
theorem Db.size{vis:List MapEntry}{x:PVal}{a:Act}{w:World}(h:Db P E e es clock bm r vis x a w):a.tmps.size=21:=by
 obtain⟨Γ,ow,hS⟩:=h.ex
 exact hS.sz
theorem Db.put{vis:List MapEntry}{x:PVal}{a:Act}{w:World}(h:Db P E e es clock bm r vis x a w){d:Nat}{v:Value}(hd:d=10\/d=11\/d=12\/d=13):Db P E e es clock bm r vis x (a.put (some d) v) w:=by
 obtain⟨Γ,ow,hS⟩:=h.ex
 refine⟨h.it,Γ,ow,?_⟩
 have:=hS.set (d:=d) (p:=.undef) (v:=v) (.undef v)
 rcases hd with rfl|rfl|rfl|rfl<;>exact this
theorem MI(hE:sZ GE 0 E)(hbm:E.w.heap[bm]? =some (.map es clock))(hb:Hi es clock)(hr:E.w.heap.size<=r){ro:Option Nat}{i3:Nat}{o10 o11:Oper}
  (h1:o10.op=.next (.tmp 9) false) (h1d:o10.dst=some 10) (h1g:o10.guard=none) (h2:o11.op=.extract (.tmp 10) 0) (h2d:o11.dst=some 11) (h2g:o11.guard=none) {vis:List MapEntry} {x:PVal} {a:Act} {w:World} (h:Db P E e es clock bm r vis x a w):
  FP ro P (.region i3 #[o10,o11] false) (fun q a' w'=>q=.normal/\a'.defers=a.defers/\((a'.eval (.tmp 11)=.bool false/\(leftOf es (vis.map (·.born)).toArray).size=0/\Db P E e es clock bm r vis x a' w')\/
   (a'.eval (.tmp 11)=.bool true/\∃y∈(leftOf es (vis.map (·.born)).toArray).toList,(w'.heap[r]? =some (.mapIter (some bm) clock ((vis.map (·.born)).toArray.push y.born) clock)/\∃Γ ow,SR P E Γ [] ow w' a'.tmps (kS e (vis.map u9) (Mz r) x))))) a w:=by
 refine xQ (by simp[fA,h1,h2]) (by rintro⟨_,_,hx,_⟩;cases hx) ?_
 show wpOps P #[o10,o11] _ [0,1] a w
 have hm:=h.map hE hbm
 have hsz:=h.size
 have hext:∀(v:Value) (w':World),(∃l:Array Value,∃b,v=.tuple l/\l[0]? =some (.bool b))->((execOp ((a.put o10.dst v).eval) o11).run P w'=.ok (.value (match v with|.tuple l=>l.getD 0 undef|_=>undef)) w'):=by
  rintro v w' ⟨l,b,rfl,hl⟩
  have:(a.put o10.dst (.tuple l)).eval (.tmp 10)=.tuple l:=by
   refine fo ?_
   rw[h1d]
   show(a.tmps.setIfInBounds 10 _)[10]? =_
   simp[hsz]
  simp[execOp,h2,this,Instr.extract,hl]
 rcases run_next_at (P:=P) w o10.type r bm clock clock _ es clock h.it hm hb.2 (vam _)with⟨hz,hrun⟩|⟨y,hy,w1,hw1,hrun⟩
 ·refine pQ (o:=o10) rfl h1g (v:=.tuple #[.bool false]) (w':=w) (by simp[execOp,h1,h.iv,hrun]) ?_
  refine pQ (o:=o11) rfl h2g (hext _ _ ⟨_,_,rfl,rfl⟩) ?_
  refine⟨rfl,by rw[bR,bR],.inl ⟨?_,hz,?_⟩⟩
  ·refine fo ?_
   rw[h1d,h2d]
   show((a.tmps.setIfInBounds 10 _).setIfInBounds 11 _)[11]? =_
   simp[hsz]
  ·rw[h1d,h2d];exact(h.put (.inl rfl)).put (.inr (.inl rfl))
 ·refine pQ (o:=o10) rfl h1g (v:=.tuple #[.bool true,y.key,y.val]) (w':=Go.ChangeMaps.setBlock w1 r (.mapIter (some bm) clock ((vis.map (·.born)).toArray.push y.born) clock)) (by simp[execOp,h1,h.iv,hrun]) ?_
  refine pQ (o:=o11) rfl h2g (hext _ _ ⟨_,_,rfl,rfl⟩) ?_
  have hlt:r<w.heap.size:=(vad.1 h.it).1
  have hw1h:w1.heap=w.heap/\w1.os=w.os/\w1.tape=w.tape/\w1.output=w.output/\w.drawn<=w1.drawn:=by
   rcases hw1 with rfl|rfl
   ·exact⟨rfl,rfl,rfl,rfl,vam _⟩
   ·exact⟨rfl,rfl,rfl,rfl,vcj _⟩
  obtain⟨k1,k2,k3,k4,k5⟩:=hw1h
  refine⟨rfl,by rw[bR,bR],.inr ⟨?_,y,hy,?_,?_⟩⟩
  ·refine fo ?_
   rw[h1d,h2d]
   show((a.tmps.setIfInBounds 10 _).setIfInBounds 11 _)[11]? =_
   simp[hsz]
  ·show(w1.heap.setIfInBounds r _)[r]? =_
   rw[k1];simp[hlt]
  ·have h':=(h.put (v:=.tuple #[.bool true,y.key,y.val]) (.inl rfl)).put (d:=11) (v:=.bool true) (.inr (.inl rfl))
   obtain⟨Γ,ow,hS⟩:=h'.ex
   obtain⟨hg,hS⟩:=hS.unown h.it
   have hoth:∀b,b≠r->(Go.ChangeMaps.setBlock w1 r (.mapIter (some bm) clock ((vis.map (·.born)).toArray.push y.born) clock)).heap[b]? =w.heap[b]?:=fun b hb=>by
    show(w1.heap.setIfInBounds r _)[b]? =_
    rw[k1,vaL (fun x=>hb x.symm)]
   refine⟨Γ,fun b=>if b=r then none else ow b,?_⟩
   rw[h1d,h2d]
   refine hS.world (fun b=>b=r) (fun b m hb hm0=>⟨m,hb,vam _,fun o _=>ca (hoth b fun x=>by rw[x,hg]at hb;cases hb) o⟩) (fun b m hb=>?_) k2 k3 k4 ?_ (fun b _ hb=>⟨hoth b hb,rfl⟩) (fun b hb=>by subst hb;exact .inr hr) (fun i b hb=>by simp at hb) (fun b L hL hx=>?_) k5
   ·obtain⟨c,t,fr,q1,q2⟩:=hS.wi b m hb
    exact⟨c,t,fr,(hoth b fun x=>by rw[x,hg]at hb;cases hb).trans q1,q2⟩
   ·show _<=(w1.heap.setIfInBounds r _).size
    rw[k1];simp
   ·subst hx;simp at hL
theorem K4(hE:sZ GE 0 E)(hbm:E.w.heap[bm]? =some (.map es clock))(hb:Hi es clock){ro:Option Nat}{i4:Nat}{o12 o13 o4:Oper}
  (h1:o12.op=.entry (.tmp 9)) (h1d:o12.dst=some 12) (h1g:o12.guard=none) (h2:o13.op=.extract (.tmp 12) 0) (h2d:o13.dst=some 13) (h2g:o13.guard=none) (h3:o4.op=.assign (.tmp 13)) (h3d:o4.dst=some 4) (h3g:o4.guard=none)
  {vis:List MapEntry} {x:PVal} {y:MapEntry} (hy:y∈es.toList) (hk:y.key=.string ⟨(u9 y).toArray⟩) {a:Act} {w:World} (hit:w.heap[r]? =some (.mapIter (some bm) clock ((vis.map (·.born)).toArray.push y.born) clock)) (h:∃Γ ow,SR P E Γ [] ow w a.tmps (kS e (vis.map u9) (Mz r) x)):
  FP ro P (.region i4 #[o12,o13,o4] false) (fun q a' w'=>q=.normal/\a'.defers=a.defers/\w'=w/\∃Γ ow,SR P E Γ [] ow w a'.tmps (kS e (vis.map u9) (Mz r) (.str (u9 y)))) a w:=by
 refine xQ (by simp[fA,h1,h2,h3]) (by rintro⟨_,_,hx,_⟩;cases hx) ?_
 show wpOps P #[o12,o13,o4] _ [0,1,2] a w
 obtain⟨Γ,ow,hS⟩:=h
 have hm:w.heap[bm]? =some (.map es clock):=by rw[(hS.step.keep bm (vad.1 hbm).1 (hE.nt rfl bm)).1];exact hbm
 have hsz:a.tmps.size=21:=hS.sz
 have h9:a.eval (.tmp 9)=Mz r:=by
  have h9:VR Γ [] w (.val (Mz r)) (a.eval (.tmp 9)):=hS.opv a.defers (.tmp 9)
  generalize a.eval (.tmp 9)=u at h9
  cases h9
  rfl
 have hrun:=run_entry_at (P:=P) w r bm clock _ es clock y hit hm hy hb.1
 refine pQ (o:=o12) rfl h1g (v:=.tuple #[y.key,y.val]) (w':=w) (by simp[execOp,h1,h9,hrun]) ?_
 have e12:(a.put o12.dst (.tuple #[y.key,y.val])).eval (.tmp 12)=.tuple #[y.key,y.val]:=by
  refine fo ?_
  rw[h1d]
  show(a.tmps.setIfInBounds 12 _)[12]? =_
  simp[hsz]
 refine pQ (o:=o13) rfl h2g (v:=y.key) (w':=w) (by simp[execOp,h2,e12,Instr.extract]) ?_
 have e13:((a.put o12.dst (.tuple #[y.key,y.val])).put o13.dst y.key).eval (.tmp 13)=y.key:=by
  refine fo ?_
  rw[h1d,h2d]
  show((a.tmps.setIfInBounds 12 _).setIfInBounds 13 _)[13]? =_
  simp[hsz]
 refine pQ (o:=o4) rfl h3g (v:=y.key) (w':=w) (by simp[execOp,h3,e13]) ?_
 refine⟨rfl,by rw[bR,bR,bR],rfl,Γ,ow,?_⟩
 rw[h1d,h2d,h3d]
 have k1:=hS.set (d:=12) (p:=.undef) (v:=.tuple #[y.key,y.val]) (.undef _)
 have k2:=k1.set (d:=13) (p:=.undef) (v:=y.key) (.undef _)
 have k3:=k2.set (d:=4) (p:=.str (u9 y)) (v:=y.key) (by rw[hk];exact .str _)
 exact k3
theorem Mb:∀{l:List MapEntry},(l.map (·.born)).Nodup->∀{x y:MapEntry},x∈l->y∈l->x.born=y.born->x=y
 |[],_,x,y,hx,_,_=>by cases hx
 | z :: l,h,x,y,hx,hy,he => by
  rw[var,vbB]at h
  rcases vaE.1 hx with hx1|hx1<;>rcases vaE.1 hy with hy1|hy1
  ·rw[hx1,hy1]
  ·exact absurd (vag.2 ⟨y,hy1,by rw[<-he,hx1]⟩) h.1
  ·exact absurd (vag.2 ⟨x,hx1,by rw[he,hy1]⟩) h.1
  ·exact Mb h.2 hx1 hy1 he
theorem tE{α β:Type}(f:α->β):∀{l:List α},(l.map f).Nodup->l.Nodup
 |[],_=>by simp
 |x::l,h=>by
  rw[var,vbB]at h
  exact vbB.2 ⟨fun hx=>h.1 (vag.2 ⟨x,hx,rfl⟩),tE f h.2⟩
theorem RW{vis:List MapEntry}{y:MapEntry}(hy:y∈(leftOf es (vis.map (·.born)).toArray).toList):y∈es.toList/\y.born∉vis.map (·.born):=by
 unfold leftOf at hy
 simp only[vcB,va0,vaT]at hy
 refine⟨hy.1,fun hx=>?_⟩
 have:=hy.2
 rw[<-vco]at this
 exact this (by simpa using hx)
theorem PQ{vis:List MapEntry}(hb:Hi es clock)(hv:XX es vis)(hz:(leftOf es (vis.map (·.born)).toArray).size=0):vis.Perm es.toList:=by
 refine(List.perm_ext_iff_of_nodup (tE _ hv.nd) (tE _ hb.1)).2 fun x=>⟨hv.sub x,fun hx=>?_⟩
 have hin:x.born∈vis.map (·.born):=Classical.byContradiction fun hn=>by
  have:x∈(leftOf es (vis.map (·.born)).toArray).toList:=by
   unfold leftOf
   simp only[vcB,va0,vaT]
   refine⟨hx,?_⟩
   rw[<-vco]
   exact fun hc=>hn (by simpa using hc)
  have h0:(leftOf es (vis.map (·.born)).toArray).toList.length=0:=by simpa using hz
  rw[List.length_eq_zero_iff.1 h0]at this
  cases this
 obtain⟨v,hvm,he⟩:=vag.1 hin
 rw[<-Mb hb.1 (hv.sub v hvm) hx he]
 exact hvm
theorem PP(hE:sZ GE 0 E)(hbm:E.w.heap[bm]? =some (.map es clock))(hb:Hi es clock)(hr:E.w.heap.size<=r)(hk:∀y∈es.toList,y.key=.string ⟨(u9 y).toArray⟩){ro:Option Nat}{i3 i4:Nat}{o10 o11 o12 o13 o4:Oper}{c5:Code}
  (h1:o10.op=.next (.tmp 9) false) (h1d:o10.dst=some 10) (h1g:o10.guard=none) (h2:o11.op=.extract (.tmp 10) 0) (h2d:o11.dst=some 11) (h2g:o11.guard=none)
  (h3:o12.op=.entry (.tmp 9)) (h3d:o12.dst=some 12) (h3g:o12.guard=none) (h4:o13.op=.extract (.tmp 12) 0) (h4d:o13.dst=some 13) (h4g:o13.guard=none) (h5:o4.op=.assign (.tmp 13)) (h5d:o4.dst=some 4) (h5g:o4.guard=none)
  (h6:∀(l:List ag) (s:ag),l.length<es.size->aR P GE 1000 c5 (EX .normal (kS e (l++[s]) (Mz r) .undef)) (kS e l (Mz r) (.str s))) {a:Act} {w:World} (h:Db P E e es clock bm r [] .undef a w):
  FP ro P (.loop (.seq (.region i3 #[o10,o11] false) (.seq (.cond (.tmp 11) .skip (.exit 0)) (.block 1 (.seq (.region i4 #[o12,o13,o4] false) c5)))))
   (fun q a' w'=>q=.exit 0/\a'.defers=a.defers/\∃vis:List MapEntry,vis.Perm es.toList/\∃Γ ow,SR P E Γ [] ow w' a'.tmps (kS e (vis.map u9) (Mz r) .undef)) a w:=by
 refine zK (fun k a' w'=>a'.defers=a.defers/\∃vis,XX es vis/\vis.length+k=es.size+1/\Db P E e es clock bm r vis .undef a' w') (es.size+1) ⟨rfl,[],⟨by simp,by simp⟩,by simp,h⟩ ?_
 rintro k a1 w1 ⟨hd1,vis,hv,hlen,hR⟩
 refine Du (lj (MI hE hbm hb hr h1 h1d h1g h2 h2d h2g hR) fun q a2 w2 hq=>?_)
 obtain⟨rfl,hd2,hc⟩:=hq
 show FP ro P (.seq _ _) _ a2 w2
 rcases hc with⟨hf,hz,hR2⟩|⟨ht,y,hy,hit,hS⟩
 ·refine Du (HJ hf (fun hx=>by cases hx) fun _=>Mh ?_)
  exact⟨rfl,hd2.trans hd1,vis,PQ hb hv hz,hR2.ex⟩
 ·obtain⟨hy1,hy2⟩:=RW hy
  refine Du (HJ ht (fun _=>Mi ?_) fun hx=>by cases hx)
  show FP ro P (.block 1 _) _ a2 w2
  refine J0 (Du (lj (K4 hE hbm hb h3 h3d h3g h4 h4d h4g h5 h5d h5g hy1 (hk y hy1) hit hS) fun q a3 w3 hq=>?_))
  obtain⟨rfl,hd3,rfl,Γ,ow,hS3⟩:=hq
  show FP ro P c5 _ a3 w3
  have hnd:((vis++[y]).map (·.born)).Nodup:=by
   rw[vaF,va7]
   exact⟨hv.nd,by simp,fun p hp q hq hpq=>by simp at hq;subst hq;subst hpq;exact hy2 hp⟩
  have hsub:∀x∈vis++[y],x∈es.toList:=fun x hx=>by
   rcases vaw.1 hx with hx|hx
   ·exact hv.sub x hx
   ·rw[vbb.1 hx];exact hy1
  have hle:vis.length<es.size:=by
   have:=(tE _ hnd).length_le_of_subset hsub
   simp at this
   omega
  obtain⟨hg,hS3⟩:=hS3.unown hit
  have hE':sZ GE 1000 ⟨E.GE,Γ,w3,bg [] fun b=>if b=r then none else ow b⟩:={
   ge:=hE.ge
   low:=fun b n hb=>hS3.lt_of_ghost hb
   nt:=fun h0=>by cases h0
   gl:=fun g cs hg=>(hS3.gl g cs (by rw[hE.ge];exact hg))}
  have h7:=h6 (vis.map u9) (u9 y) (by simpa using hle) ro _ [] a3 w3 hE' rfl ⟨Γ,[],_,hS3.asEntry,fun i _=>rfl⟩
  refine lj h7 fun q a4 w4 hq=>?_
  obtain⟨hd4,st,⟨Γ4,bs4,ow4,hS4,_⟩,rfl,rfl⟩:=hq
  have hb4:bs4=[]:=vao hS4.bl
  subst hb4
  show ∃n',n'<k/\_
  refine⟨k - 1,by omega,((hd4.trans hd3).trans hd2).trans hd1,vis++[y],⟨hsub,hnd⟩,by simp;omega,?_,Γ4,ow4,?_⟩
  ·have hrl:=(vad.1 hit).1
   rw[(hS4.step.keep r hrl fun hT=>hT.elim (fun⟨i,hi⟩=>by simp at hi) (fun hx=>hx (by simp))).1]
   simpa using hit
  ·have:=hS3.rebaseE hS4
   simpa using this
end
set_option linter.unusedVariables false
def Af(l:List ag):List ag:=l.mergeSort fun x y=>decide (x<=y)
abbrev Qv(x y:ag):Prop:=Op.bytesLess x y=true
theorem AJ:∀(x:ag),Op.bytesLess x x=false
 |[]=>rfl
 |a::x=>by
  unfold Op.bytesLess
  rw[AJ x]
  simp[UInt8.lt_irrefl]
theorem zC:∀{x y z:ag},Qv x y->Qv y z->Qv x z
 |_,_,[],h1,h2=>by simp[Qv,Op.bytesLess]at h2
 |_,[],_::_,h1,h2=>by simp[Qv,Op.bytesLess]at h1
 |[],_::_,_::_,_,_=>rfl
 | a :: x,b :: y,c :: z,h1,h2 => by
  unfold Qv Op.bytesLess at h1 h2 ⊢
  simp only[vaY,vak,vae,vaW]at h1 h2 ⊢
  rcases h1 with h1|⟨rfl,h1⟩
  ·rcases h2 with h2|⟨rfl,h2⟩
   ·exact .inl (UInt8.lt_trans h1 h2)
   ·exact .inl h1
  ·rcases h2 with h2|⟨rfl,h2⟩
   ·exact .inl h2
   ·exact .inr ⟨rfl,zC h1 h2⟩
theorem zB:∀{x y:ag},Op.bytesLess x y=false->Op.bytesLess y x=false->x=y
 |[],[],_,_=>rfl
 |[],_::_,h,_=>by simp[Op.bytesLess]at h
 |_::_,[],_,h=>by simp[Op.bytesLess]at h
 | a :: x,b :: y,h1,h2 => by
  unfold Op.bytesLess at h1 h2
  simp only[Bool.or_eq_false_iff,va3,Bool.and_eq_false_imp,vaW]at h1 h2
  have hab:a=b:=by
   have k1:=UInt8.not_lt.1 h1.1
   have k2:=UInt8.not_lt.1 h2.1
   exact UInt8.le_antisymm k2 k1
  subst hab
  rw[zB (h1.2 rfl) (h2.2 rfl)]
theorem T5:∀(x y:ag),Op.bytesLess x y=decide (x<y)
 |[],[]=>by simp[Op.bytesLess]
 |_::_,[]=>by simp[Op.bytesLess]
 |[],_::_=>by simp[Op.bytesLess]
 |a::x,b::y=>by
  unfold Op.bytesLess
  rw[T5 x y,Bool.eq_iff_iff]
  simp[List.cons_lt_cons_iff]
theorem ON(x y:ag):decide (x<=y)= !Op.bytesLess y x:=by
 rw[T5]
 rw[<-decide_not]
 rfl
theorem LM(l:List ag):(Af l).Pairwise fun x y=>Op.bytesLess y x=false:=by
 have:=List.pairwise_mergeSort (le:=fun x y:ag=>decide (x<=y)) (fun a b c h1 h2=>by
  rw[ON]at h1 h2 ⊢
  simp only[vaT]at h1 h2 ⊢
  cases h:Op.bytesLess c a with
  |false=>rfl
  | true =>
   exfalso
   by_cases hb:Op.bytesLess a b=true
   ·have:=zC h hb
    unfold Qv at this
    rw[h2]at this
    cases this
   ·have:a=b:=zB (by simpa using hb) h1
    subst this
    rw[h2]at h
    cases h) (fun a b=>by
  rw[ON,ON]
  cases h:Op.bytesLess b a with
  |false=>rfl
  | true =>
   cases h':Op.bytesLess a b with
   |false=>rfl
   |true=>
    have:=zC h h'
    unfold Qv at this
    rw[AJ]at this
    cases this) l
 refine vci ?_ this
 intro a b h
 rw[ON]at h
 simpa using h
def NP(x:ag):List ag->List ag
 |[]=>[x]
 |y::r=>if Op.bytesLess y x=true then y::NP x r else x::y::r
def wS:List ag->List ag
 |[]=>[]
 |x::r=>NP x (wS r)
theorem EM(x:ag):∀l,(NP x l).Perm (x::l)
 |[]=>.refl _
 | y :: r => by
  unfold NP
  split
  ·exact((EM x r).cons y).trans (List.Perm.swap x y r)
  ·exact .refl _
theorem oQ:∀l,(wS l).Perm l
 |[]=>.refl _
 |x::r=>(EM x (wS r)).trans ((oQ r).cons x)
abbrev ST(l:List ag):Prop:=l.Pairwise fun x y=>Op.bytesLess y x=false
theorem FX(x:ag):∀{l},ST l->ST (NP x l)
 |[],_=>by simp[NP,ST]
 | y :: r,h => by
  unfold ST at h ⊢
  have h':=vbH.1 h
  unfold NP
  split
  ·rename_i hy
   rw[vbH]
   refine⟨fun z hz=>?_,FX x h'.2⟩
   rcases vaE.1 ((EM x r).mem_iff.1 hz)with rfl|hz
   ·cases hc:Op.bytesLess z y with
    |false=>rfl
    |true=>have:=zC hy hc;unfold Qv at this;rw[AJ]at this;cases this
   ·exact h'.1 z hz
  ·rename_i hy
   have hy:Op.bytesLess y x=false:=by simpa using hy
   rw[vbH]
   refine⟨fun z hz=>?_,h⟩
   rcases vaE.1 hz with rfl|hz
   ·exact hy
   ·have hz:=h'.1 z hz
    cases hc:Op.bytesLess z x with
    |false=>rfl
    | true =>
     exfalso
     by_cases hxy:Op.bytesLess x y=true
     ·have:=zC hc hxy
      unfold Qv at this
      rw[hz]at this;cases this
     ·have:x=y:=zB (by simpa using hxy) hy
      subst this
      rw[hz]at hc;cases hc
theorem pJ:∀l,ST (wS l)
 |[]=>by simp[wS,ST]
 |x::r=>FX x (pJ r)
theorem CK:∀{a b:List ag},ST a->ST b->a.Perm b->a=b
 |[],b,_,_,h=>(List.Perm.nil_eq h)
 |x::a,[],_,_,h=>by have:=h.length_eq;simp at this
 | x :: a,y :: b,ha,hb,h => by
  unfold ST at ha hb
  have ha':=vbH.1 ha
  have hb':=vbH.1 hb
  have hxy:x=y:=by
   rcases vaE.1 (h.mem_iff.1 (vb9:x∈x::a))with hx|hx
   ·exact hx
   ·rcases vaE.1 (h.mem_iff.2 (vb9:y∈y::b))with hy|hy
    ·exact hy.symm
    ·exact zB (hb'.1 x hx) (ha'.1 y hy)
  subst hxy
  congr 1
  exact CK ha'.2 hb'.2 (List.Perm.cons_inv h)
theorem RT(l:List ag):wS l=Af l:=CK (pJ l) (LM l) ((oQ l).trans (List.mergeSort_perm l _).symm)
open Go Go.Sort Go.Proofs.Tryz
set_option maxRecDepth 100000
theorem RK{w:World}{b:Nat}{cur:Array Value}{e:TypeId}{l:List ag}(hh:w.heap[b]? =some (.cells cur e (0,0)))(ht:cur.toList.take l.length=l.map fun s=>Value.string ⟨s.toArray⟩):Holds encStr w b 0 l.toArray:=by
 intro j hj
 have hj':j<l.length:=by simpa using hj
 rw[vaM]
 refine⟨?_,frozen_of_row w b j cur e hh⟩
 rw[cell_of_row w b j cur e _ hh]
 have h1:(cur.toList.take l.length)[j]? =(l.map fun s=>Value.string ⟨s.toArray⟩)[j]?:=by rw[ht]
 rw[van hj']at h1
 simp only[vaS,vax,vab hj',vah]at h1
 rw[h1,getElem!_pos _ j hj]
 simp[encStr]
theorem Qj{w:World}{b n:Nat}{cur:Array Value}{e:TypeId}{os:Array Obj}(d l:List ag)(hh:w.heap[b]? =some (.cells cur e (0,0)))(hd:d.length<=cur.size)(hl:d.take l.length=l):(∀b',b'<w.heap.size->b'≠b->(grow (putRow encStr (Sort.ahead w n) b 0 d.toArray) os).heap[b']? =w.heap[b']?)/\w.heap.size<=(grow (putRow encStr (Sort.ahead w n) b 0 d.toArray) os).heap.size/\
   ∃cur',(grow (putRow encStr (Sort.ahead w n) b 0 d.toArray) os).heap[b]? =some (.cells cur' e (0,0))/\cur'.size=cur.size/\cur'.toList.take l.length=l.map fun s=>Value.string ⟨s.toArray⟩:=by
 have hb:b<w.heap.size:=(vad.1 hh).1
 have hsz:(putRow encStr (Sort.ahead w n) b 0 d.toArray).heap.size=w.heap.size:=by simp[putRow,mapBlock,Sort.ahead]
 refine⟨fun b' h1 h2=>?_,?_,putCells encStr 0 d.toArray cur,?_,by simp[putCells],?_⟩
 ·show((putRow encStr (Sort.ahead w n) b 0 d.toArray).heap++os)[b']? =_
  rw[vaR (by rw[hsz];exact h1)]
  show(w.heap.modify b (onCells _))[b']? =_
  rw[vbI,vat (fun e=>h2 e.symm)]
 ·show _<=((putRow encStr (Sort.ahead w n) b 0 d.toArray).heap++os).size
  rw[Array.size_append,hsz];omega
 ·show((putRow encStr (Sort.ahead w n) b 0 d.toArray).heap++os)[b]? =_
  rw[vaR (by rw[hsz];exact hb)]
  show(w.heap.modify b (onCells _))[b]? =_
  rw[vbI,vaq rfl,hh]
  rfl
 ·have hll:l.length<=d.length:=by have h0:=va9 List.length hl;rw[vba]at h0;omega
  refine va6 fun i=>?_
  by_cases hi:i<l.length
  ·have hdl:i<d.length:=by omega
   have hdi:d[i]=l[i]:=by
    have h1:(d.take l.length)[i]? =l[i]?:=by rw[hl]
    rw[van hi,vab hdl,vab hi]at h1
    exact vbn h1
   rw[van hi]
   simp only[vaS,putCells,Array.getElem?_mapIdx,vax,vab hi,vah]
   have hc:cur[i]? =some (cur[i]'(by omega)):=vaI (by omega)
   rw[hc]
   simp only[vah]
   rw[vaq ⟨va5 _,by simp;omega⟩,Nat.sub_zero,getElem!_pos _ i (by simpa using hdl)]
   simp[encStr,hdi]
  ·rw[vaG (by simp[putCells];omega),vaG (by simp;omega)]
theorem ym(l:List ag):(Af l).length=l.length:=by unfold Af;exact List.length_mergeSort _
theorem UB{n:Nat}(h:n<=fC):n<4611686018427387904:=by unfold fC at h;omega
theorem TV:Un Pg 127 9 (fun s=>Value.string ⟨s.toArray⟩) Af (fun _ _ _=>.tuple #[]):={
 call:=call127
 row:=fun w b cap cur l hh hc hl hm hla ht=>by
  have hlen:=UB hla
  refine(Any.slices_Sort_string Tryz.lays190 b 0 cap l w (RK hh ht) ((vad.1 hh).1) hlen).mono fun r w' hr=>?_
  obtain⟨rfl,n,os,rfl⟩:=hr
  obtain⟨k1,k2,cur',k3,k4,k5⟩:=Qj (n:=n) (os:=os) (Af l) (Af l) hh (by rw[ym];omega) vaP
  exact⟨rfl,by rw[ym];exact hl,rfl,rfl,rfl,⟨k2,vbx _ _⟩,k1,cur',k3,by omega,k5⟩
 none:=fun w=>⟨by simp[Af],Any.slices_Sort_string_none Tryz.lays190 Option.none 0 w⟩}
theorem YJ:Pg.cellsOf 9=1:=by kernel_rfl
open Go Go.Proofs.Tryz
def rb(m:List (ag×Bool)):Option (List ag):=if decide (m.length<=fC)=true then some (wS (m.map fun e=>e.1))else none
abbrev YL:Nat:=82
noncomputable def Rt:Code:=f82.body.getD .skip
def X9:Code->Nat×Array Oper
 |.region id ops _=>(id,ops)
 |_=>(0,#[])
abbrev WP:Code:=iY Rt [false]
abbrev WQ:Code:=iY Rt [true,false]
abbrev JE:Code:=iY Rt [true,true,false,false]
abbrev Vn:Code:=iY Rt [true,true,false,true,false,false,false]
abbrev Uc:Code:=iY Rt [true,true,false,true,false,false,true,true,false,false]
abbrev XN:Code:=iY Rt [true,true,false,true,false,false,true,true,false,true]
abbrev Vo:Code:=iY Rt [true,true,true,false]
abbrev Ya:Code:=iY Rt [true,true,true,true,false]
abbrev xC(c:Code)(i:Nat):Oper:=((X9 c).2)[i]?.getD default
abbrev TT(c:Code):Nat:=(X9 c).1
theorem UK:Rt=.seq (.region (TT WP) #[xC WP 0] false) (.seq (.region (TT WQ) #[xC WQ 0] false) (.seq (.seq (.region (TT JE) #[xC JE 0,xC JE 1,xC JE 2,xC JE 3,xC JE 4] false)
  (.block 0 (.loop (.seq (.region (TT Vn) #[xC Vn 0,xC Vn 1] false) (.seq (.cond (.tmp 11) .skip (.exit 0)) (.block 1 (.seq (.region (TT Uc) #[xC Uc 0,xC Uc 1,xC Uc 2] false) XN)))))))
  (.seq (.region (TT Vo) #[xC Vo 0,xC Vo 1] false) (.seq Ya .ret)))):=by kernel_rfl
abbrev eS:TypeId:=9
theorem YQ(iv:Value)(l:List ag)(s:ag)(h:l.length+1<=fC):aR Pg GE 1000 XN (EX .normal (kS eS (l++[s]) iv .undef)) (kS eS l iv (.str s)):=by
 have bl:app l [s]=some (l++[s]):=by unfold app;rw[vaq (by simpa using h)]
 have z:=sv (dK.mk' (v:=PVal.str) Lz ([s]:List ag) 1 (by kernel_rfl))<|sv (dK.ap bl)<|eF .normal (kS eS (l++[s]) iv .undef)
 exact qY (A:=[14]) mixed z (by kernel_rfl)
theorem YR(l:List ag)(h:l.length<=fC):aR Pg GE 0 (.region (TT Vo) #[xC Vo 0,xC Vo 1] false) (EX .normal (qW 21 3 (Af l) eS)) (qW 21 3 l eS):=
 aR.inplace (t:=3) (d1:=18) (d2:=19) TV YJ h rfl rfl rfl rfl rfl rfl (by decide) (.inl ⟨rfl,ym l⟩)
abbrev sE(l:List ag):aA:=bj 21 [(2,sl cS l)] [] [((2,0),eS)]
theorem YS(l:List ag):aR Pg GE 0 (.seq Ya .ret) (EX .ret (sE l)) (qW 21 3 l eS):=by
 have z:=eF .ret (sE l)
 exact qY (A:=[20]) mixed z (by kernel_rfl)
theorem yg{a:Act}{d t:Nat}{v:Value}:(a.put (some d) v).tmps[t]? =if d=t then(if d<a.tmps.size then some v else none)else a.tmps[t]?:=by
 show(a.tmps.setIfInBounds d v)[t]? =_
 rw[vbl]
theorem uL{a:Act}{d:Nat}{v:Value}:(a.put (some d) v).tmps.size=a.tmps.size:=by
 show(a.tmps.setIfInBounds d v).size=_
 simp
theorem SJ{a:Act}{w:World}{Q:Exit->Act->World->Prop}{id:Nat}{ops:Array Oper}(h:wpOps Pg ops Q (List.range ops.size) a w):(Code.region id ops false).wp Pg Q a w:=wp_region h
theorem XP(m:List (ag×Bool)):mj Pg 124 (.bptr 0 0) [.cells [.mapr 1] [],.map (aD PVal.bool m)]=some (.mapr 1):=by kernel_rfl
theorem XO:bh Pg 126 (.bptr 0 0) 0=some (.bptr 0 0):=by kernel_rfl
theorem XQ:Pg.underlying 124=some (.map 9 4):=by kernel_rfl
theorem wH{m:List (ag×Bool)}{r:List ag}(h:rb m=some r):C Pg GE YL [.bptr 0 0] [] [.cells [.mapr 1] [],.map (aD PVal.bool m)] (sl cS r) [(0,eS)] [.cells [.mapr 1] [],.map (aD PVal.bool m)]:=by
 rcases aP h with⟨hl,h⟩|⟨_,h⟩
 rotate_left
 ·cases h
 obtain rfl:=lf h
 have hlen:m.length<=fC:=by simpa using hl
 refine⟨call82,fun Γ bs ow w vs hS=>calls_of_wp func82 (c:=Rt) rfl ?_⟩
 obtain⟨v,rfl⟩:∃v,vs=#[v]:=vcw.1 hS.sz
 have hvr:VR Γ bs w (.bptr 0 0) v:=hS.tm 0 _ _ rfl rfl
 have hv0:∃b0,v=.pointer (some ⟨b0,0,none⟩)/\bs[0]? =some (some b0):=by cases hvr with|bptr _ _ b0 hb0=>exact⟨b0,rfl,hb0⟩
 obtain⟨b0,rfl,hb0⟩:=hv0
 obtain⟨vm,hld,hvm⟩:=A6 (P:=Pg) hS (t:=124) hvr (XP m)
 have hvm0:∃bm,vm=.map (some bm)/\bs[1]? =some (some bm):=by cases hvm with|mapr _ bm hbm=>exact⟨bm,rfl,hbm⟩
 obtain⟨bm,rfl,hb1⟩:=hvm0
 obtain⟨_,hbml,es,clock,hmap,hsz,hent,hborn⟩:=hS.bx 1 bm _ hb1 rfl
 obtain⟨vf,hfa,hvf⟩:=z7 (P:=Pg) hvr XO
 have hvf0:vf=.pointer (some ⟨b0,0,none⟩):=by cases hvf with|bptr _ _ b hb=>rw[hb0]at hb;cases hb;rfl
 subst hvf0
 have hrg:=run_range_map (P:=Pg) w 124 9 4 bm es clock XQ hmap
 have hB:I5 GE Γ w:=hS.base
 have hE:sZ GE 0 (EI GE Γ w):=hB.good
 have hkey:∀(j:Nat) (x:MapEntry),es[j]? =some x->∃s u,m[j]? =some (s,u)/\x.key=.string ⟨s.toArray⟩:=fun j x hx=>by
  have hj:j<m.length:=by have:=(vad.1 hx).1;rw[hsz]at this;simpa[aD]using this
  obtain⟨h1,_⟩:=hent j (.str m[j].1) (.bool m[j].2) x (by simp[aD,hj]) hx
  refine⟨m[j].1,m[j].2,by simp[hj],?_⟩
  generalize x.key=k at h1
  cases h1;rfl
 have hk:∀y∈es.toList,y.key=.string ⟨(u9 y).toArray⟩:=fun y hy=>by
  obtain⟨j,hj⟩:=vbf.1 hy
  obtain⟨s,u,_,h2⟩:=hkey j y (by simpa using hj)
  unfold u9
  rw[h2]
 have hks:es.toList.map u9=m.map fun e=>e.1:=by
  refine va6 fun j=>?_
  simp only[vax,vaS]
  cases hj:es[j]? with
  |none=>
   have h1:m.length<=j:=by have:=vbN.1 hj;rw[hsz]at this;simpa[aD]using this
   simp[h1]
  |some x=>
   obtain⟨s,u,h1,h2⟩:=hkey j x hj
   simp[h1,u9,h2]
 have hn:f82.ntmps=21:=by kernel_rfl
 refine(fun(key:∀A0:Act,A0.tmps.size=21->A0.tmps[0]? =some (.pointer (some ⟨b0,0,none⟩))->A0.defers=[]->Rt.wp Pg _ A0 w)=>key _ ?_ ?_ rfl) ?_
 ·rw[hn];simp
 ·rw[hn];simp
 intro A0 z0 z1 z2
 rw[UK]
 have d00:(xC WP 0).dst=some 2:=by kernel_rfl
 have d10:(xC WQ 0).dst=some 3:=by kernel_rfl
 have o20:(xC JE 0).op=.move (.tmp 0):=by kernel_rfl
 have d20:(xC JE 0).dst=some 5:=by kernel_rfl
 have o21:(xC JE 1).op=.nilCheck (.tmp 5):=by kernel_rfl
 have d21:(xC JE 1).dst=some 6:=by kernel_rfl
 have o22:(xC JE 2).op=.fieldAddr 126 (.tmp 6) 0:=by kernel_rfl
 have d22:(xC JE 2).dst=some 7:=by kernel_rfl
 have o23:(xC JE 3).op=.load 124 (.tmp 7):=by kernel_rfl
 have d23:(xC JE 3).dst=some 8:=by kernel_rfl
 have o24:(xC JE 4).op=.range 124 (.tmp 8):=by kernel_rfl
 have d24:(xC JE 4).dst=some 9:=by kernel_rfl
 refine wp_seq (SJ (pQ (o:=xC WP 0) (by kernel_rfl) (by kernel_rfl) (v:=.slice none 0 0) (w':=w) (by kernel_rfl) ?_))
 rw[d00]
 show Code.wp Pg _ _ _ w
 refine wp_seq (SJ (pQ (o:=xC WQ 0) (by kernel_rfl) (by kernel_rfl) (v:=.slice none 0 0) (w':=w) (by kernel_rfl) ?_))
 rw[d10]
 show Code.wp Pg _ _ _ w
 refine wp_seq (wp_seq (SJ (pQ (o:=xC JE 0) (by kernel_rfl) (by kernel_rfl) (v:=.pointer (some ⟨b0,0,none⟩)) (w':=w) ?_ ?_)))
 ·have:((A0.put (some 2) (.slice none 0 0)).put (some 3) (.slice none 0 0)).eval (.tmp 0)=.pointer (some ⟨b0,0,none⟩):=fo (by simp only[yg];exact z1)
  simp[execOp,o20,this]
 rw[d20]
 refine pQ (o:=xC JE 1) (by kernel_rfl) (by kernel_rfl) (v:=.pointer (some ⟨b0,0,none⟩)) (w':=w) ?_ ?_
 ·have:(((A0.put (some 2) (.slice none 0 0)).put (some 3) (.slice none 0 0)).put (some 5) (.pointer (some ⟨b0,0,none⟩))).eval (.tmp 5)=.pointer (some ⟨b0,0,none⟩):=fo (by simp only[yg,uL,z0];rfl)
  simp[execOp,o21,this]
 rw[d21]
 refine pQ (o:=xC JE 2) (by kernel_rfl) (by kernel_rfl) (v:=.pointer (some ⟨b0,0,none⟩)) (w':=w) ?_ ?_
 ·have:((((A0.put (some 2) (.slice none 0 0)).put (some 3) (.slice none 0 0)).put (some 5) (.pointer (some ⟨b0,0,none⟩))).put (some 6) (.pointer (some ⟨b0,0,none⟩))).eval (.tmp 6)=.pointer (some ⟨b0,0,none⟩):=fo (by simp only[yg,uL,z0];rfl)
  simp[execOp,o22,this,hfa]
 rw[d22]
 refine pQ (o:=xC JE 3) (by kernel_rfl) (by kernel_rfl) (v:=.map (some bm)) (w':=w) ?_ ?_
 ·have:(((((A0.put (some 2) (.slice none 0 0)).put (some 3) (.slice none 0 0)).put (some 5) (.pointer (some ⟨b0,0,none⟩))).put (some 6) (.pointer (some ⟨b0,0,none⟩))).put (some 7) (.pointer (some ⟨b0,0,none⟩))).eval (.tmp 7)=.pointer (some ⟨b0,0,none⟩):=fo (by simp only[yg,uL,z0];rfl)
  simp[execOp,o23,this,hld]
 rw[d23]
 refine pQ (o:=xC JE 4) (by kernel_rfl) (by kernel_rfl) (v:=Mz w.heap.size) (w':=w.alloc (.mapIter (some bm) clock #[] clock)) ?_ ?_
 ·have:((((((A0.put (some 2) (.slice none 0 0)).put (some 3) (.slice none 0 0)).put (some 5) (.pointer (some ⟨b0,0,none⟩))).put (some 6) (.pointer (some ⟨b0,0,none⟩))).put (some 7) (.pointer (some ⟨b0,0,none⟩))).put (some 8) (.map (some bm))).eval (.tmp 8)=.map (some bm):=fo (by simp only[yg,uL,z0];rfl)
  simp[execOp,o24,this,hrg]
 rw[d24]
 generalize hA1:((((((A0.put (some 2) (.slice none 0 0)).put (some 3) (.slice none 0 0)).put (some 5) (.pointer (some ⟨b0,0,none⟩))).put (some 6) (.pointer (some ⟨b0,0,none⟩))).put (some 7) (.pointer (some ⟨b0,0,none⟩))).put (some 8) (.map (some bm))).put (some 9) (Mz w.heap.size)=A1
 have y0:A1.tmps.size=21:=by rw[<-hA1];simp[uL,z0]
 have y3:A1.tmps[3]? =some (.slice none 0 0):=by rw[<-hA1];simp only[yg,uL,z0];rfl
 have y9:A1.tmps[9]? =some (Mz w.heap.size):=by rw[<-hA1];simp only[yg,uL,z0];rfl
 have y2:A1.defers=[]:=by rw[<-hA1];simp only[bR];exact z2
 clear hA1
 have h0:SR Pg (EI GE Γ w) Γ [] (fun _=>none) w A1.tmps ⟨(kS eS [] (Mz w.heap.size) .undef).tmps,[],[]⟩:=by
  refine hB.fresh 0 y0 fun t p v hp hv=>?_
  by_cases h3:t=3
  ·subst h3
   rw[y3]at hv
   cases hp;cases hv
   exact .sliceNil
  ·by_cases h9:t=9
   ·subst h9
    rw[y9]at hv
    cases hp;cases hv
    exact .val _
   ·have:p=.undef:=by
     have ht:t<21:=by have:=ak hp;simpa[kS]using this
     clear hv
     rcases(show t=0\/t=1\/t=2\/t=4\/t=5\/t=6\/t=7\/t=8\/t=10\/t=11\/t=12\/t=13\/t=14\/t=15\/t=16\/t=17\/t=18\/t=19\/t=20 by omega)with h|h|h|h|h|h|h|h|h|h|h|h|h|h|h|h|h|h|h<;>subst h<;>cases hp<;>rfl
    rw[this]
    exact .undef v
 have h1:SR Pg (EI GE Γ w) Γ [] (fun _=>none) w A1.tmps (kS eS [] (Mz w.heap.size) .undef):={h0 with
  ot:=fun t k e he=>by
   simp[kS]at he
   obtain⟨⟨rfl,rfl⟩,rfl⟩:=he
   exact⟨_,_,y3,rfl,⟨0,[],World.ownsRow_nil _ _ _ _,fun b hb=>by simp[Value.ownBlock]at hb⟩,fun b hb=>by simp[Value.ownBlock]at hb⟩
  ob:=fun i j e cs own b hB=>by simp[kS]at hB}
 obtain⟨h2,_⟩:=h1.allocO (.mapIter (some bm) clock #[] clock)
 have hR:Db Pg (EI GE Γ w) eS es clock bm w.heap.size [] .undef A1 (w.alloc (.mapIter (some bm) clock #[] clock)):=⟨World.alloc_heap_new w _,Γ,_,h2⟩
 have hel:es.size<=fC:=by rw[hsz];simpa[aD]using hlen
 have hlp:=PP (P:=Pg) (GE:=GE) (E:=EI GE Γ w) (e:=eS) (ro:=none) (i3:=TT Vn) (i4:=TT Uc) (o10:=xC Vn 0) (o11:=xC Vn 1) (o12:=xC Uc 0) (o13:=xC Uc 1) (o4:=xC Uc 2) (c5:=XN) hE hmap hborn (vam _) hk
  (by kernel_rfl) (by kernel_rfl) (by kernel_rfl) (by kernel_rfl) (by kernel_rfl) (by kernel_rfl) (by kernel_rfl) (by kernel_rfl) (by kernel_rfl) (by kernel_rfl) (by kernel_rfl) (by kernel_rfl) (by kernel_rfl) (by kernel_rfl) (by kernel_rfl)
  (fun l s hls=>YQ (Mz w.heap.size) l s (by omega)) hR
 show Code.wp Pg _ _ A1 _
 refine wp_block (wp_mono hlp fun q A2 w2 hq=>?_)
 obtain⟨rfl,hd2,vis,hperm,Γ2,ow2,hS2⟩:=hq
 show Code.wp Pg _ _ A2 w2
 have hS2:SR Pg (EI GE Γ w) Γ2 [] ow2 w2 A2.tmps (qW 21 3 (vis.map u9) eS):=hS2.forgetT (tm:=(qW 21 3 (vis.map u9) eS).tmps) rfl
 have hvl:(vis.map u9).length<=fC:=by rw[va8,hperm.length_eq];simpa using hel
 have hwp6:=YR (vis.map u9) hvl none (EI GE Γ w) [] A2 w2 hE rfl ⟨Γ2,[],ow2,hS2,fun i hi=>absurd hi (vaO _)⟩
 refine wp_seq (wp_mono hwp6 fun q A3 w3 hq=>?_)
 obtain⟨hd3,st3,⟨Γ3,bs3,ow3,hS3,_⟩,rfl,rfl⟩:=hq
 show Code.wp Pg _ _ A3 w3
 have hwp7:=YS (Af (vis.map u9)) none (EI GE Γ w) [] A3 w3 hE rfl ⟨Γ3,bs3,ow3,hS3,fun i hi=>absurd hi (vaO _)⟩
 refine wp_mono hwp7 fun q A4 w4 hq=>?_
 obtain⟨hd4,st4,⟨Γ4,bs4,ow4,hS4,_⟩,rfl,rfl⟩:=hq
 have hsort:Af (vis.map u9)=wS (m.map fun e=>e.1):=by
  rw[<-RT]
  refine CK (pJ _) (pJ _) (((oQ _).trans ?_).trans (oQ _).symm)
  rw[<-hks]
  exact hperm.map u9
 rw[hsort]at hS4
 obtain⟨vr,e1,e2,e3⟩:=sA hS4 (fn:=f82) (r:=sl cS (wS (m.map fun e=>e.1))) (by kernel_rfl)
 have hf:=hS4.finish (H':=[]) (src:=dR f82.results.toList) (ro:=[(0,eS)]) e2 (au cb _) trivial (fun x hx=>by
  simp only[vbb]at hx
  subst hx
  exact⟨vbb.2 rfl,fun u v'=>e3 0 u v' trivial⟩) (fun x hx y hy _=>by
  simp only[vbb]at hx hy
  rw[hx,hy])
 have hbs4:bs4.take (List.length ([]:List aB))=[]:=by simp
 rw[hbs4]at hf
 refine⟨((((hd4.trans hd3).trans hd2)).trans y2:A4.defers=[]),vr,e1,vr,Γ4,If 0 (wQ (dR f82.results.toList) [(0,eS)] ow4) ow,rfl,?_⟩
 have hT:∀b,¬(EI GE Γ w).T b:=fun b hb=>hb
 have hw:=hS.aside hf
 have hr:VR Γ4 bs w4 (sl cS (wS (m.map fun e=>e.1))) vr:=e2.clo (au cb _)
 have:=hw.setResult (d:=0) (ro:=[(0,eS)]) (by simp) hr (owC:=wQ (dR f82.results.toList) [(0,eS)] ow4) (fun k e hm=>?_) (fun b t k hb=>?_)
 ·exact this
 ·obtain⟨u,v',h1,h2,h3,h4⟩:=hf.ot 0 k e (vag.2 ⟨(k,e),hm,rfl⟩)
  simp at h1;subst h1
  exact⟨v',h2,h3,h4⟩
 ·obtain⟨k1,k2⟩:=hf.on b _ hb
  have hge:w.heap.size<=b:=k2.resolve_left (hT b)
  refine⟨?_,k1,.inr (vaC hS.step.size hge)⟩
  cases hL:ow b with
  |none=>rfl
  |some L=>have:=(hS.on b L hL).1;omega
abbrev YK:Nat:=106
noncomputable def UI:Code:=f106.body.getD .skip
abbrev X4:Code:=iY UI [false]
abbrev X5:Code:=iY UI [true,false,false]
abbrev SN:Code:=iY UI [true,false,true,false]
abbrev XA:Code:=iY UI [true,true,false]
theorem UJ:UI=.seq X4 (.seq (.seq X5 (.block 0 (.rangeFunc (.tmp 9) #[10,11] (WE SN) (WF SN)))) (.seq XA .ret)):=by kernel_rfl
def wR(nm:ag)(s:ag×Bool)(x:aa):Option (Bool×(ag×Bool)):=if(x.old==nm)=true then some (false,(x.new,true))else some (true,s)
def pq(scope:List aa)(name:ag):Option (ag×Bool):=if decide (scope.length<4611686018427387904)=true then
 (Oj (wR name) scope.reverse ([],false)).bind fun q=>if q.1=true then some ([],false)else some q.2 else none
abbrev Tn(s:ag×Bool):List aB:=[.dead,.cells [.str s.1] [],.cells [.bool s.2] []]
abbrev Qw(nm:ag)(s:ag×Bool):aA:=bj 18 [(3,.eptr [.str nm]),(4,.bptr 1 0),(5,.bptr 2 0)] (Tn s) []
abbrev U0(sc:List aa)(nm:ag):aA:=bj 18 [(0,Gf sc),(3,.eptr [.str nm]),(4,.bptr 1 0),(5,.bptr 2 0)] (Tn ([],false)) []
theorem XB(sc:List aa)(nm:ag):aR Pg GE 0 X4 (EX .normal (U0 sc nm)) (bj 18 [(0,Gf sc),(1,.str nm)] [] []):=by
 have z:=se (Lz nm)<|sx (show gR Pg 9=some [.str []] by kernel_rfl)<|sx (show gR Pg 4=some [.bool false] by kernel_rfl)<|eF .normal (U0 sc nm)
 exact qY (A:=[]) mixed z (by kernel_rfl)
abbrev TW(sc:List aa)(nm:ag):aA:=bj 18 [(3,.eptr [.str nm]),(4,.bptr 1 0),(5,.bptr 2 0),(9,.func (.func Mk) [] [.eptr [Gf sc]])] (Tn ([],false)) []
theorem XC(sc:List aa)(nm:ag):aR Pg GE 0 X5 (EX .normal (TW sc nm)) (U0 sc nm):=by
 have z:=cW (Ma sc)<|eF .normal (TW sc nm)
 exact qY (A:=[]) mixed z (by kernel_rfl)
abbrev YO(x:aa):List PVal:=[.str x.old,.str x.new]
abbrev U1(nm:ag)(s:ag×Bool)(x:aa):aA:=bj 18 [(3,.eptr [.str nm]),(4,.bptr 1 0),(5,.bptr 2 0),(7,.bptr 3 0)] (Tn s++[.cells (YO x) []]) []
theorem XD(nm:ag)(s:ag×Bool)(x:aa):aR Pg GE 3 (WE SN) (EX .normal (U1 nm s x)) (bj 18 [(3,.eptr [.str nm]),(4,.bptr 1 0),(5,.bptr 2 0),(11,.agg (ac x))] (Tn s) []):=by
 have z:=sx (show gR Pg 137=some [.str [],.str []] by kernel_rfl)<|sx (GS x)<|eF .normal (U1 nm s x)
 exact qY (A:=[]) mixed z (by kernel_rfl)
abbrev U2(nm:ag)(r:ag×Bool):aA:=bj 18 [(3,.eptr [.str nm]),(4,.bptr 1 0),(5,.bptr 2 0)] (Tn r++[.dead]) []
theorem XE(nm:ag)(s:ag×Bool)(x:aa){r:Bool×(ag×Bool)}(h:wR nm s x=some r):aR Pg GE 3 (WF SN) (EX (if r.1=true then .normal else .ret) (U2 nm r.2)) (U1 nm s x):=by
 unfold wR at h
 rcases aP h with⟨c1,h⟩|⟨c1,h⟩
 ·cases h
  have z:=ss<|sv (cZ Ge (.str nm) [])<|sg 0 c1<|ss<|ss<|ss<|eF .ret (U2 nm (x.new,true))
  exact qY (A:=[]) mixed z (by kernel_rfl)
 ·cases h
  have z:=ss<|sv (cZ Ge (.str nm) [])<|sg 0 c1<|eF .normal (U2 nm s)
  exact qY (A:=[]) mixed z (by kernel_rfl)
theorem XF(nm:ag)(s:ag×Bool):aR Pg GE 3 (.seq XA .ret) (EX .ret (Qw nm ([],false))) (Qw nm s):=by
 have z:=ss<|ss<|eF .ret (Qw nm ([],false))
 exact qY (A:=[]) mixed z (by kernel_rfl)
theorem UX(nm:ag)(s:ag×Bool):aR Pg GE 3 .ret (EX .ret (Qw nm s)) (Qw nm s):=by
 have z:=eF .ret (Qw nm s)
 exact qY (A:=[]) mixed z (by kernel_rfl)
abbrev yh(fn:FuncId)(a:Array Value)(D:Nat)(b:Bool):Loop:={state:=if b then .ready else .done,pending:=if b then none else some .ret,fn:=fn,tmps:=a,params:=#[10,11],assign:=WE SN,body:=WF SN,defers:=D}
def JD(nm:ag)(Γe:aV)(we:World)(bs:bw)(a:Array Value)(fn:FuncId)(l D:Nat)(b:Bool)(s:ag×Bool)(Γ:aV)(w:World):Prop:=
 ∃ow,SR Pg (EI GE Γe we) Γ bs ow w a (Qw nm s)/\¬bg bs ow l/\¬bg bs ow D/\w.heap[l]? =some (.loop (yh fn a D b))/\w.heap[D]? =some (.deferred (some []))
theorem VF{nm:ag}{Γe:aV}{we:World}{bs:bw}{a:Array Value}{fn:FuncId}{l D:Nat}:Sd Pg GE (JD nm Γe we bs a fn l D) where
 base:=fun b s Γ w ⟨ow,h,_⟩=>h.base
 side:=fun b s Γ w ⟨ow,h,hTl,hTD,hhl,hhD⟩ Γ' bs' ow' w' a' st' h'=>
  ⟨ow,h.aside h',hTl,hTD,(h'.step.keep l (j2 hhl) id).1.trans hhl,(h'.step.keep D (j2 hhD) id).1.trans hhD⟩
theorem W8{nm:ag}{Γe:aV}{we:World}{bs:bw}{a:Array Value}{fn:FuncId}{l D:Nat}(hl:we.heap.size<=l)(hD:we.heap.size<=D)(hne:D≠l)(hb:bs.length=3)(s:ag×Bool)(Γ:aV)(w:World)(i:Int)(x:aa)(v:Value)(n:Nat)(r:Bool×(ag×Bool))
  (hj:JD nm Γe we bs a fn l D true s Γ w) (hv:VR Γ [] w (.agg (ac x)) v) (hr:wR nm s x=some r):YieldAt Fence.wide n Pg l #[.int .i64 i,v] w fun e w'=>∃Γ',e=.returned (.bool r.1)/\Γ.Le w Γ' w'/\JD nm Γe we bs a fn l D r.1 r.2 Γ' w':=by
 obtain⟨ow,h,hTl,hTD,hhl,hhD⟩:=hj
 have hS4:=XE nm s x hr
 refine⟨_,_,_,_,run_yield hhl rfl,?_⟩
 have hz:(((#[10,11]:Array Tmp).zip #[Value.int .i64 i,v]).foldl (fun tmps (t,a)=>tmps.setIfInBounds t a) a)=(a.setIfInBounds 10 (.int .i64 i)).setIfInBounds 11 v:=by simp
 show RoundIn Fence.wide n Pg l fn (((#[10,11]:Array Tmp).zip #[Value.int .i64 i,v]).foldl (fun tmps (t,a)=>tmps.setIfInBounds t a) a) (WE SN) (WF SN) w _
 rw[hz]
 have h7:SR Pg (EI GE Γe we) Γ bs ow w ((a.setIfInBounds 10 (.int .i64 i)).setIfInBounds 11 v) (bj 18 [(3,.eptr [.str nm]),(4,.bptr 1 0),(5,.bptr 2 0),(11,.agg (ac x))] (Tn s) []):=(h.set (d:=10) (p:=.undef) (v:=.int .i64 i) (.undef _)).set (d:=11) (p:=.agg (ac x)) (hv.mono (.refl _ _) (fun i b hi=>by simp at hi))
 refine roundIn_of_wpIn trivial (wpIn_mono (aR.on (XD nm s x) (by decide) h7 (by rw[hb];decide) (some l) [] n) ?_)
 rintro e ⟨a1,ds1⟩ w1 ⟨rfl,Γ1,bs1,ow1,st1,h1,⟨rfl,rfl⟩,hbs1,hle1,hsz1,hk1⟩
 obtain⟨k1,t1⟩:=hk1 l (j2 hhl) hTl
 obtain⟨k1D,t1D⟩:=hk1 D (j2 hhD) hTD
 have hl1:=k1.trans hhl
 refine⟨_,run_beginRound hl1 rfl,?_⟩
 obtain⟨h1',hle1'⟩:=h1.putOther (l:=l) (o:=.loop {yh fn a D true with state:=.busy}) t1 (.inr hl) (fun c t fr e=>by rw[hl1]at e;cases e)
 have hb1:3<=bs1.length:=by have:=h1.bl;rw[this];exact Nat.le_of_ble_eq_true rfl
 obtain⟨bq,s'⟩:=r
 refine wpIn_mono (aR.on hS4 (by decide) h1' hb1 (some l) [] n) ?_
 rintro e ⟨a2,ds2⟩ w2 ⟨rfl,Γ2,bs2,ow2,st2,h2,⟨rfl,rfl⟩,hbs2,hle2,hsz2,hk2⟩
 have hl1':(w1.putObj l (.loop {yh fn a D true with state:=.busy})).heap[l]? =some (.loop {yh fn a D true with state:=.busy}):=World.putObj_heap_same (j2 hl1)
 have hD1':(w1.putObj l (.loop {yh fn a D true with state:=.busy})).heap[D]? =some (.deferred (some [])):=(World.putObj_heap_other hne).trans (k1D.trans hhD)
 obtain⟨k2,t2⟩:=hk2 l (j2 hl1') t1
 obtain⟨k2D,t2D⟩:=hk2 D (j2 hD1') t1D
 have hl2:=k2.trans hl1'
 cases bq with
 |true=>
  refine⟨_,_,run_endRound none hl2,?_⟩
  obtain⟨h3,hle3⟩:=h2.putOther (l:=l) (o:=.loop {{yh fn a D true with state:=.busy}with state:=if(none:Option Code).isNone then .ready else .done,pending:=none}) t2 (.inr hl) (fun c t fr e=>by rw[hl2]at e;cases e)
  have hle:Γ.Le w Γ2 (w2.putObj l (.loop {{yh fn a D true with state:=.busy}with state:=if(none:Option Code).isNone then .ready else .done,pending:=none})):=((hle1.trans hle1').trans hle2).trans hle3
  obtain⟨ow3,h4,hT4⟩:=h.back rfl h3 hle (H':=Tn s') (fun i hi=>(hbs2 i (by omega)).trans (hbs1 i (by omega))) ⟨trivial,⟨rfl,aI trivial trivial,fun x hx=>hx⟩,⟨rfl,aI trivial trivial,fun x hx=>hx⟩,trivial⟩ hb.symm
  exact⟨Γ2,rfl,hle,ow3,h4,fun hx=>t2 (hT4 l hx),fun hx=>t2D (hT4 D hx),World.putObj_heap_same (j2 hl2),(World.putObj_heap_other hne).trans (k2D.trans hD1')⟩
 |false=>
  refine⟨_,_,run_endRound (some .ret) hl2,?_⟩
  obtain⟨h3,hle3⟩:=h2.putOther (l:=l) (o:=.loop {{yh fn a D true with state:=.busy}with state:=if(some Code.ret:Option Code).isNone then .ready else .done,pending:=some .ret}) t2 (.inr hl) (fun c t fr e=>by rw[hl2]at e;cases e)
  have hle:Γ.Le w Γ2 (w2.putObj l (.loop {{yh fn a D true with state:=.busy}with state:=if(some Code.ret:Option Code).isNone then .ready else .done,pending:=some .ret})):=((hle1.trans hle1').trans hle2).trans hle3
  obtain⟨ow3,h4,hT4⟩:=h.back rfl h3 hle (H':=Tn s') (fun i hi=>(hbs2 i (by omega)).trans (hbs1 i (by omega))) ⟨trivial,⟨rfl,aI trivial trivial,fun x hx=>hx⟩,⟨rfl,aI trivial trivial,fun x hx=>hx⟩,trivial⟩ hb.symm
  exact⟨Γ2,rfl,hle,ow3,h4,fun hx=>t2 (hT4 l hx),fun hx=>t2D (hT4 D hx),World.putObj_heap_same (j2 hl2),(World.putObj_heap_other hne).trans (k2D.trans hD1')⟩
theorem Am{sc:List aa}{nm:ag}{r:ag×Bool}(h:pq sc nm=some r):CC Pg GE YK [Gf sc,.str nm] (.tuple [.str r.1,.bool r.2]) []:=by
 refine⟨aI (ND sc)<|aI trivial trivial,call106,fun Γ bs ow w vs hS=>(callsIn_wide (n:=0)).1 (callsIn_of_wp_marks func106 (c:=UI) rfl trivial ?_)⟩
 obtain rfl:bs=[]:=vao hS.bl
 have hvs:vs.size=2:=hS.sz
 have hB:I5 GE Γ w:=hS.base
 have hE:sZ GE 0 (EI GE Γ w):=hB.good
 have h0:SR Pg (EI GE Γ w) Γ [] (fun _=>none) w (vs++Array.replicate 16 undef) (bj 18 [(0,Gf sc),(1,.str nm)] [] []):=by
  refine hB.fresh (a:=vs++Array.replicate 16 undef) 0 (tmps:=[Gf sc,.str nm]++List.replicate 16 .undef) (by simp[hvs]) fun t q u hq hu=>?_
  by_cases ht:t<2
  ·rw[vac (by simpa using ht)]at hq
   rw[vaR (by omega)]at hu
   exact hS.tm t q u hq hu
  ·rw[vaf (by show 2<=t;omega),vaX]at hq
   split at hq<;>cases hq
   exact .undef u
 have key:∀R:Ending->World->Prop,(∀{Γ6:aV} {bs6:bw} {ow6:Nat->Option l7} {a6:Array Value} {w6:World},SR Pg (EI GE Γ w) Γ6 bs6 ow6 w6 a6 (Qw nm r)->LeavesInM Fence.wide 0 Pg f106 a6 R [] .returning w6)->
   UI.wpIn Fence.wide 0 Pg (bodyPostM Fence.wide 0 Pg f106 R) ⟨vs++Array.replicate 16 undef,[]⟩ w:=fun R hfin=>by
  unfold pq at h
  rcases aP h with⟨c0,h⟩|⟨c0,h⟩
  rotate_left
  ·cases h
  have hlen:sc.length<4611686018427387904:=by simpa using c0
  rw[UJ]
  refine wpIn_seq (wpIn_mono (aR.wideE (XB sc nm) hE h0 0 []) ?_)
  rintro e ⟨a1,ds1⟩ w1 ⟨rfl,Γ1,bs1,ow1,st1,h1,rfl,rfl⟩
  obtain⟨q,hq,h⟩:=aJ h
  refine wpIn_seq (wpIn_seq (wpIn_mono (aR.wideE (XC sc nm) hE h1 0 []) ?_))
  rintro e ⟨a3,ds3⟩ w3 ⟨rfl,Γ3,bs3,ow3,st3,h3,rfl,rfl⟩
  have h6:=h3.opv [] (.tmp 9)
  have e6:opv (EI GE Γ w).GE (TW sc nm).tmps (.tmp 9)=.func (.func Mk) [] [.eptr [Gf sc]]:=rfl
  rw[e6]at h6
  have hbl:bs3.length=3:=h3.bl
  refine wpIn_block (wpIn_rangeFunc fun fn _=>?_)
  obtain⟨g1,l1⟩:=h3.allocO (.deferred (some []))
  obtain⟨g2,l2⟩:=g1.allocO (.loop (yh fn a3 w3.heap.size true))
  have gF:=g2.forgetT (tm:=(Qw nm ([],false)).tmps) rfl
  have hsz3:w.heap.size<=w3.heap.size:=h3.step.size
  have htl:∀b,w3.heap.size<=b->¬bg bs3 ow3 b:=fun b hb hx=>by
   rcases hx with⟨i,hi⟩|hx
   ·have hil:i<(TW sc nm).boxes.length:=by rw[<-h3.bl];exact ak hi
    have:=(h3.bx i b _ hi (vab hil)).2.1
    omega
   ·cases hL:ow3 b with
    |none=>exact hx hL
    |some L=>have:=(h3.on b L hL).1;omega
  generalize hvf:(Act.mk a3 []).eval (.tmp 9)=vf at h6
  cases h6 with
  |func _ _ _ fs cs hl1 hl2 hf hc=>
  obtain rfl:fs=#[]:=vaZ hl1
  obtain⟨cv,rfl⟩:∃v,cs=#[v]:=vcw.1 hl2
  have hcv:VR Γ3 bs3 w3 (.eptr [Gf sc]) cv:=hc 0 _ _ rfl rfl
  have hJ:JD nm Γ w bs3 a3 fn (w3.heap.size+1) w3.heap.size true ([],false) Γ3 ((w3.alloc (.deferred (some []))).alloc (.loop (yh fn a3 w3.heap.size true))):=by
   refine⟨ow3,gF,htl _ (by omega),htl _ (vam _),?_,?_⟩
   ·have:=World.alloc_heap_new (w3.alloc (.deferred (some []))) (.loop (yh fn a3 w3.heap.size true))
    rwa[World.size_alloc]at this
   ·rw[fm _ _ (by rw[World.size_alloc];omega)]
    exact World.alloc_heap_new w3 _
  have hY:=W8 (nm:=nm) (Γe:=Γ) (we:=w) (bs:=bs3) (a:=a3) (fn:=fn) (l:=w3.heap.size+1) (D:=w3.heap.size) (by omega) hsz3 (by omega) hbl
  refine⟨_,_,_,{target:=.fn (.func Mk) #[cv],args:=#[.func (.yield (w3.heap.size+1)) #[] #[]]},(w3.alloc (.deferred (some []))).alloc (.loop (yh fn a3 w3.heap.size true)),Mk,#[.func (.yield (w3.heap.size+1)) #[] #[],cv],(w3.alloc (.deferred (some []))).alloc (.loop (yh fn a3 w3.heap.size true)),run_enterLoop_outer fn a3 #[10,11] (WE SN) (WF SN),?_,fun _ _=>trivial,?_,fun hx=>by simp[Fence.wide]at hx,?_⟩
  ·have hvf':(Act.mk a3 []).eval (.tmp 9)=.func (.func Mk) #[] #[cv]:=hvf
   simp only[resolve,hvf',Deferred.ofValue]
   simp[Act.eval]
   rfl
  ·simp[invoke,call157]
  ·refine(V6 VF hY sc hlen (n:=0 - 1) hq hJ (((hcv.mono l1 (.refl _)).mono l2 (.refl _)).clo (FO sc))).mono ?_
   rintro e w4 ⟨⟨u,rfl⟩,Γ4,hle4,ow4,h4,tl4,tD4,hl4,hD4⟩
   refine⟨_,_,run_endLoop hl4 (by cases q.1<;>simp),?_⟩
   obtain⟨h5,hle5⟩:=h4.putOther (l:=w3.heap.size+1) (o:=.loop {yh fn a3 w3.heap.size q.1 with state:=.exhausted}) tl4 (.inr (show w.heap.size<=_ by omega)) (fun c t fr e=>by rw[hl4]at e;cases e)
   have hD5:(w4.putObj (w3.heap.size+1) (.loop {yh fn a3 w3.heap.size q.1 with state:=.exhausted})).heap[w3.heap.size]? =some (.deferred (some [])):=(World.putObj_heap_other (by omega)).trans hD4
   generalize w4.putObj (w3.heap.size+1) (.loop {yh fn a3 w3.heap.size q.1 with state:=.exhausted})=w5 at h5 hle5 hD5
   have last:∀c:Code,aR Pg GE 3 c (EX .ret (Qw nm r)) (Qw nm q.2)->∀Q:Exit->Act->World->Prop,(∀a w,bodyPostM Fence.wide 0 Pg f106 R .ret a w->Q .ret a w)->c.wpIn Fence.wide 0 Pg Q ⟨a3,[{target:=.collected w3.heap.size,args:=#[]}]⟩ w5:=fun c hc Q hQ=>by
    refine wpIn_mono (wpIn_wide.2 (aR.on hc (by decide) h5 (by rw[hbl];decide) none [{target:=.collected w3.heap.size,args:=#[]}])) ?_
    rintro e ⟨a6,ds6⟩ w6 ⟨rfl,Γ6,bs6,ow6,st6,h6,⟨rfl,rfl⟩,hbs6,hle6,hsz6,hk6⟩
    obtain⟨k6,t6⟩:=hk6 _ (j2 hD5) tD4
    have hD6:=k6.trans hD5
    obtain⟨h7,hle7⟩:=h6.putOther (l:=w3.heap.size) (o:=.deferred none) t6 (.inr hsz3) (fun c t fr e=>by rw[hD6]at e;cases e)
    exact hQ _ _ ⟨by simp,.inl ⟨w3.heap.size,_,rfl,run_takeDeferred hD6,hfin h7⟩⟩
   rcases aP h with⟨c3,h⟩|⟨c3,h⟩
   ·cases h
    have e3:(yh fn a3 w3.heap.size q.1).pending=none:=by show(if q.1=true then none else some Code.ret)=none;rw[c3];rfl
    rw[e3]
    exact last (.seq XA .ret) (XF nm q.2) _ (fun _ _ hx=>hx)
   ·cases h
    have e3:(yh fn a3 w3.heap.size q.1).pending=some .ret:=by show(if q.1=true then none else some Code.ret)=some .ret;rw[c3];rfl
    rw[e3]
    exact last .ret (UX nm q.2) _ (fun _ _ hx=>hx)
 rw[hvs]
 refine key _ fun{Γ6 bs6 ow6 a6 w6} h7=>?_
 have hS7:SR Pg ⟨GE,Γ,w,bg [] ow⟩ Γ6 bs6 ow6 w6 a6 (Qw nm r):={h7 with
  bn:=fun i b hb=>(h7.bn i b hb).elim False.elim .inr
  on:=fun b L hL=>⟨(h7.on b L hL).1,(h7.on b L hL).2.elim False.elim .inr⟩
  gx:=hS.gx
  step:={h7.step with keep:=fun b hb _=>h7.step.keep b hb (fun hx=>hx)}}
 obtain⟨vr,e1,e2,e3⟩:=sA hS7 (fn:=f106) (r:=.tuple [.str r.1,.bool r.2]) (by kernel_rfl)
 refine⟨vr,e1,vr,Γ6,wQ (dR f106.results.toList) [] ow6,rfl,?_⟩
 have hf:=hS7.finish (H':=[]) (src:=dR f106.results.toList) (ro:=[]) e2 (aI trivial<|aI trivial trivial) trivial (fun x hx=>by cases hx) (fun x hx=>by cases hx)
 simpa using hf
end Go.Proofs.YtkdahfeiedaahaaGreatDoor
