/- PROVED: a part of the proof. Conditions: none. -/
import Derived.Test.YtkdahfeiedaahaaGreatDoorPkC19
import Derived.Test.YtkdahfeiedaahaaGreatDoorPkC10
import Derived.Shelf.SlicesE.DeleteFunc
import Derived.Shelf.SlicesE.Index
noncomputable section
namespace Go.Proofs.YtkdahfeiedaahaaGreatDoor
open Go
set_option linter.unusedVariables false
set_option linter.unusedSimpArgs false
def Ep(m:bo)(name:ae):cF×Bool:=(m.Datas.find? (fun d=>d.Name==name)).elim (⟨[],[],[],[]⟩,false) (fun d=>(d,true))
abbrev T4:Type:=ae×List ae×List a8×List aY
theorem vS{α β:Type}(p:α->Bool)(f:α->β):∀(l:List α),l.findSome? (fun x=>if p x=true then some (f x)else none)=(l.find? p).map f
 |[]=>rfl
 |x::l=>by
  rw[List.findSome?_cons,List.find?_cons]
  cases h:p x with
  |true=>rfl
  |false=>simpa using vS p f l
theorem Qy(m:bo)(name:ae)(h1:m.Datas.length<9223372036854775808):uQ m name=some (Ep m name):=by
 unfold uQ tJ Ep
 have:=qw m.Datas h1 (fun i=>(i,[],[],[],[])) (fun(zz:Int×ae×(List ae)×(List a8)×(List aY))=>f0 name m.Datas (m.Datas.length:Int) zz.1 zz.2.1 zz.2.2.1 zz.2.2.2.1 zz.2.2.2.2)
  (fun d=>if(d.Name==name)=true then some (Sum.inl (d.Name,d.Vars,d.Preds,d.Cons):T4⊕T4)else none) (.inr ([],[],[],[])) (fun i hi=>?_) ?_
 ·rw[this]
  simp only[vab]
  rw[show m.Datas.findSome? (fun d=>if(d.Name==name)=true then some (Sum.inl (d.Name,d.Vars,d.Preds,d.Cons):T4⊕T4)else none)=_ from vS (fun d:cF=>d.Name==name) (fun d=>(Sum.inl (d.Name,d.Vars,d.Preds,d.Cons):T4⊕T4)) m.Datas]
  cases m.Datas.find? (fun d=>d.Name==name)<;>rfl
 ·show f0 name m.Datas (m.Datas.length:Int) (i:Int) [] [] [] []=_
  unfold f0
  rw[vax (by simp;omega),db _ i hi]
  simp only[vab]
  by_cases hn:(m.Datas[i].Name==name)=true<;>simp[hn]
 ·show f0 name m.Datas (m.Datas.length:Int) (m.Datas.length:Int) [] [] [] []=_
  unfold f0
  rw[vay (by simp)]
theorem QP(m:bo)(name:ae)(h1:m.Datas.length<9223372036854775808):CX m name=some (Ep m name):=by
 unfold CX yJ Ep
 have:=qw m.Datas h1 (fun i=>(i,[],[],[],[])) (fun(zz:Int×ae×(List ae)×(List a8)×(List aY))=>jt name m zz.1 zz.2.1 zz.2.2.1 zz.2.2.2.1 zz.2.2.2.2)
  (fun d=>if(d.Name==name)=true then some (Sum.inl (d.Name,d.Vars,d.Preds,d.Cons):T4⊕T4)else none) (.inr ([],[],[],[])) (fun i hi=>?_) ?_
 ·rw[this]
  simp only[vab]
  rw[show m.Datas.findSome? (fun d=>if(d.Name==name)=true then some (Sum.inl (d.Name,d.Vars,d.Preds,d.Cons):T4⊕T4)else none)=_ from vS (fun d:cF=>d.Name==name) (fun d=>(Sum.inl (d.Name,d.Vars,d.Preds,d.Cons):T4⊕T4)) m.Datas]
  cases m.Datas.find? (fun d=>d.Name==name)<;>rfl
 ·show jt name m (i:Int) [] [] [] []=_
  unfold jt
  rw[vax (by simp;omega),db _ i hi]
  simp only[vab]
  by_cases hn:(m.Datas[i].Name==name)=true<;>simp[hn]
 ·show jt name m (m.Datas.length:Int) [] [] [] []=_
  unfold jt
  rw[vay (by simp)]
def Ns(m:bo)(name:ae):Option (cF×Nat):=m.Datas.findSome? fun d=>(d.Cons.findIdx? (fun c=>c.Name==name)).map fun j=>(d,j)
abbrev T5:Type:=Int×ae×List ae×List a8×List aY
def MH(x:cF×Nat):T5:=((x.2:Int),x.1.Name,x.1.Vars,x.1.Preds,x.1.Cons)
theorem R9(m:bo)(name:ae)(h1:m.Datas.length<9223372036854775808)(h2:∀d∈m.Datas,d.Cons.length<9223372036854775808):xv m name=some ((Ns m name).elim (⟨[],[],[],[]⟩,0,false) (fun x=>(x.1,(x.2:Int),true))):=by
 unfold xv vG Ns
 have:=qw m.Datas h1 (fun i=>(i,[],[],[],[])) (fun(zz:Int×ae×(List ae)×(List a8)×(List aY))=>gT name m.Datas (m.Datas.length:Int) zz.1 zz.2.1 zz.2.2.1 zz.2.2.2.1 zz.2.2.2.2)
  (fun d=>((d.Cons.findIdx? (fun c=>c.Name==name)).map fun j=>(Sum.inl (MH (d,j)):T5⊕(ae×(List ae)×(List a8)×(List aY))))) (.inr ([],[],[],[])) (fun i hi=>?_) ?_
 ·rw[this]
  simp only[vab]
  have key:∀l:List cF,(l.findSome? (fun d=>((d.Cons.findIdx? (fun c=>c.Name==name)).map fun j=>(Sum.inl (MH (d,j)):T5⊕(ae×(List ae)×(List a8)×(List aY))))))=(l.findSome? fun d=>(d.Cons.findIdx? (fun c=>c.Name==name)).map fun j=>(d,j)).map (fun x=>Sum.inl (MH x)):=by
   intro l
   induction l with
   |nil=>rfl
   |cons d l ih=>
    rw[List.findSome?_cons,List.findSome?_cons,ih]
    cases d.Cons.findIdx? (fun c=>c.Name==name)<;>rfl
  rw[key]
  cases(m.Datas.findSome? fun d=>(d.Cons.findIdx? (fun c=>c.Name==name)).map fun j=>(d,j))<;>rfl
 ·show gT name m.Datas (m.Datas.length:Int) (i:Int) [] [] [] []=_
  unfold gT
  rw[vax (by simp;omega),db _ i hi]
  simp only[vab]
  have hd:=h2 _ (vaG hi)
  generalize m.Datas[i]=d at hd
  unfold vH
  have:=Hs d.Cons hd (fun i=>(i,[],[],[],[])) (fun(zz:Int×ae×(List ae)×(List a8)×(List aY))=>gU name d.Cons (d.Cons.length:Int) zz.1 zz.2.1 zz.2.2.1 zz.2.2.2.1 zz.2.2.2.2)
   (fun c=>c.Name==name) (fun j=>Sum.inl (j:Int)) (.inr ([],[],[],[])) (fun k hk=>?_) ?_
  ·rw[this]
   cases d.Cons.findIdx? (fun c=>c.Name==name)<;>rfl
  ·show gU name d.Cons (d.Cons.length:Int) (k:Int) [] [] [] []=_
   unfold gU
   rw[vax (by simp;omega),db _ k hk]
   simp only[vab]
   by_cases hn:(d.Cons[k].Name==name)=true<;>simp[hn]
  ·show gU name d.Cons (d.Cons.length:Int) (d.Cons.length:Int) [] [] [] []=_
   unfold gU
   rw[vay (by simp)]
 ·show gT name m.Datas (m.Datas.length:Int) (m.Datas.length:Int) [] [] [] []=_
  unfold gT
  rw[vay (by simp)]
theorem R1(m:bo)(name:ae)(h1:m.Datas.length<9223372036854775808)(h2:∀d∈m.Datas,d.Cons.length<9223372036854775808):Gq m name=some ((Ns m name).elim (⟨[],[],[],[]⟩,0,false) (fun x=>(x.1,(x.2:Int),true))):=by
 unfold Gq BX Ns
 have:=qw m.Datas h1 (fun i=>(i,[],[],[],[])) (fun(zz:Int×ae×(List ae)×(List a8)×(List aY))=>kh name m zz.1 zz.2.1 zz.2.2.1 zz.2.2.2.1 zz.2.2.2.2)
  (fun d=>((d.Cons.findIdx? (fun c=>c.Name==name)).map fun j=>(Sum.inl (MH (d,j)):T5⊕(ae×(List ae)×(List a8)×(List aY))))) (.inr ([],[],[],[])) (fun i hi=>?_) ?_
 ·rw[this]
  simp only[vab]
  have key:∀l:List cF,(l.findSome? (fun d=>((d.Cons.findIdx? (fun c=>c.Name==name)).map fun j=>(Sum.inl (MH (d,j)):T5⊕(ae×(List ae)×(List a8)×(List aY))))))=(l.findSome? fun d=>(d.Cons.findIdx? (fun c=>c.Name==name)).map fun j=>(d,j)).map (fun x=>Sum.inl (MH x)):=by
   intro l
   induction l with
   |nil=>rfl
   |cons d l ih=>
    rw[List.findSome?_cons,List.findSome?_cons,ih]
    cases d.Cons.findIdx? (fun c=>c.Name==name)<;>rfl
  rw[key]
  cases(m.Datas.findSome? fun d=>(d.Cons.findIdx? (fun c=>c.Name==name)).map fun j=>(d,j))<;>rfl
 ·show kh name m (i:Int) [] [] [] []=_
  unfold kh
  rw[vax (by simp;omega)]
  have hd:=h2 _ (vaG hi)
  unfold BY
  have:=Hs m.Datas[i].Cons hd (fun i=>(i,[],[],[],[])) (fun(zz:Int×ae×(List ae)×(List a8)×(List aY))=>ki name m (i:Int) zz.1 zz.2.1 zz.2.2.1 zz.2.2.2.1 zz.2.2.2.2)
   (fun c=>c.Name==name) (fun j=>Sum.inl (MH (m.Datas[i],j))) (.inr ([],[],[],[])) (fun k hk=>?_) ?_
  ·rw[this]
   cases m.Datas[i].Cons.findIdx? (fun c=>c.Name==name)<;>rfl
  ·show ki name m (i:Int) (k:Int) [] [] [] []=_
   unfold ki
   rw[db _ i hi]
   simp only[vab]
   rw[vax (by simp;omega),db _ k hk]
   simp only[vab]
   by_cases hn:(m.Datas[i].Cons[k].Name==name)=true
   ·simp only[hn,if_true];rfl
   ·simp only[hn,if_false,vbg]
  ·show ki name m (i:Int) (m.Datas[i].Cons.length:Int) [] [] [] []=_
   unfold ki
   rw[db _ i hi]
   simp only[vab]
   rw[vay (by simp)]
 ·show kh name m (m.Datas.length:Int) [] [] [] []=_
  unfold kh
  rw[vay (by simp)]
abbrev N7:Type:=ae×(List ae)×Int×ae×Int×(List ag)×(List aw)×(List aF)×(List ah)×Int×Bool×(List ae)×(List cw)×(List eU)×(List bH)×Int×ae×(List ah)×(List ae)×Int×ae×Int×(List aj)×(List aj)×(List aj)
def Iy(d:ey):N7:=(d.Name,d.Params,d.Body.Op,d.Body.Name,d.Body.N,d.Body.Kids,d.Body.Params,d.Body.Alts,d.Body.Types,d.Mode,d.Typed,d.Sig.Vars,d.Sig.Needs,d.Sig.Abs,d.Sig.Bounds,d.Sig.Type_.Op,d.Sig.Type_.Name,d.Sig.Type_.Args,d.Sig.Type_.Names,d.Sig.Type_.Pred.Op,d.Sig.Type_.Pred.Name,d.Sig.Type_.Pred.N,d.Sig.Type_.Pred.Kids,d.Sig.Type_.Preds,d.Sig.Metric)
def G4(m:bo)(name:ae):ey×Bool:=(m.Defs.find? (fun d=>d.Name==name)).elim (⟨[],[],⟨0,[],0,[],[],[],[]⟩,0,false,⟨[],[],[],[],⟨0,[],[],[],⟨0,[],0,[]⟩,[]⟩,[]⟩⟩,false) (fun d=>(d,true))
theorem RR(m:bo)(name:ae)(h1:m.Defs.length<9223372036854775808):xw m name=some (G4 m name):=by
 unfold xw vI G4
 have:=qw m.Defs h1 (fun i=>(i,[],[],0,[],0,[],[],[],[],0,false,[],[],[],[],0,[],[],[],0,[],0,[],[],[])) (fun(zz:Int×ae×(List ae)×Int×ae×Int×(List ag)×(List aw)×(List aF)×(List ah)×Int×Bool×(List ae)×(List cw)×(List eU)×(List bH)×Int×ae×(List ah)×(List ae)×Int×ae×Int×(List aj)×(List aj)×(List aj))=>gV name m.Defs (m.Defs.length:Int) zz.1 zz.2.1 zz.2.2.1 zz.2.2.2.1 zz.2.2.2.2.1 zz.2.2.2.2.2.1 zz.2.2.2.2.2.2.1 zz.2.2.2.2.2.2.2.1 zz.2.2.2.2.2.2.2.2.1 zz.2.2.2.2.2.2.2.2.2.1 zz.2.2.2.2.2.2.2.2.2.2.1 zz.2.2.2.2.2.2.2.2.2.2.2.1 zz.2.2.2.2.2.2.2.2.2.2.2.2.1 zz.2.2.2.2.2.2.2.2.2.2.2.2.2.1 zz.2.2.2.2.2.2.2.2.2.2.2.2.2.2.1 zz.2.2.2.2.2.2.2.2.2.2.2.2.2.2.2.1 zz.2.2.2.2.2.2.2.2.2.2.2.2.2.2.2.2.1 zz.2.2.2.2.2.2.2.2.2.2.2.2.2.2.2.2.2.1 zz.2.2.2.2.2.2.2.2.2.2.2.2.2.2.2.2.2.2.1 zz.2.2.2.2.2.2.2.2.2.2.2.2.2.2.2.2.2.2.2.1 zz.2.2.2.2.2.2.2.2.2.2.2.2.2.2.2.2.2.2.2.2.1 zz.2.2.2.2.2.2.2.2.2.2.2.2.2.2.2.2.2.2.2.2.2.1 zz.2.2.2.2.2.2.2.2.2.2.2.2.2.2.2.2.2.2.2.2.2.2.1 zz.2.2.2.2.2.2.2.2.2.2.2.2.2.2.2.2.2.2.2.2.2.2.2.1 zz.2.2.2.2.2.2.2.2.2.2.2.2.2.2.2.2.2.2.2.2.2.2.2.2.1 zz.2.2.2.2.2.2.2.2.2.2.2.2.2.2.2.2.2.2.2.2.2.2.2.2.2)
  (fun d=>if(d.Name==name)=true then some (Sum.inl (Iy d):N7⊕N7)else none) (.inr ([],[],0,[],0,[],[],[],[],0,false,[],[],[],[],0,[],[],[],0,[],0,[],[],[])) (fun i hi=>?_) ?_
 ·rw[this]
  simp only[vab]
  rw[show m.Defs.findSome? (fun d=>if(d.Name==name)=true then some (Sum.inl (Iy d):N7⊕N7)else none)=_ from vS (fun d:ey=>d.Name==name) (fun d=>(Sum.inl (Iy d):N7⊕N7)) m.Defs]
  cases m.Defs.find? (fun d=>d.Name==name)with
  |none=>rfl
  |some d=>
   simp only[vag,Option.elim,id,Iy,Jj,Jk,vQ]
 ·show gV name m.Defs (m.Defs.length:Int) (i:Int) [] [] 0 [] 0 [] [] [] [] 0 false [] [] [] [] 0 [] [] [] 0 [] 0 [] [] []=_
  unfold gV
  rw[vax (by simp;omega),db _ i hi]
  simp only[vab]
  by_cases hn:(m.Defs[i].Name==name)=true<;>simp[hn,Iy]
 ·show gV name m.Defs (m.Defs.length:Int) (m.Defs.length:Int) [] [] 0 [] 0 [] [] [] [] 0 false [] [] [] [] 0 [] [] [] 0 [] 0 [] [] []=_
  unfold gV
  rw[vay (by simp)]
theorem R2(m:bo)(name:ae)(h1:m.Defs.length<9223372036854775808):Gr m name=some (G4 m name):=by
 unfold Gr BZ G4
 have:=qw m.Defs h1 (fun i=>(i,[],[],0,[],0,[],[],[],[],0,false,[],[],[],[],0,[],[],[],0,[],0,[],[],[])) (fun(zz:Int×ae×(List ae)×Int×ae×Int×(List ag)×(List aw)×(List aF)×(List ah)×Int×Bool×(List ae)×(List cw)×(List eU)×(List bH)×Int×ae×(List ah)×(List ae)×Int×ae×Int×(List aj)×(List aj)×(List aj))=>kj name m zz.1 zz.2.1 zz.2.2.1 zz.2.2.2.1 zz.2.2.2.2.1 zz.2.2.2.2.2.1 zz.2.2.2.2.2.2.1 zz.2.2.2.2.2.2.2.1 zz.2.2.2.2.2.2.2.2.1 zz.2.2.2.2.2.2.2.2.2.1 zz.2.2.2.2.2.2.2.2.2.2.1 zz.2.2.2.2.2.2.2.2.2.2.2.1 zz.2.2.2.2.2.2.2.2.2.2.2.2.1 zz.2.2.2.2.2.2.2.2.2.2.2.2.2.1 zz.2.2.2.2.2.2.2.2.2.2.2.2.2.2.1 zz.2.2.2.2.2.2.2.2.2.2.2.2.2.2.2.1 zz.2.2.2.2.2.2.2.2.2.2.2.2.2.2.2.2.1 zz.2.2.2.2.2.2.2.2.2.2.2.2.2.2.2.2.2.1 zz.2.2.2.2.2.2.2.2.2.2.2.2.2.2.2.2.2.2.1 zz.2.2.2.2.2.2.2.2.2.2.2.2.2.2.2.2.2.2.2.1 zz.2.2.2.2.2.2.2.2.2.2.2.2.2.2.2.2.2.2.2.2.1 zz.2.2.2.2.2.2.2.2.2.2.2.2.2.2.2.2.2.2.2.2.2.1 zz.2.2.2.2.2.2.2.2.2.2.2.2.2.2.2.2.2.2.2.2.2.2.1 zz.2.2.2.2.2.2.2.2.2.2.2.2.2.2.2.2.2.2.2.2.2.2.2.1 zz.2.2.2.2.2.2.2.2.2.2.2.2.2.2.2.2.2.2.2.2.2.2.2.2.1 zz.2.2.2.2.2.2.2.2.2.2.2.2.2.2.2.2.2.2.2.2.2.2.2.2.2)
  (fun d=>if(d.Name==name)=true then some (Sum.inl (Iy d):N7⊕N7)else none) (.inr ([],[],0,[],0,[],[],[],[],0,false,[],[],[],[],0,[],[],[],0,[],0,[],[],[])) (fun i hi=>?_) ?_
 ·rw[this]
  simp only[vab]
  rw[show m.Defs.findSome? (fun d=>if(d.Name==name)=true then some (Sum.inl (Iy d):N7⊕N7)else none)=_ from vS (fun d:ey=>d.Name==name) (fun d=>(Sum.inl (Iy d):N7⊕N7)) m.Defs]
  cases m.Defs.find? (fun d=>d.Name==name)with
  |none=>rfl
  |some d=>
   simp only[vag,Option.elim,id,Iy,Jj,Jk,vQ]
 ·show kj name m (i:Int) [] [] 0 [] 0 [] [] [] [] 0 false [] [] [] [] 0 [] [] [] 0 [] 0 [] [] []=_
  unfold kj
  rw[vax (by simp;omega),db _ i hi]
  simp only[vab]
  by_cases hn:(m.Defs[i].Name==name)=true<;>simp[hn,Iy]
 ·show kj name m (m.Defs.length:Int) [] [] 0 [] 0 [] [] [] [] 0 false [] [] [] [] 0 [] [] [] 0 [] 0 [] [] []=_
  unfold kj
  rw[vay (by simp)]
theorem NR(d:ey):gS (af d.Body)+cm (d.Params.map cS)+d.Name.length<=gS (cq d):=by
 unfold cq
 rw[qE,qE]
 simp only[gS,pm,sl]
 omega
theorem HL(m:bo):cm (m.Defs.map cq)+cm (m.Instances.map dC)+cm (m.Datas.map da)<=gS (aO m):=by
 rw[Cf]
 simp only[gS,pm,sl]
 omega
theorem NQ{m:bo}{d:ey}(h:d∈m.Defs):gS (cq d)<=gS (aO m):=by
 have:=uK cq h
 have:=HL m
 omega
theorem QI{m:bo}{x:lz}{d:ey}(h:x∈m.Instances)(hd:d∈x.Defs):gS (cq d)<=gS (aO m):=by
 have h1:=uK dC h
 have h2:=HL m
 have h3:=uK cq hd
 have h4:cm (x.Defs.map cq)<=gS (dC x):=by
  unfold dC
  rw[qE,qE]
  simp only[gS,pm,sl]
  omega
 omega
theorem RB(m:bo)(hm:gS (aO m)<=Dp):wF (Gs m) (fun b=>b=true->m.Datas.length<=30/\m.Instances.length<=30/\m.Defs.length<=30/\(∀x∈m.Instances,x.Defs.length<=30)/\∀d∈m.Datas,d.Cons.length<=30):=by
 have hB:gS (aO m)<=4000000:=hm
 unfold Gs B6
 simp only[UC,vab]
 refine KS (fun _=>eg (fun h=>by cases h)) (fun h0=>?_)
 simp only[vaR,vcE,vaj]at h0
 obtain⟨hd,hi,hf⟩:=h0
 rw[Mp (by simp;omega)]
 simp only[vab,vaX]
 refine fS (R:=fun o=>match o with|.inl _=>True|.inr v=>v.length<=930/\(∀d∈v,gS (cq d)<=gS (aO m))/\∀x∈m.Instances,x.Defs.length<=30) ?_ (fun o ho=>?_)
 ·unfold B7
  refine O8 m.Instances (by omega) (fun i v=>(v,i)) (fun i (v:List ey)=>v.length<=30+30 * i/\(∀d∈v,gS (cq d)<=gS (aO m))/\∀x∈m.Instances.take i,x.Defs.length<=30) (fun i h v hv=>?_) (fun v hv=>?_) m.Defs ⟨by omega,fun d hd=>NQ hd,fun x hx=>by simp at hx⟩
  ·obtain⟨v1,v2,v3⟩:=hv
   have hmem:m.Instances[i]∈m.Instances:=vaG h
   show wF (mz m v (i:Int)) _
   unfold mz
   rw[vax (by simpa using h),db _ _ h]
   simp only[vab]
   refine KS (fun _=>eg trivial) (fun h30=>?_)
   simp only[vaj]at h30
   rw[Mp (by omega)]
   refine eg ⟨v++m.Instances[i].Defs,rfl,by rw[va4];omega,fun d hd=>?_,fun x hx=>?_⟩
   ·rcases vaI.1 hd with hd|hd
    ·exact v2 d hd
    ·exact QI hmem hd
   ·rw[va3 h]at hx
    rcases vaI.1 hx with hx|hx
    ·exact v3 x hx
    ·rw[vbn.1 hx];omega
  ·show wF (mz m v (m.Instances.length:Int)) _
   unfold mz
   rw[vay (by simp)]
   obtain⟨v1,v2,v3⟩:=hv
   rw[vbo]at v3
   exact eg ⟨by omega,v2,v3⟩
 ·cases o with
  |inl _=>exact eg (fun h=>by cases h)
  | inr v =>
   obtain⟨v1,v2,v3⟩:=ho
   refine fS (R:=fun _=>True) ?_ (fun n _=>?_)
   ·unfold B8
    refine(xG v (by omega) 2000 (fun i n=>0<=n/\n<=2000+8000000) (fun i h n hI hn=>?_) (fun i n _ h=>?_) 0 ⟨by omega,by omega⟩).mono (fun _ _=>trivial)
    ·have hv:=v2 _ (vaG h)
     have hp:=NR v[i]
     have hl:=Hm v[i].Params
     show wF (mA v n (i:Int)) _
     unfold mA wS
     rw[Cc h hn]
     simp only[vab,if_true]
     rw[db _ _ h]
     simp only[vab]
     refine fS (Uf v[i].Body 2000 (by unfold Dp;omega) (by omega) (by omega)) (fun r hr=>?_)
     rw[eh (n:=n+_) (by omega) (by omega),eh (n:=n+_+_) (by omega) (by omega)]
     exact eg ⟨_,rfl,by omega,by omega⟩
    ·show mA v n (i:Int)=_
     unfold mA wS
     rw[wZ h]
     rfl
   ·refine fS (R:=fun o=>match o with|.inl _=>True|.inr _=>∀d∈m.Datas,d.Cons.length<=30) ?_ (fun o ho=>?_)
    ·unfold B9
     refine(Ng m.Datas.length (by omega) (fun i=>∀(h:i<m.Datas.length),m.Datas[i].Cons.length<=30) (fun _=>True) (fun i h=>?_) ?_).mono (fun r hr=>?_)
     ·unfold sI
      rw[vax (by simpa using h),db _ _ h]
      simp only[vab]
      refine KS (fun _=>eg trivial) (fun h30=>eg ⟨rfl,fun _=>?_⟩)
      simp only[vaj]at h30
      omega
     ·unfold sI
      rw[vay (by simp)]
     ·cases r with
      |inl _=>trivial
      |inr _=>
       intro d hd
       obtain⟨i,h,rfl⟩:=List.mem_iff_getElem.1 hd
       exact hr i h h
    ·cases o with
     |inl _=>exact eg (fun h=>by cases h)
     |inr _=>exact eg (fun _=>⟨by omega,by omega,by omega,v3,ho⟩)
set_option maxRecDepth 100000
theorem Mq:Ak=some true:=by kernel_rfl
theorem MX:Mi (⟨0,[],0,[],[],[],[]⟩:ag):=by show _<=1073741824;rw[rj];simp[ag.Name,ag.Kids,ag.Params,ag.Alts,ag.Types,cm]
theorem PP(m:bo)(name:ae)(h:gS (aO m)<=1048576):Mi (G4 m name).1.Body/\(G4 m name).1.Params.length<=1073741824:=by
 unfold G4
 cases hf:m.Defs.find? (fun d=>d.Name==name)with
 |none=>exact⟨MX,by simp[Option.elim]⟩
 |some d=>
  have hd:=va7 hf
  have h1:=NQ hd
  have h2:=NR d
  have h3:=Hm d.Params
  exact⟨by show gS (af d.Body)<=1073741824;omega,by show d.Params.length<=1073741824;omega⟩
theorem Lk(m:bo)(name:ae)(h:gS (aO m)<=1048576):(Ep m name).1.Vars.length<=1073741824:=by
 unfold Ep
 cases hf:m.Datas.find? (fun d=>d.Name==name)with
 |none=>simp[Option.elim]
 |some d=>
  have hd:=va7 hf
  have h1:=uK da hd
  have h2:=HL m
  have h3:=Hm d.Vars
  have h4:cm (d.Vars.map cS)<=gS (da d):=by rw[me];simp only[gS,pm,sl];omega
  show d.Vars.length<=1073741824
  omega
theorem M2(x0:bo)(x1:ae)(h:gS (aO x0)+(pm (.str x1)+0)<=1048576):rC x0 x1=some true:=by
 have hm:gS (aO x0)<=1048576:=by omega
 obtain⟨b,hb,hfew⟩:=RB x0 (by unfold Dp;omega)
 unfold rC og
 rw[hb,Mq]
 simp only[vab]
 cases b with
 |false=>simp
 | true =>
  obtain⟨f1,f2,f3,f4,f5⟩:=hfew rfl
  obtain⟨ho,hp⟩:=PP x0 x1 hm
  have hv:=Lk x0 x1 hm
  by_cases hl:decide ((x1.length:Int)>100)=true
  ·simp[hl]
  ·simp only[Bool.not_true,vbg,if_false,hl,vab]
   rw[RR x0 x1 (by omega),R2 x0 x1 (by omega),Qy x0 x1 (by omega),QP x0 x1 (by omega),R9 x0 x1 (by omega) (fun d hd=>by have:=f5 d hd;omega),R1 x0 x1 (by omega) (fun d hd=>by have:=f5 d hd;omega)]
   simp only[vab]
   unfold oh ol
   rw[AB hp,AB hv]
   simp only[vQ]
   rw[QO _ _ ho ho]
   simp
end Go.Proofs.YtkdahfeiedaahaaGreatDoor
