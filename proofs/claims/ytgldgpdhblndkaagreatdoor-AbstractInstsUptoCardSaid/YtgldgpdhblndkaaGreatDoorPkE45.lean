/- WHAT IS PROVED: parts of the proof, put together by a program (Sb3). Conditions: none. -/
import Derived.Test.YtgldgpdhblndkaaGreatDoorPkE44
noncomputable section
namespace Go.Proofs.YtgldgpdhblndkaaGreatDoor
open Go
set_option linter.unusedVariables false
set_option linter.unusedSimpArgs false
theorem qDh (x:Str) (c:Sb) (i:Nat) (h:i < c.length):qbZ x (c.take (i + 1)) = if c[i].1 = x then qbZ x (c.take i) else qbZ x (c.take i) ++ [c[i]]:=by
 unfold qbZ
 rw [List.take_succ_eq_append_getElem h,List.filter_append,List.filter_cons]
 by_cases hx:c[i].1 = x
 ·rw [if_pos hx,if_neg (by simp [hx]),List.filter_nil,List.append_nil]
 ·rw [if_neg hx,if_pos (by simpa using hx),List.filter_nil]
theorem qEs (x:Str) (c:Sb) (hc:c.length ≤ 1000000000):quR ⟨kN c,kB c⟩ x = some ⟨kN (qbZ x c),kB (qbZ x c)⟩:=by
 unfold quR qqn
 have hl:(kN c).length = c.length:=List.length_map ..
 have hlb:(kB c).length = c.length:=List.length_map ..
 have:=qoZ c.length (by omega) (fun i (s:List Str×List tPred) => (i,s.1,s.2)) (fun (zz:Int×(List Str)×(List tPred)) => qei x ⟨kN c,kB c⟩ (kN c) ((kN c).length:Int) zz.1 zz.2.1 zz.2.2)
  (fun i => (kN (qbZ x (c.take i)),kB (qbZ x (c.take i)))) (kN (qbZ x c),kB (qbZ x c)) (fun i hi => ?_) ?_
 ·rw [show (qbZ x (c.take 0)) = [] from rfl] at this
  rw [show (((0:Int),([]:List Str),([]:List tPred)):Int×(List Str)×(List tPred)) = (0,kN [],kB []) from rfl,this]
  rfl
 ·show qei x ⟨kN c,kB c⟩ (kN c) ((kN c).length:Int) (i:Int) (kN (qbZ x (c.take i))) (kB (qbZ x (c.take i))) = _
  unfold qei qqO
  have hw:(qbZ x (c.take i)).length ≤ (c.take i).length:=List.length_filter_le ..
  rw [List.length_take] at hw
  have hkl:(kN (qbZ x (c.take i))).length = (qbZ x (c.take i)).length:=List.length_map ..
  have hkb:(kB (qbZ x (c.take i))).length = (qbZ x (c.take i)).length:=List.length_map ..
  rw [if_pos (by simp; omega),qaS (kN c) i (by omega)]
  simp only [Option.bind_some]
  rw [if_pos (decide_eq_true (show (i:Int) < ((kB c).length:Int) by omega))]
  simp only [Option.bind_some]
  have hg:(kN c)[i]'(by omega) = c[i].1:=by simp [kN]
  have hb:(kB c)[i]'(by omega) = c[i].2:=by simp [kB]
  rw [hg,qDh x c i hi]
  by_cases h1:c[i].1 = x
  ·have h1':(c[i].1 == x) = true:=by simpa using h1
   rw [if_pos h1,if_neg (by rw [h1']; decide)]
  ·have h1':(c[i].1 == x) = false:=by simpa using h1
   simp only [h1',h1,Bool.not_false,if_true,if_false]
   rw [qcq (by simp; omega)]
   simp only [Option.bind_some]
   rw [qaS (kB c) i (by omega)]
   simp only [Option.bind_some,hb]
   rw [qcq (by simp; omega)]
   simp [kN,kB]
 ·show qei x ⟨kN c,kB c⟩ (kN c) ((kN c).length:Int) (c.length:Int) (kN (qbZ x (c.take c.length))) (kB (qbZ x (c.take c.length))) = _
  unfold qei
  rw [if_neg (by simp),List.take_of_length_le (Nat.le_refl _)]
theorem qFq (x:Str) (c:Sb) (h:nL (kB c) ≤ 200000000):qrT ⟨kN c,kB c⟩ x = some (qod x c):=by
 unfold qrT qn3
 have hl:=qt6 (kB c)
 rw [qFm (kB c) (by omega) (fun zz => qlo x (kB c) ((kB c).length:Int) zz) (fun i y => (qkZ y).bind fun r3 => (qep r3 x).bind fun r4 => if (decide (r4 ≥ 0)) = true then some (.inr (.inl ())) else some (.inl (w64 (i + 1)))) (fun y => decide (x ∈ vsP y)) (.inl ()) (.inr ()) (fun i => rfl) (fun y hy i => by
  have h1:=qxw hy
  have h2:=qge y
  rw [qxR y (by omega)]
  simp only [Option.bind_some]
  obtain ⟨r,e1,_,e2⟩:=qyi (l:=qdo y) (v:=x) (by omega)
  rw [e1]
  simp only [Option.bind_some,e2,qox]
  by_cases hx:x ∈ vsP y <;> simp [hx])]
 simp only [Option.bind_some]
 have he:(kB c).any (fun y => decide (x ∈ vsP y)) = qod x c:=by
  unfold qod kB
  rw [List.any_map]
  rfl
 rw [he]
 cases qod x c <;> rfl
theorem qET (l:List tPred) (h:nL l ≤ 200000000):∃ k,qr2 l = some k∧k.length ≤ nL l∧∀ x,x ∈ k↔x ∈ l.flatMap qdo:=by
 unfold qr2 qoC
 have hl:=qt6 l
 rw [qea l (by omega) (fun i s => (s,i)) _ (fun i s y => (qkZ y).bind fun r3 => (qci s r3).bind fun r4 => some (.inl (r4,w64 (i + 1)))) (fun i s => s.length ≤ nL (l.take i)) (fun y s => setU s (qdo y)) id [] (by simp [nL]) (fun i s => rfl) (fun i hi s hs => ?_)]
 ·obtain ⟨f1,f2⟩:=qmC qdo l [] qBn
  refine ⟨_,rfl,?_,fun x => ?_⟩
  ·have key:∀ (l:List tPred) (a:List Str),(l.foldl (fun s y => setU s (qdo y)) a).length ≤ a.length + nL l:=by
    intro l
    induction l with
    | nil => intro a; simp
    | cons y l ih =>
     intro a
     have g2:=qge y
     have g3:=ih (setU a (qdo y))
     have g4:=qeh a (qdo y)
     rw [List.foldl_cons,nL]
     omega
   have:=key l []
   simpa using this
  ·show x ∈ l.foldl (fun s y => setU s (qdo y)) []↔_
   rw [f2,List.mem_flatMap]
   simp
 ·have h1:=qqe l i hi
  have h2:=qiA l (i + 1)
  have h3:=qge l[i]
  have h4:=qeh s (qdo l[i])
  refine ⟨?_,by omega⟩
  rw [qxR _ (by omega)]
  simp only [Option.bind_some]
  rw [qcF _ _ (by omega) (by omega)]
  rfl
theorem qEX (u w:List Str) (i:Nat) (hi:i < w.length) (hu:u.length ≤ 400000000):qmR u (i:Int) 1 w = some (setU u [w[i]]):=by
 have h:=qcF u [w[i]] hu (by simp)
 unfold qci at h
 unfold qmR
 have e1:qlv u (u.length:Int) [] 0 = qi2 u (u.length:Int) [] 0:=rfl
 rw [e1]
 cases h1:qi2 u (u.length:Int) [] 0 with
 | none => rw [h1] at h; cases h
 | some o =>
  rw [h1] at h
  simp only [Option.bind_some] at h ⊢
  have hb:∀ s (k:Nat),qdx (i:Int) 1 (((1:Nat):Int)) w s (k:Int) = qbu [w[i]] (([w[i]]:List Str).length:Int) s (k:Int):=by
   intro s k
   unfold qdx qbu
   by_cases hk:k = 0
   ·subst hk
    rw [if_pos (by simp),if_pos (by simp)]
    have hm:idm (i:Int) 1 w ((0:Nat):Int) = some w[i]:=by
     unfold idm
     rw [if_pos ⟨by omega,by omega,by simp⟩]
     simp [hi]
    rw [hm,show idx [w[i]] ((0:Nat):Int) = some w[i] from rfl]
   ·rw [if_neg (by simp; omega),if_neg (by simp; omega)]
  have e2:qiJ (i:Int) 1 (((1:Nat):Int)) w o 0 = qiV [w[i]] (([w[i]]:List Str).length:Int) o 0:=by
   unfold qiJ qiV
   have h0:=hb o 0
   rw [show ((0:Nat):Int) = 0 from rfl] at h0
   have e3:=qjj (fun (zz:(List Str)×Int) => qdx (i:Int) 1 (((1:Nat):Int)) w zz.1 zz.2) (o,0)
   have e4:=qjj (fun (zz:(List Str)×Int) => qbu [w[i]] (([w[i]]:List Str).length:Int) zz.1 zz.2) (o,0)
   rw [e3,e4,h0]
   cases hr:qbu [w[i]] (([w[i]]:List Str).length:Int) o 0 with
   | none => rfl
   | some r =>
    cases r with
    | inr y => rfl
    | inl s =>
     simp only
     have hs:s.2 = ((1:Nat):Int):=by
      unfold qbu at hr
      rw [if_pos (by simp),show idx [w[i]] 0 = some w[i] from rfl] at hr
      simp only [Option.bind_some] at hr
      cases hp:qow o w[i] with
      | none => rw [hp] at hr; cases hr
      | some q => rw [hp] at hr; cases hr; rfl
     obtain ⟨s1,s2⟩:=s
     simp only at hs
     subst hs
     have h1:=hb s1 1
     have e5:=qjj (fun (zz:(List Str)×Int) => qdx (i:Int) 1 (((1:Nat):Int)) w zz.1 zz.2) (s1,((1:Nat):Int))
     have e6:=qjj (fun (zz:(List Str)×Int) => qbu [w[i]] (([w[i]]:List Str).length:Int) zz.1 zz.2) (s1,((1:Nat):Int))
     rw [e5,e6,h1]
     have hz:qbu [w[i]] (([w[i]]:List Str).length:Int) s1 ((1:Nat):Int) = some (.inr s1):=by
      unfold qbu
      rw [if_neg (by simp)]
     rw [hz]
  rw [e2]
  exact h
def chU (o:Int) (ns:List Str) (s:S3) (u:List Str):Nat→List Str
 | 0 => u
 | i + 1 => if (o = 6∧i < ns.length)∧qod (ns.getD i []) (qbZ (ns.getD i []) (chQ o ns s i).2.1) = true then setU (chU o ns s u i) [qdG (chQ o ns s i).1 (ns.getD i [])] else chU o ns s u i
theorem qFj (o:Int) (ns:List Str) (s:S3) (u:List Str) (h:∀ x,x ∈ u↔x ∈ s.1):∀ i x,x ∈ chU o ns s u i↔x ∈ (chQ o ns s i).1
 | 0,x => h x
 | i + 1,x => by
  have ih:=qFj o ns s u h i
  show x ∈ chU o ns s u (i + 1)↔x ∈ (chS o ns i (chQ o ns s i)).1
  rw [chU]
  unfold chS
  by_cases h1:o = 6∧i < ns.length
  ·by_cases h2:qod (ns.getD i []) (qbZ (ns.getD i []) (chQ o ns s i).2.1) = true
   ·rw [if_pos ⟨h1,h2⟩,if_pos h1,if_pos h2,qeW,ih]
    simp
   ·rw [if_neg (fun h => h2 h.2),if_pos h1,if_neg h2,ih]
  ·rw [if_neg (fun h => h1 h.1),if_neg h1,ih]
theorem qEk (o:Int) (ns:List Str) (s:S3) (u:List Str):∀ i,(chU o ns s u i).length ≤ u.length + i
 | 0 => by simp [chU]
 | i + 1 => by
  have ih:=qEk o ns s u i
  rw [chU]
  split
  ·have:=qeh (chU o ns s u i) [qdG (chQ o ns s i).1 (ns.getD i [])]
   simp only [List.length_singleton] at this
   omega
  ·omega
theorem qBk (R:qbx) (c:Sb) (l:List tPred) (hl:l.length ≤ 1073741824) (hp:∀ p ∈ l,nP p ≤ bigN) (hc:c.length ≤ bigN):qiK R l (l.length:Int) (kN c) (kB c) 0 [] = some (l.map (sbP (look (kN c) (kB c)))):=by
 unfold qiK
 have h1:(kN c).length = c.length:=List.length_map ..
 rw [qdF l hl (fun i s => (i,s)) _ (fun y => qiZ y (kN c) (kB c)) (sbP (look (kN c) (kB c))) id (fun i s => rfl) (fun y hy => qDD y _ _ (hp y hy) (by unfold bigN at hc; omega))]
 rfl
theorem qA8 (t:tType) (c:Sb) (h:okS t c):qqj t ⟨kN c,kB c⟩ = some (chT t c):=by
 have hbig:lenT t < big:=qgV (by have:=h.sz; unfold bigN; omega)
 refine (qfd (F:=ql6) (fun x => lenT x.1) (fun x => ∃ c,x.2 = ⟨kN c,kB c⟩∧okS x.1 c) (fun x => chT x.1 (x.2.Names.zip x.2.By)) (fun R x hx ih => ?_) (t,⟨kN c,kB c⟩) ⟨c,rfl,h⟩ hbig).trans (by
  show some (chT t ((kN c).zip (kB c))) = _
  rw [qna])
 obtain ⟨t,s⟩:=x
 obtain ⟨c,hs,h⟩:=hx
 have hs:s = ⟨kN c,kB c⟩:=hs
 have h:okS t c:=h
 subst hs
 show qjR (fun t c => R (t,c)) t ⟨kN c,kB c⟩ = some (chT t ((kN c).zip (kB c)))
 rw [qna]
 have hR:∀ (i:Nat) (hi:i < t.Args.length),R (t.Args[i],⟨kN (chQ t.Op t.Names (qbf t c) i).2.1,kB (chQ t.Op t.Names (qbf t c) i).2.1⟩) = some (chT t.Args[i] (chQ t.Op t.Names (qbf t c) i).2.1):=fun i hi => by
  have:=ih (t.Args[i],⟨kN (chQ t.Op t.Names (qbf t c) i).2.1,kB (chQ t.Op t.Names (qbf t c) i).2.1⟩) (qg6 (List.getElem_mem hi)) ⟨_,rfl,qFe h i hi⟩
  rw [this]
  show some (chT t.Args[i] ((kN (chQ t.Op t.Names (qbf t c) i).2.1).zip (kB (chQ t.Op t.Names (qbf t c) i).2.1))) = _
  rw [qna]
 have l1:=qhn t
 have l2:=qe4 t
 have l3:=qhN t
 have hsz:nL (kB c) + lenT t ≤ 20000000:=h.sz
 have hw:wT t ≤ 20000000:=h.w
 have hnd:=h.nd
 have hp:=qF7 (t:=t)
 have hcl:=qzs c
 have hknl:(kN c).length = c.length:=List.length_map ..
 unfold qjR
 rw [qDD _ _ _ (by unfold bigN; omega) (show (kN c).length < 9223372036854775808 by omega)]
 simp only [Option.bind_some]
 rw [qBk _ c _ (by omega) (fun q hq => by have:=quM hq; unfold bigN; omega) (by unfold bigN; omega)]
 simp only [Option.bind_some]
 rw [qcq (by simp; omega)]
 simp only [Option.bind_some,List.nil_append]
 obtain ⟨kn,hk1,hk2,hk3⟩:=qET (kB c) (by omega)
 rw [hk1,qzC t (by omega) (by omega)]
 simp only [Option.bind_some]
 have f2:=qft t
 have f3:=qeh kn (freeT t)
 rw [qcF _ _ (by omega) (by omega)]
 simp only [Option.bind_some]
 rw [qcF _ _ (by omega) (by omega)]
 simp only [Option.bind_some]
 have hu0:∀ x,x ∈ setU (setU kn (freeT t)) t.Names↔x ∈ (qbf t c).1:=fun x => by
  unfold qbf
  rw [qeW,qeW,hk3,List.mem_append,List.mem_append]
 have hul0:=qeh (setU kn (freeT t)) t.Names
 generalize setU (setU kn (freeT t)) t.Names = u0 at hu0 hul0
 unfold qlu
 have hloop:=qoZ t.Args.length (by omega) (fun i (s:List Str×List Str×List tPred×List tType×List Str) => (s.1,i,s.2.1,s.2.2.1,s.2.2.2.1,s.2.2.2.2)) (fun (zz:(List Str)×Int×(List Str)×(List tPred)×(List tType)×List Str) => qcd (fun t c => R (t,c)) t t.Args (t.Args.length:Int) t.Names.length zz.1 zz.2.1 zz.2.2.1 zz.2.2.2.1 zz.2.2.2.2.1 zz.2.2.2.2.2)
  (fun i => (chU t.Op t.Names (qbf t c) u0 i,kN (chQ t.Op t.Names (qbf t c) i).2.1,kB (chQ t.Op t.Names (qbf t c) i).2.1,chA t c i,(chQ t.Op t.Names (qbf t c) i).2.2))
  (kN (chQ t.Op t.Names (qbf t c) t.Args.length).2.1,kB (chQ t.Op t.Names (qbf t c) t.Args.length).2.1,chA t c t.Args.length,(chQ t.Op t.Names (qbf t c) t.Args.length).2.2) (fun i hi => ?_) ?_
 ·have hloop':loop (fun (zz:(List Str)×Int×(List Str)×(List tPred)×(List tType)×List Str) => qcd (fun t c => R (t,c)) t t.Args (t.Args.length:Int) t.Names.length zz.1 zz.2.1 zz.2.2.1 zz.2.2.2.1 zz.2.2.2.2.1 zz.2.2.2.2.2) (u0,0,kN c,kB c,[],t.Names) = _:=hloop
  rw [hloop']
  simp only [Option.bind_some]
  rw [qu3 _ _ (by rw [qEy]; rfl)]
  simp only [Option.bind_some]
  rw [qEO,qFC]
 ·show qcd (fun t c => R (t,c)) t t.Args (t.Args.length:Int) t.Names.length (chU t.Op t.Names (qbf t c) u0 i) (i:Int) (kN (chQ t.Op t.Names (qbf t c) i).2.1) (kB (chQ t.Op t.Names (qbf t c) i).2.1) (chA t c i) (chQ t.Op t.Names (qbf t c) i).2.2 = _
  unfold qcd
  rw [if_pos (by simp; omega),qaS _ i hi]
  simp only [Option.bind_some]
  rw [hR i hi]
  simp only [Option.bind_some]
  have hal:=qDG t c i (by omega)
  rw [qcq (by simp; omega)]
  simp only [Option.bind_some]
  rw [qBO t c i hi]
  have hq:chQ t.Op t.Names (qbf t c) (i + 1) = chS t.Op t.Names i (chQ t.Op t.Names (qbf t c) i):=rfl
  have hU:chU t.Op t.Names (qbf t c) u0 (i + 1) = _:=chU.eq_2 t.Op t.Names (qbf t c) u0 i
  have hUm:=qFj t.Op t.Names (qbf t c) u0 hu0 i
  have hUl:=qEk t.Op t.Names (qbf t c) u0 i
  have hQn:=qFZ t.Op t.Names (qbf t c) i
  have hQu:=qHi t.Op t.Names (qbf t c) i
  have hQw:=qEy t.Op t.Names (qbf t c) i
  have hQd:=qrb t.Op t.Names (qbf t c) hnd i
  have hst:=qE8 t c
  have hn0:nL (kB (qbf t c).2.1) = nL (kB c):=rfl
  have hw0:(qbf t c).2.2 = t.Names:=rfl
  rw [hw0] at hQw
  generalize chU t.Op t.Names (qbf t c) u0 i = U at hU hUm hUl ⊢
  generalize chQ t.Op t.Names (qbf t c) i = S at hq hU hUm hQn hQu hQw hQd ⊢
  obtain ⟨u,cc,w⟩:=S
  simp only at hQn hQu hQw hQd hUm hU ⊢
  have hccl:=qzs cc
  unfold qly
  by_cases ho:t.Op = 6
  ·rw [if_neg (by simpa using ho)]
   simp only [Option.bind_some]
   by_cases hi2:i < t.Names.length
   ·rw [if_neg (by simp; omega),qaS _ i hi2]
    simp only [Option.bind_some]
    rw [qEs _ cc (by omega)]
    simp only [Option.bind_some]
    have hd:=qyR t.Names[i] cc
    rw [qFq _ _ (by omega)]
    simp only [Option.bind_some]
    have hnl:t.Names[i].length ≤ 1000000000000000:=((qmG _ t).1 h.n).1 _ (List.getElem_mem hi2)
    unfold chS at hq
    rw [if_pos ⟨ho,hi2⟩,qmM _ i hi2] at hq
    rw [qmM _ i hi2] at hU
    by_cases hcm:qod t.Names[i] (qbZ t.Names[i] cc) = true
    ·rw [if_pos hcm] at hq ⊢
     rw [if_pos ⟨⟨ho,hi2⟩,hcm⟩] at hU
     rw [(quI U t.Names[i] (by omega) (by omega)).2.1,qt9 hUm]
     simp only [Option.bind_some]
     rw [qrt _ w i (by omega) (by omega)]
     simp only [Option.bind_some]
     rw [qxF w i _ (by omega)]
     simp only [Option.bind_some]
     rw [show slcn t.Names.length (i:Int) (w64 ((i:Int) + 1)) = some 1 by
      rw [qeY (by omega) (by omega)]
      unfold slcn
      rw [if_pos ⟨by omega,by omega,by omega⟩]
      congr 1; omega]
     simp only [Option.bind_some]
     rw [qEX U (w.set i (qdG u t.Names[i])) i (by rw [List.length_set]; omega) (by omega),List.getElem_set_self]
     simp only [Option.bind_some]
     have k1:(kN (qbZ t.Names[i] cc)).length = (qbZ t.Names[i] cc).length:=List.length_map ..
     have k2:(kB (qbZ t.Names[i] cc)).length = (qbZ t.Names[i] cc).length:=List.length_map ..
     have k3:(qbZ t.Names[i] cc).length ≤ cc.length:=List.length_filter_le ..
     rw [qcq (by simp; omega)]
     simp only [Option.bind_some]
     rw [qrt _ (w.set i (qdG u t.Names[i])) i (by omega) (by rw [List.length_set]; omega),List.getElem_set_self]
     simp only [Option.bind_some]
     rw [qcq (by simp; omega)]
     simp only [Option.bind_some]
     rw [hq,hU]
     simp [kN,kB,varP]
    ·rw [if_neg hcm] at hq ⊢
     rw [if_neg (fun h => hcm h.2)] at hU
     rw [hq,hU]
   ·rw [if_pos (by simp; omega),hq,hU,if_neg (fun h => hi2 h.1.2)]
    unfold chS
    rw [if_neg (fun h => hi2 h.2)]
  ·rw [if_pos (by simpa using ho)]
   simp only [Option.bind_some,if_true]
   rw [hq,hU,if_neg (fun h => ho h.1.1)]
   unfold chS
   rw [if_neg (fun h => ho h.1)]
 ·show qcd (fun t c => R (t,c)) t t.Args (t.Args.length:Int) t.Names.length (chU t.Op t.Names (qbf t c) u0 t.Args.length) (t.Args.length:Int) (kN (chQ t.Op t.Names (qbf t c) t.Args.length).2.1) (kB (chQ t.Op t.Names (qbf t c) t.Args.length).2.1) (chA t c t.Args.length) (chQ t.Op t.Names (qbf t c) t.Args.length).2.2 = _
  unfold qcd
  rw [if_neg (by simp)]
theorem qEG (t:tType) (x:Str) (q:tPred) (h:okS t (sub1 x q)):qrU t x q = some (chT t (sub1 x q)):=by
 unfold qrU qoi qko
 have hb:qb2 [q] [x] (([x]:List Str).length:Int) 0 [] [] = some (.inl (w64 (0 + 1),kN (sub1 x q),kB (sub1 x q))):=by
  unfold qb2 qj8 sub1
  rw [if_pos (by simp),show idx [x] 0 = some x from rfl]
  simp only [Option.bind_some]
  rw [if_pos (by simp)]
  by_cases hx:x = [118]
  ·have hx':(x == ([118]:Str)) = true:=by simpa using hx
   simp only [hx',Bool.not_true,Bool.false_eq_true,if_false,Option.bind_some]
   rw [if_pos hx]
   rfl
  ·have hx':(x == ([118]:Str)) = false:=by simpa using hx
   simp only [hx',Bool.not_false,if_true]
   rw [qyd [] x (by simp)]
   rw [if_neg hx]
   rfl
 have he:qb2 [q] [x] (([x]:List Str).length:Int) (w64 (0 + 1)) (kN (sub1 x q)) (kB (sub1 x q)) = some (.inr (kN (sub1 x q),kB (sub1 x q))):=by
  unfold qb2
  rw [show (([x]:List Str).length:Int) = 1 from rfl,if_neg (by decide)]
 rw [qhl (body:=fun (zz:Int×(List Str)×(List tPred)) => qb2 [q] [x] (([x]:List Str).length:Int) zz.1 zz.2.1 zz.2.2) (s:=(0,[],[])) (s':=(w64 (0 + 1),kN (sub1 x q),kB (sub1 x q))) hb]
 rw [qez (body:=fun (zz:Int×(List Str)×(List tPred)) => qb2 [q] [x] (([x]:List Str).length:Int) zz.1 zz.2.1 zz.2.2) he]
 simp only [Option.bind_some]
 rw [qA8 t _ h]
 rfl
end Go.Proofs.YtgldgpdhblndkaaGreatDoor
