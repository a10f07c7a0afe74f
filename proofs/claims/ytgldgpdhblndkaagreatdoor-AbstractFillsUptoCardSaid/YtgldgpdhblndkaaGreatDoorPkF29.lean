/- WHAT IS PROVED: parts of the proof, put together by a program (In2 In3 In4 PFl PFm PiA). Conditions: none. -/
import Derived.Test.YtgldgpdhblndkaaGreatDoorPkF28
noncomputable section
namespace Go.Proofs.YtgldgpdhblndkaaGreatDoor
open Go
set_option linter.unusedVariables false
set_option linter.unusedSimpArgs false
theorem qHz (p:tPred) (hp:nP p ≤ bigN):tot (qtA p) (fun b => b = true→nP p ≤ 60):=by
 unfold qtA
 rw [qA2 p hp,qz9 p hp]
 simp only [vaa]
 exact qak (fun h => qae fun _ => by rw [vah] at h; omega) (fun _ => qae fun h => by cases h)
theorem qLI (l:List tType) (hl:qdf l ≤ bigN) (hp:qiB (fun p => nP p ≤ bigN) l):tot (qEr l) (fun b => b = true→qiB (fun p => nP p ≤ 60) l):=by
 refine qkZ (F:=qxb) qdf (fun x => qdf x ≤ bigN∧qiB (fun p => nP p ≤ bigN) x) (fun l b => b = true→qiB (fun p => nP p ≤ 60) l) (fun R l hx ih => ?_) l ⟨hl,hp⟩ (qdQ hl)
 obtain ⟨hl,hp⟩:=hx
 show tot (qts (fun a => R a) l) _
 unfold qts quq
 have h1:=qxD l
 refine qai (qeX l (by unfold bigN at hl; omega) _ (fun x => allP (fun p => nP p ≤ 60) x) (fun _ => True) (fun i => rfl) (fun x hx i => ?_)) (fun a ha => by
  cases a with
  | inl _ => exact qae fun h => by cases h
  | inr _ => exact qae fun _ => (qe2 _ _).2 ha)
 have hx1:=qmf hx
 have hq:=(qiQ _ _).1 ((qe2 _ _).1 hp _ hx)
 have h2:=qe7 x
 have h3:=qkG x
 refine qai (R:=fun o => o = false→qiB (fun p => nP p ≤ 60) x.Args) ?_ (fun o ho => qak (fun _ => qae trivial) (fun hno => ?_))
 ·unfold qt6
  rw [qzI]
  exact qai (qIK x (by omega)) fun _ _ => qak (fun _ => qae fun h => by cases h) fun _ => qak (fun _ => qae fun h => by cases h) fun _ => qak (fun _ => qae fun h => by cases h) fun _ => qai (ih x.Args (by omega) ⟨by omega,hq.2.2⟩) fun b hb => qae fun h => hb (by simpa using h)
 ·rw [qcq (by unfold bigN at hl; simp; omega)]
  simp only [vaa]
  unfold qu9
  refine qai (qeX ([x.Pred] ++ x.Preds) (by unfold bigN at hl; simp; omega) _ (fun q => nP q ≤ 60) (fun _ => True) (fun i => rfl) (fun q hq' i => ?_)) (fun a ha => by
   cases a with
   | inl _ => exact qae trivial
   | inr _ => exact qae ⟨rfl,(qiQ _ _).2 ⟨ha _ (by simp),fun q hq => ha q (by simp [hq]),ho (by simpa using hno)⟩⟩)
  have hqn:nP q ≤ bigN:=by
   rcases vaz.1 hq' with h | h
   ·rw [vaJ.1 h]; exact hq.1
   ·exact hq.2.1 q h
  exact qai (qHz q hqn) fun b hb => qak (fun _ => qae trivial) (fun h => qae ⟨rfl,hb (by simpa using h)⟩)
theorem qJo (t:tType) (ht:lenT t ≤ bigN) (hp:allP (fun p => nP p ≤ bigN) t):tot (qAx t) (fun b => b = true→allP (fun p => dP p ≤ 4) t):=by
 refine qkZ (F:=quD) lenT (fun x => lenT x ≤ bigN∧allP (fun p => nP p ≤ bigN) x) (fun x b => b = true→allP (fun p => dP p ≤ 4) x) (fun R x hx ih => ?_) t ⟨ht,hp⟩ (qdQ ht)
 obtain ⟨hx,hq⟩:=hx
 have hq:=(qiQ _ _).1 hq
 show tot (qpG (fun t => R t) x) _
 unfold qpG qr2
 have h1:=qeD x
 have h2:=qe7 x
 refine qar (qcq (by unfold bigN at hx; simp; omega)) (qai (qeX ([x.Pred] ++ x.Preds) (by unfold bigN at hx; simp; omega) _ (fun q => dP q ≤ 4) (fun _ => True) (fun i => rfl) (fun q hq' i => ?_)) (fun a ha => ?_))
 ·have hqn:nP q ≤ bigN:=by
   rcases vaz.1 hq' with h | h
   ·rw [vaJ.1 h]; exact hq.1
   ·exact hq.2.1 q h
  exact qar (qz9 q hqn) (qak (fun _ => qae trivial) fun h => qae ⟨rfl,by rw [vah] at h; omega⟩)
 ·cases a with
  | inl _ => exact qae fun h => by cases h
  | inr _ =>
   unfold qrD
   refine qai (qeX x.Args (by unfold bigN at hx; omega) _ (fun y => allP (fun p => dP p ≤ 4) y) (fun _ => True) (fun i => rfl) (fun y hy i => qai (ih y (qde hy) ⟨by have:=qde hy; omega,(qe2 _ _).1 hq.2.2 y hy⟩) fun b hb => qak (fun _ => qae trivial) fun h => qae ⟨rfl,hb (by simpa using h)⟩)) (fun b hb => ?_)
   cases b with
   | inl _ => exact qae fun h => by cases h
   | inr _ => exact qae fun _ => (qiQ _ _).2 ⟨ha _ (by simp),fun q hq => ha q (by simp [hq]),(qe2 _ _).2 hb⟩
def noH (p:tPred):Prop := ∀ x,subP x p→x.Op ≠ 5
theorem qLh {p:tPred} (h:innP 5 p [] = []):noH p:=fun x hx he => by
 have:=(qFu 5 x p []).2 (.inr ⟨he,hx⟩)
 rw [h] at this
 cases this
theorem qJd (l:List tPred) (v:List Str) (hl:v.length + l.length ≤ 1073741824):tot (qi8 l (l.length:Int) v 0) (fun r => r.length ≤ v.length + l.length∧(r = []→v = []∧l = [])):=by
 unfold qi8
 refine qiZ l (by omega) (fun i s => (s,i)) (fun i s y => (qgi s y.Name).bind fun r7 => if (decide (r7 < 0)) = true then (app s ([y.Name]:List Str)).bind fun l10 => some (.inl (l10,w64 (i + 1))) else some (.inl (s,w64 (i + 1)))) id (fun i s => s.length ≤ v.length + i∧(s = []→v = []∧i = 0)) (fun i s => rfl) (fun i hi s hs => ?_) (fun s hs => ⟨hs.1,fun h => ⟨(hs.2 h).1,vaj (hs.2 h).2⟩⟩) v ⟨vak _,fun h => ⟨h,rfl⟩⟩
 refine qar (qe3 s _ (by omega)) (qak (fun _ => qar (qcq (by simp; omega)) (qae ⟨_,rfl,by simp; omega,fun h => by simp at h⟩)) fun h => qae ⟨s,rfl,by omega,fun e => ?_⟩)
 exact absurd (by rw [e]; rfl) h
theorem qHg (t:tType) (a:List Str) (h:lenT t + wT t + a.length ≤ bigN):tot (qw0 t a) (fun r => r.length ≤ a.length + wT t∧(r = []→a = []∧allP noH t)):=by
 refine qkZ (F:=qry) (fun x => lenT x.1) (fun x => lenT x.1 + wT x.1 + x.2.length ≤ bigN) (fun x r => r.length ≤ x.2.length + wT x.1∧(r = []→x.2 = []∧allP noH x.1)) (fun R x hx ih => ?_) (t,a) h (qdQ (by show lenT t ≤ bigN; omega))
 obtain ⟨t,a⟩:=x
 have hx:lenT t + wT t + a.length ≤ bigN:=hx
 show tot (qnm (fun t a => R (t,a)) t a) _
 unfold qnm qpv
 have h1:=qeD t
 have h2:=qe7 t
 have hw:=qAB t
 have hb:bigN = 1073741824:=rfl
 have hn1:=qKp t.Pred t.Preds
 refine qar (qcq (by simp; omega)) (qai (R:=fun o => o.length ≤ a.length + nL ([t.Pred] ++ t.Preds)∧(o = []→a = []∧∀ q ∈ [t.Pred] ++ t.Preds,noH q)) ?_ fun o ho => ?_)
 ·refine qiZ ([t.Pred] ++ t.Preds) (by simp; omega) (fun i s => (s,i)) (fun i s y => (qf7 y).bind fun r4 => (qi8 r4 (r4.length:Int) s 0).bind fun o11 => some (.inl (o11,w64 (i + 1)))) id (fun i s => s.length ≤ a.length + nL (([t.Pred] ++ t.Preds).take i)∧(s = []→a = []∧∀ q ∈ ([t.Pred] ++ t.Preds).take i,noH q)) (fun i s => rfl) (fun i hi s hs => ?_) (fun s hs => ?_) a ⟨by simp,fun h => ⟨h,fun q hq => by simp at hq⟩⟩
  ·have hi':([t.Pred] ++ t.Preds)[i] ∈ [t.Pred] ++ t.Preds:=vat hi
   have hm:=qzA hi'
   have ht:nL (([t.Pred] ++ t.Preds).take (i + 1)) = nL (([t.Pred] ++ t.Preds).take i) + nP ([t.Pred] ++ t.Preds)[i]:=by
    rw [vaE hi,qjg]; simp [nL]
   have hle:nL (([t.Pred] ++ t.Preds).take (i + 1)) + nL (([t.Pred] ++ t.Preds).drop (i + 1)) = nL ([t.Pred] ++ t.Preds):=by rw [← qjg,vbc]
   have hc:qf7 ([t.Pred] ++ t.Preds)[i] = some (innP 5 ([t.Pred] ++ t.Preds)[i] []):=by
    unfold qf7
    rw [qup _ 5 [] (by simp only [List.length_nil]; omega)]
    rfl
   have hil:=qFb 5 ([t.Pred] ++ t.Preds)[i] []
   simp only [List.length_nil,vaF] at hil
   refine qar hc (qai (qJd _ s (by omega)) fun r hr => qae ⟨r,rfl,by omega,fun e => ?_⟩)
   obtain ⟨e1,e2⟩:=hr.2 e
   refine ⟨(hs.2 e1).1,fun q hq => ?_⟩
   rw [vaE hi,vaz] at hq
   rcases hq with hq | hq
   ·exact (hs.2 e1).2 q hq
   ·rw [vaJ.1 hq]; exact qLh e2
  ·rw [vbr] at hs
   exact hs
 ·unfold qoJ
  refine qai (R:=fun r => r.length ≤ o.length + wTL (t.Args.take t.Args.length)∧(r = []→o = []∧∀ q ∈ t.Args.take t.Args.length,allP noH q)) (qiZ t.Args (by omega) (fun i s => (s,i)) (fun i s y => (R (y,s)).bind fun r15 => some (.inl (r15,w64 (i + 1)))) id (fun i s => s.length ≤ o.length + wTL (t.Args.take i)∧(s = []→o = []∧∀ q ∈ t.Args.take i,allP noH q)) (fun i s => rfl) (fun i hi s hs => ?_) (fun s hs => hs) o ⟨by simp,fun h => ⟨h,fun q hq => by simp at hq⟩⟩) fun r hr => ?_
  ·have hi':t.Args[i] ∈ t.Args:=vat hi
   have hlt:=qde hi'
   have ht:=qBc t.Args i hi
   have hle:=qru t.Args (i + 1)
   refine qai (ih (t.Args[i],s) hlt (by show lenT t.Args[i] + wT t.Args[i] + s.length ≤ bigN; omega)) fun r hr => qae ⟨r,rfl,by have:=hr.1; simp only at this; omega,fun e => ?_⟩
   obtain ⟨e1,e2⟩:=hr.2 e
   have e1:s = []:=e1
   refine ⟨(hs.2 e1).1,fun q hq => ?_⟩
   rw [vaE hi,vaz] at hq
   rcases hq with hq | hq
   ·exact (hs.2 e1).2 q hq
   ·rw [vaJ.1 hq]; exact e2
  ·simp only [id,vbr] at hr
   refine qae ⟨by have:=hr.1; have:=ho.1; show r.length ≤ a.length + wT t; omega,fun e => ?_⟩
   obtain ⟨e1,e2⟩:=hr.2 e
   obtain ⟨e3,e4⟩:=ho.2 e1
   exact ⟨e3,(qiQ _ _).2 ⟨e4 _ (by simp),fun q hq => e4 q (by simp [hq]),(qe2 _ _).2 e2⟩⟩
theorem qIL (t:tType) (h:lenT t + wT t ≤ bigN):tot (qsw t) (fun r => r = []→allP noH t):=by
 unfold qsw
 exact qai (qHg t [] (by simpa using h)) fun r hr => qae fun e => (hr.2 e).2
theorem qMS (o:Int) (ns:List Str) (i:Nat) (s:S3):(chS o ns i s).2.2.length = s.2.2.length:=by
 unfold chS
 split
 ·split
  ·simp only [vbw]
  ·rfl
 ·rfl
mutual
theorem qG3:∀ (t:tType) (c:Sb),lenT (chT t c) = lenT t
 | ⟨o,n,xs,ns,p,ps⟩,c => by
  obtain ⟨h1,h2⟩:=qI4 o ns xs 0 (((kB c).flatMap qhV ++ freeT ⟨o,n,xs,ns,p,ps⟩) ++ ns,c,ns)
  rw [chT,lenT,lenT,h1,h2,vaL]
theorem qI4 (o:Int) (ns:List Str):∀ (xs:List tType) (i:Nat) (s:S3),qdf (chL o ns i xs s).1 = qdf xs∧(chL o ns i xs s).2.length = s.2.2.length
 | [],i,s => by rw [chL]; exact ⟨rfl,rfl⟩
 | a :: xs,i,s => by
  have h1:=qG3 a s.2.1
  obtain ⟨h2,h3⟩:=qI4 o ns xs (i + 1) (chS o ns i s)
  rw [chL]
  refine ⟨?_,?_⟩
  ·show qdf (chT a s.2.1 :: (chL o ns (i + 1) xs (chS o ns i s)).1) = _
   rw [qdf,qdf,h1,h2]
  ·show (chL o ns (i + 1) xs (chS o ns i s)).2.length = _
   rw [h3,qMS]
end
def thin (c:Sb):Prop := ∀ e ∈ c,nP e.2 = 1
theorem qBR {c:Sb} (h:thin c) (x:Str):thin (qeI x c):=fun e he => h e (vaU.1 he).1
theorem qIG {c:Sb} (h:thin c) (x y:Str):thin (c ++ [(x,varP y)]):=fun e he => by
 rcases vaz.1 he with he | he
 ·exact h e he
 ·rw [vaJ.1 he]; exact qDv y
theorem qJW (o:Int) (ns:List Str) (i:Nat) (s:S3) (h:thin s.2.1):thin (chS o ns i s).2.1:=by
 unfold chS
 split
 ·split
  ·exact qIG (qBR h _) _ _
  ·exact qBR h _
 ·exact h
theorem qC1 {c:Sb} (h:thin c) {n:Str} {q:tPred} (hq:look (kN c) (kB c) n = some q):nP q = 1:=by
 have:=qJS hq
 obtain ⟨e,he,rfl⟩:=vas.1 this
 exact h e he
mutual
theorem qFp (f:Str→Option tPred) (hf:∀ n q,f n = some q→nP q = 1):∀ (p:tPred),(∀ q,nP q = 1→True)→nP (sbP f p) ≤ nP p
 | ⟨o,n,k,ks⟩,hh => by
  have:=qzY f hf ks
  rw [sbP]
  cases h:(if o = 3 then f n else none) with
  | none => simp only [Option.getD_none]; rw [nP,nP]; omega
  | some q =>
   simp only [Option.getD_some]
   have h2:f n = some q:=by
    split at h
    ·exact h
    ·cases h
   rw [hf n q h2,nP]; omega
theorem qzY (f:Str→Option tPred) (hf:∀ n q,f n = some q→nP q = 1):∀ (l:List tPred),nL (sbL f l) ≤ nL l
 | [] => by rw [sbL]; omega
 | p :: l => by
  have:=qFp f hf p (fun _ _ => trivial)
  have:=qzY f hf l
  rw [sbL,nL,nL]; omega
end
mutual
theorem qLU:∀ (t:tType) (c:Sb),thin c→wT (chT t c) ≤ wT t
 | ⟨o,n,xs,ns,p,ps⟩,c,h => by
  have h1:=qMd o ns xs 0 (((kB c).flatMap qhV ++ freeT ⟨o,n,xs,ns,p,ps⟩) ++ ns,c,ns) h
  have h2:=qFp (look (kN c) (kB c)) (fun _ _ hq => qC1 h hq) p (fun _ _ => trivial)
  have h3:=qzY (look (kN c) (kB c)) (fun _ _ hq => qC1 h hq) ps
  rw [qD4] at h3
  rw [chT,wT,wT]
  omega
theorem qMd (o:Int) (ns:List Str):∀ (xs:List tType) (i:Nat) (s:S3),thin s.2.1→wTL (chL o ns i xs s).1 ≤ wTL xs
 | [],i,s,_ => by rw [chL]; exact vak _
 | a :: xs,i,s,h => by
  have h1:=qLU a s.2.1 h
  have h2:=qMd o ns xs (i + 1) (chS o ns i s) (qJW o ns i s h)
  rw [chL]
  show wTL (chT a s.2.1 :: (chL o ns (i + 1) xs (chS o ns i s)).1) ≤ _
  rw [wTL,wTL]; omega
end
theorem qHo {L:Nat} (o:Int) (ns:List Str) (i:Nat) (s:S3) (h:∀ x ∈ ns,x.length ≤ L) (hw:∀ x ∈ s.2.2,x.length ≤ L + 10):∀ x ∈ (chS o ns i s).2.2,x.length ≤ L + 10:=by
 unfold chS
 split
 ·rename_i hc
  split
  ·intro x hx
   rcases vcl hx with hx | hx
   ·exact hw x hx
   ·have h1:=qzU s.1 (ns.getD i [])
    have h2:(ns.getD i []).length ≤ L:=by rw [qyd _ i hc.2]; exact h _ (vat hc.2)
    rw [hx]; omega
  ·exact hw
 ·exact hw
mutual
theorem qIb (L:Nat):∀ (t:tType) (c:Sb),allN L t→allN (L + 10) (chT t c)
 | ⟨o,n,xs,ns,p,ps⟩,c,h => by
  rw [allN] at h
  obtain ⟨h1,h2⟩:=qFd L o ns h.1 xs 0 (((kB c).flatMap qhV ++ freeT ⟨o,n,xs,ns,p,ps⟩) ++ ns,c,ns) (fun x hx => vaQ (h.1 x hx) (by omega)) h.2
  rw [chT,allN]
  exact ⟨h2,h1⟩
theorem qFd (L:Nat) (o:Int) (ns:List Str) (hn:∀ x ∈ ns,x.length ≤ L):∀ (xs:List tType) (i:Nat) (s:S3),(∀ x ∈ s.2.2,x.length ≤ L + 10)→qhX L xs→qhX (L + 10) (chL o ns i xs s).1∧∀ x ∈ (chL o ns i xs s).2,x.length ≤ L + 10
 | [],i,s,hw,_ => by rw [chL]; exact ⟨trivial,hw⟩
 | a :: xs,i,s,hw,h => by
  rw [qhX] at h
  have h1:=qIb L a s.2.1 h.1
  obtain ⟨h2,h3⟩:=qFd L o ns hn xs (i + 1) (chS o ns i s) (qHo o ns i s hn hw) h.2
  rw [chL]
  refine ⟨?_,h3⟩
  show qhX (L + 10) (chT a s.2.1 :: (chL o ns (i + 1) xs (chS o ns i s)).1)
  rw [qhX]
  exact ⟨h1,h2⟩
end
theorem qHY (x y:Str):thin (sub1 x (varP y)):=by
 unfold sub1
 split
 ·intro e he; cases he
 ·intro e he
  rw [vaJ.1 he]; exact qDv y
def bh (old:List Str) (o:Str) (c:Sb):Nat→List tType→List tType
 | _,[] => []
 | k,a :: r => chT a c :: (if old[k]? = some o then r else bh old o c (k + 1) r)
theorem qKl (old:List Str) (o:Str) (c:Sb):∀ (k:Nat) (l:List tType),(bh old o c k l).length = l.length∧qdf (bh old o c k l) = qdf l
 | k,[] => by rw [bh]; exact ⟨rfl,rfl⟩
 | k,a :: r => by
  have ih:=qKl old o c (k + 1) r
  rw [bh,qdf,qdf,qG3]
  split
  ·exact ⟨by simp,rfl⟩
  ·exact ⟨by simp [ih.1],by rw [ih.2]⟩
theorem bh_w (old:List Str) (o:Str) (c:Sb) (h:thin c):∀ (k:Nat) (l:List tType),wTL (bh old o c k l) ≤ wTL l
 | k,[] => by rw [bh]; exact vak _
 | k,a :: r => by
  have ih:=bh_w old o c h (k + 1) r
  have h1:=qLU a c h
  rw [bh,wTL,wTL]
  split <;> omega
theorem bh_n (old:List Str) (o:Str) (c:Sb) (L:Nat):∀ (k:Nat) (l:List tType),qhX L l→qhX (L + 10) (bh old o c k l)
 | k,[],_ => by rw [bh]; trivial
 | k,a :: r,h => by
  rw [qhX] at h
  have ih:=bh_n old o c L (k + 1) r h.2
  have h1:=qIb L a c h.1
  rw [bh,qhX]
  refine ⟨h1,?_⟩
  split
  ·exact qim (by omega) r h.2
  ·exact ih
def qnq (old:List Str) (i:Nat) (y:Str) (l:List tType):List tType:=l.take (i + 1) ++ bh old (old.getD i []) (sub1 (old.getD i []) (varP y)) (i + 1) (l.drop (i + 1))
theorem qxN:∀ (a b:List tType),qdf (a ++ b) = qdf a + qdf b
 | [],b => by simp [qdf]
 | x :: a,b => by rw [vaP,qdf,qdf,qxN a b]; omega
theorem qD3:∀ (a b:List tType),wTL (a ++ b) = wTL a + wTL b
 | [],b => by simp [wTL]
 | x :: a,b => by rw [vaP,wTL,wTL,qD3 a b]; omega
theorem qCY {L:Nat} {a b:List tType}:qhX L (a ++ b)↔qhX L a∧qhX L b:=by
 rw [qj1,qj1,qj1]
 simp only [vaz]
 constructor
 ·intro h; exact ⟨fun t ht => h t (.inl ht),fun t ht => h t (.inr ht)⟩
 ·rintro ⟨h1,h2⟩ t (ht | ht)
  ·exact h1 t ht
  ·exact h2 t ht
theorem qsx (old:List Str) (i:Nat) (y:Str) (l:List tType):(qnq old i y l).length = l.length∧qdf (qnq old i y l) = qdf l∧wTL (qnq old i y l) ≤ wTL l∧∀ L,qhX L l→qhX (L + 10) (qnq old i y l):=by
 obtain ⟨h1,h2⟩:=qKl old (old.getD i []) (sub1 (old.getD i []) (varP y)) (i + 1) (l.drop (i + 1))
 have h3:=bh_w old (old.getD i []) (sub1 (old.getD i []) (varP y)) (qHY _ _) (i + 1) (l.drop (i + 1))
 have e1:=vbn qdf (vbc (i + 1) l)
 have e2:=vbn wTL (vbc (i + 1) l)
 have e3:=vbn List.length (vbc (i + 1) l)
 rw [qxN] at e1
 rw [qD3] at e2
 rw [vaf] at e3
 unfold qnq
 refine ⟨by rw [vaf,h1]; exact e3,by rw [qxN,h2]; exact e1,by rw [qD3]; omega,fun L hL => ?_⟩
 rw [← vbc (i + 1) l,qCY] at hL
 rw [qCY]
 exact ⟨qim (by omega) _ hL.1,bh_n _ _ _ L _ _ hL.2⟩
theorem qwW (body:Int×List tType→Option ((Int×List tType)⊕List tType)) (old:List Str) (o:Str) (c:Sb) (n:Nat) (hn:n < 4611686018427387904) :
  ∀ (r done:List tType) (k:Nat),done.length = k→k + r.length = n →
   (∀ (j:Nat) (h:j < r.length) (w:List tType),w.length = n→w[k + j]? = r[j]?→body (((k + j:Nat):Int),w) = some (if old[k + j]? = some o then .inr (w.set (k + j) (chT r[j] c)) else .inl (((k + j + 1:Nat):Int),w.set (k + j) (chT r[j] c)))) →
   (∀ w,body ((n:Int),w) = some (.inr w))→loop body ((k:Int),done ++ r) = some (done ++ bh old o c k r)
 | [],done,k,hd,hk,_,he => by
  have:k = n:=by simpa using hk
  subst this
  rw [bh]
  exact qkg (he _)
 | a :: r,done,k,hd,hk,hb,he => by
  simp only [vaS] at hk
  have h0:=hb 0 (by simp) (done ++ a :: r) (by simp; omega) (by simp [← hd])
  simp only [Nat.add_zero] at h0
  have hset:(done ++ a :: r).set k (chT a c) = (done ++ [chT a c]) ++ r:=by
   rw [List.set_append_right _ _ (by omega),hd,vbK]
   simp
  rw [bh]
  by_cases hc:old[k]? = some o
  ·rw [vao hc]
   rw [vao hc] at h0
   have h0:body ((k:Int),done ++ a :: r) = some (.inr ((done ++ a :: r).set k (chT a c))):=h0
   rw [qkg h0,hset]
   simp
  ·rw [vam hc]
   rw [vam hc] at h0
   have h0:body ((k:Int),done ++ a :: r) = some (.inl (((k + 1:Nat):Int),(done ++ a :: r).set k (chT a c))):=h0
   rw [qmm h0,hset]
   have ih:=qwW body old o c n hn r (done ++ [chT a c]) (k + 1) (by simp [hd]) (by omega) (fun j hj w hw hg => ?_) he
   ·rw [ih]; simp
   ·have:=hb (j + 1) (by simp; omega) w hw (by
     rw [show k + (j + 1) = k + 1 + j by omega,hg]
     simp)
    rw [show k + (j + 1) = k + 1 + j by omega] at this
    exact this
theorem qGG (l:List tType) (i:Nat) (old:List Str) (y:Str) (hi:i < old.length) (hil:i + 1 ≤ l.length) (hl:l.length ≤ 1073741824) (ho:old.length ≤ 1073741824) (hok:∀ a ∈ l,okS a (sub1 old[i] (varP y))):qgZ l (i:Int) old y = some (qnq old i y l):=by
 unfold qgZ
 rw [qi4 l hl]
 simp only [vaa]
 unfold qgN
 have e:qnq old i y l = l.take (i + 1) ++ bh old old[i] (sub1 old[i] (varP y)) (i + 1) (l.drop (i + 1)):=by unfold qnq; rw [qyd old i hi]
 have hloop:=qwW (fun (zz:Int×List tType) => qbJ (i:Int) old y l.length zz.1 zz.2) old old[i] (sub1 old[i] (varP y)) l.length (by omega) (l.drop (i + 1)) (l.take (i + 1)) (i + 1) (by rw [va2]; omega) (by rw [va8]; omega) (fun j hj w hw hg => ?_) (fun w => ?_)
 ·rw [vbc] at hloop
  rw [qiY (by omega) (by omega),show ((i:Int) + 1) = ((i + 1:Nat):Int) by omega,hloop,← e]
  simp only [vaa]
  rw [qFg _ _ (by rw [(qsx old i y l).1])]
  rfl
 ·rw [va8] at hj
  have hj':j < (l.drop (i + 1)).length:=by rw [va8]; exact hj
  show qbJ (i:Int) old y l.length ((i + 1 + j:Nat):Int) w = _
  unfold qbJ
  rw [vao (vba (by omega))]
  have hwj:w[i + 1 + j]'(by omega) = (l.drop (i + 1))[j]'hj':=by
   have:=hg
   rw [vab (by omega),vab hj'] at this
   exact vbq this
  rw [qCI l.length w (i + 1 + j) (by omega) (by omega),hwj]
  simp only [vaa]
  rw [qbb old i hi]
  simp only [vaa]
  have hm:(l.drop (i + 1))[j]'hj' ∈ l:=List.mem_of_mem_drop (vat hj')
  have hs:=qGY _ old[i] (varP y) (hok _ hm)
  rw [show (⟨3,y,0,([]:List tPred)⟩:tPred) = varP y from rfl,hs]
  simp only [vaa]
  rw [qIA w (i + 1 + j) _ (by omega)]
  simp only [vaa]
  unfold qg1
  by_cases hk:i + 1 + j < old.length
  ·rw [vao (vba (by omega)),qbb old _ hk]
   simp only [vaa]
   rw [qbb old i hi]
   simp only [vaa,vab hk]
   by_cases hc:old[i + 1 + j] = old[i]
   ·rw [vao (by simpa using hc),vao (by rw [hc])]
   ·rw [vam (by simpa using hc),vam (fun h => hc (vbq h)),qiY (by omega) (by omega)]
    rfl
  ·rw [vam (by simp; omega),vaB (by omega)]
   simp only [vaa,vaK,if_false]
   rw [vam (fun h => by cases h),qiY (by omega) (by omega)]
   rfl
 ·show qbJ (i:Int) old y l.length (l.length:Int) w = _
  unfold qbJ
  rw [vam (by simp)]
abbrev S4:Type:=List Str×List Str×List tType
def apS (vars ns:List Str) (n i:Nat) (s:S4):S4 :=
 if i + 1 < n∧ns.getD i [] ∈ vars then (s.1 ++ [qia s.1 (ns.getD i [])],s.2.1.set i (qia s.1 (ns.getD i [])),qnq ns i (qia s.1 (ns.getD i [])) s.2.2) else s
def apQ (vars ns:List Str) (n:Nat) (s:S4):Nat→S4
 | 0 => s
 | i + 1 => apS vars ns n i (apQ vars ns n s i)
def qkE (vars:List Str) (t:tType):S4:=((vars ++ freeT t) ++ t.Names,t.Names,t.Args)
def apN (vars:List Str) (t:tType):S4:=apQ vars t.Names t.Args.length (qkE vars t) t.Names.length
structure ApF (L:Nat) (vars:List Str) (t:tType) (i:Nat) (s:S4):Prop where
 u:s.1.length ≤ vars.length + wT t + t.Names.length + i
 w:s.2.1.length = t.Names.length
 wn:∀ x ∈ s.2.1,x.length ≤ L + 10
 wk:∀ j,i ≤ j→s.2.1[j]? = t.Names[j]?
 al:s.2.2.length = t.Args.length
 at_:qdf s.2.2 = qdf t.Args
 aw:wTL s.2.2 ≤ wTL t.Args
 an:qhX (L + 10 * i) s.2.2
theorem qos {L:Nat} {vars:List Str} {t:tType} (h:allN L t):∀ i,i ≤ t.Names.length→ApF L vars t i (apQ vars t.Names t.Args.length (qkE vars t) i)
  | 0,_ => by
    have h1:=(qtR L t).1 h
    have h2:=qka t
    exact { u:=by show ((vars ++ freeT t) ++ t.Names).length ≤ _; rw [vaf,vaf]; omega
            w:=rfl,wn:=fun x hx => vaQ (h1.1 x hx) (by omega),wk:=fun j _ => rfl,al:=rfl,at_:=rfl,aw:=vak _,an:=h1.2 }
  | i + 1,hi => by
    have ih:=qos (vars:=vars) h i (by omega)
    have h1:=(qtR L t).1 h
    show ApF L vars t (i + 1) (apS vars t.Names t.Args.length i (apQ vars t.Names t.Args.length (qkE vars t) i))
    generalize apQ vars t.Names t.Args.length (qkE vars t) i = s at ih
    unfold apS
    split
    · obtain ⟨f1,f2,f3,f4⟩:=qsx t.Names i (qia s.1 (t.Names.getD i [])) s.2.2
      have hl:=qzU s.1 (t.Names.getD i [])
      have hn:(t.Names.getD i []).length ≤ L:=by rw [qyd _ i (by omega)]; exact h1.1 _ (vat _)
      exact { u:=by have:=ih.u; simp only [vaf,List.length_singleton]; omega
              w:=by simp only [vbw]; exact ih.w
              wn:=fun x hx => by
                rcases vcl hx with hx | hx
                · exact ih.wn x hx
                · rw [hx]; omega
              wk:=fun j hj => by
                simp only
                rw [vaq (by omega)]
                exact ih.wk j (by omega)
              al:=f1.trans ih.al,at_:=f2.trans ih.at_,aw:=vaQ f3 ih.aw
              an:=by have:=f4 _ ih.an; rw [show L + 10 * (i + 1) = L + 10 * i + 10 by omega]; exact this }
    · exact { u:=by have:=ih.u; omega
              w:=ih.w,wn:=ih.wn,wk:=fun j hj => ih.wk j (by omega),al:=ih.al,at_:=ih.at_,aw:=ih.aw
              an:=qim (by omega) _ ih.an }
def apF (vars:List Str):Nat→tType→tType
 | 0,t => t
 | k + 1,t => if t.Op = 6 then ⟨t.Op,t.Name,(apN vars t).2.2.map (apF vars k),(apN vars t).2.1,t.Pred,t.Preds⟩ else ⟨t.Op,t.Name,t.Args.map (apF vars k),t.Names,t.Pred,t.Preds⟩
def apT (vars:List Str) (t:tType):tType:=apF vars (lenT t) t
mutual
theorem qDz:∀ (t:tType),∃ L,allN L t
 | ⟨o,n,xs,ns,p,ps⟩ => by
  obtain ⟨L,h⟩:=qzo xs
  have key:∀ (l:List Str),∃ M,∀ s ∈ l,s.length ≤ M:=by
   intro l
   induction l with
   | nil => exact ⟨0,fun s hs => by cases hs⟩
   | cons x l ih =>
    obtain ⟨M,hM⟩:=ih
    refine ⟨M + x.length,fun s hs => ?_⟩
    rcases vaC.1 hs with rfl | hs
    ·omega
    ·have:=hM s hs; omega
  obtain ⟨M,hM⟩:=key ns
  refine ⟨L + M,?_⟩
  rw [allN]
  exact ⟨fun s hs => by have:=hM s hs; omega,qim (by omega) xs h⟩
theorem qzo:∀ (l:List tType),∃ L,qhX L l
 | [] => ⟨0,trivial⟩
 | a :: xs => by
  obtain ⟨L,h⟩:=qDz a
  obtain ⟨M,h'⟩:=qzo xs
  refine ⟨L + M,?_⟩
  rw [qhX]
  exact ⟨qtD (by omega) a h,qim (by omega) xs h'⟩
end
theorem qsM (vars:List Str) (t:tType):qdf (apN vars t).2.2 = qdf t.Args∧(apN vars t).2.1.length = t.Names.length∧wTL (apN vars t).2.2 ≤ wTL t.Args∧(apN vars t).2.2.length = t.Args.length:=by
 obtain ⟨L,h⟩:=qDz t
 have:=qos (vars:=vars) h t.Names.length (vak _)
 exact ⟨this.at_,this.w,this.aw,this.al⟩
theorem quh {vars:List Str} {t a:tType} (h:a ∈ (apN vars t).2.2):lenT a + t.Names.length < lenT t:=by
 have h1:=qmf h
 rw [(qsM vars t).1] at h1
 rw [qkG t]; omega
theorem qwv (vars:List Str):∀ (k m:Nat) (t:tType),lenT t ≤ k→lenT t ≤ m→apF vars k t = apF vars m t
 | 0,m,t,h,_ => by have:=qnb t; omega
 | k + 1,0,t,_,h => by have:=qnb t; omega
 | k + 1,m + 1,t,h1,h2 => by
  rw [apF,apF]
  split
  ·rw [vaN fun a ha => qwv vars k m a (by have:=quh ha; omega) (by have:=quh ha; omega)]
  ·rw [vaN fun a ha => qwv vars k m a (by have:=qde ha; omega) (by have:=qde ha; omega)]
theorem qIU (vars:List Str) (t:tType):apT vars t = if t.Op = 6 then ⟨t.Op,t.Name,(apN vars t).2.2.map (apT vars),(apN vars t).2.1,t.Pred,t.Preds⟩ else ⟨t.Op,t.Name,t.Args.map (apT vars),t.Names,t.Pred,t.Preds⟩:=by
 obtain ⟨k,hk⟩:∃ k,lenT t = k + 1:=⟨lenT t - 1,by have:=qnb t; omega⟩
 unfold apT
 rw [hk,apF]
 split
 ·rw [vaN fun a ha => qwv vars k (lenT a) a (by have:=quh ha; omega) (vak _)]
 ·rw [vaN fun a ha => qwv vars k (lenT a) a (by have:=qde ha; omega) (vak _)]
structure okA (t:tType):Prop where
 l:lenT t ≤ 4000000
 w:wT t ≤ 4000000
 n:∃ L,allN L t∧L + 10 * (lenT t * lenT t) ≤ 500000000000000
theorem qFF {t a:tType} {L M:Nat} (hl:lenT t ≤ 4000000) (hL:L + 10 * (lenT t * lenT t) ≤ 500000000000000) (h1:lenT a + M < lenT t) (h2:wT a ≤ 4000000) (h3:allN (L + 10 * M) a):okA a where
 l:=by omega
 w:=h2
 n:=by
  refine ⟨L + 10 * M,h3,?_⟩
  have e1:(lenT a + M) * (lenT a + M) ≤ lenT t * lenT t:=vbG (by omega) (by omega)
  have e2:(lenT a + M) * (lenT a + M) = lenT a * lenT a + lenT a * M + (M * lenT a + M * M):=by rw [vaX,Nat.mul_add,Nat.mul_add]
  have e3:M ≤ M * M:=by
   cases M with
   | zero => omega
   | succ M => exact vcv _ (by omega)
  generalize lenT a * lenT a = A at *
  generalize lenT a * M = B at *
  generalize M * lenT a = C at *
  generalize M * M = D at *
  generalize lenT t * lenT t = E at *
  omega
theorem qK1 {t a:tType} (h:okA t) (ha:a ∈ t.Args):okA a:=by
 obtain ⟨L,h1,h2⟩:=h.n
 exact qFF (M:=0) h.l h2 (by have:=qde ha; omega) (by have:=qLf ha; have:=h.w; omega) (qtD (by omega) a (qFj h1 ha))
theorem qL6 {t a:tType} {vars:List Str} (h:okA t) (ha:a ∈ (apN vars t).2.2):okA a:=by
 obtain ⟨L,h1,h2⟩:=h.n
 have hf:=qos (vars:=vars) h1 t.Names.length (vak _)
 refine qFF (M:=t.Names.length) h.l h2 (quh ha) ?_ ((qj1 _ _).1 hf.an a ha)
 have h3:=qAb ha
 have h4:=hf.aw
 have h5:=qAB t
 have h6:=h.w
 have h7:wTL (apN vars t).2.2 ≤ wTL t.Args:=h4
 omega
theorem qLX {t:tType} {vars:List Str} (h:okA t) (i:Nat) (hi:i < t.Names.length) (x y:Str):∀ a ∈ (apQ vars t.Names t.Args.length (qkE vars t) i).2.2,okS a (sub1 x (varP y)):=fun a ha => by
 obtain ⟨L,h1,h2⟩:=h.n
 have hf:=qos (vars:=vars) h1 i (by omega)
 have g1:=qmf ha
 have g2:=qAb ha
 have g3:=hf.at_
 have g4:=hf.aw
 have g5:=qkG t
 have g6:=qAB t
 have g7:=h.l
 have g8:=h.w
 have g9:=qMs x (varP y)
 rw [qDv] at g9
 have g10:t.Names.length ≤ lenT t * lenT t:=vaQ (vcB (qjc t)) (vcv _ (qnb t))
 refine { nd:=qFW _ _,sz:=by omega,w:=by omega,n:=qtD ?_ a ((qj1 _ _).1 hf.an a ha) }
 generalize lenT t * lenT t = E at *
 omega
theorem qHI (t:tType) (vars:List Str) (h:okA t) (hv:vars.length ≤ 4000000):qlA t vars = some (apT vars t):=by
 refine qd3 (F:=qjq) (fun x => lenT x.1) (fun x => okA x.1∧x.2 = vars) (fun x => apT x.2 x.1) (fun R x hx ih => ?_) (t,vars) ⟨h,rfl⟩ (qdQ (by have:=h.l; unfold bigN; show lenT t ≤ _; omega))
 obtain ⟨t,v'⟩:=x
 obtain ⟨h,he⟩:=hx
 have he:v' = vars:=he
 subst he
 have h:okA t:=h
 have hl:lenT t ≤ 4000000:=h.l
 have hw:wT t ≤ 4000000:=h.w
 have l1:=qeD t
 have l2:=qjc t
 have l3:=qe7 t
 show qgc (fun t vars => R (t,vars)) t v' = some (apT v' t)
 unfold qgc
 rw [qi4 _ (by omega),qi4 _ (by omega),qi4 _ (by omega),qIU]
 simp only [vaa]
 by_cases ho:t.Op = 6
 ·rw [vao (by simpa using ho),vao ho,qi4 _ (by omega),qCW t (by omega) (by omega)]
  simp only [vaa]
  have f2:=qka t
  rw [qcq (by omega)]
  simp only [vaa]
  rw [qcq (by rw [vaf]; omega)]
  simp only [vaa]
  obtain ⟨L,hL1,hL2⟩:=h.n
  have hloop:=qz6 t.Names.length (by omega) (fun i (s:List Str×List Str×List tType) => (s.1,i,s.2.1,s.2.2)) (fun (zz:(List Str)×Int×List Str×(List tType)) => qbS t v' (t.Names.length:Int) t.Names.length zz.1 zz.2.1 zz.2.2.1 zz.2.2.2)
   (fun i => apQ v' t.Names t.Args.length (qkE v' t) i) ((apN v' t).2.1,(apN v' t).2.2) (fun i hi => ?_) ?_
  ·have hloop':qix t v' (t.Names.length:Int) t.Names.length ((v' ++ freeT t) ++ t.Names) 0 t.Names t.Args = _:=hloop
   rw [hloop']
   simp only [vaa]
   rw [qFg _ _ (qsM v' t).2.1.symm]
   simp only [vaa]
   unfold qdO qdx
   have hal:=(qsM v' t).2.2.2
   rw [qb6 (apN v' t).2.2 (by omega) (fun i s => (s,i)) _ (fun y => qgl (fun t vars => R (t,vars)) y v') (apT v') id (fun i s => rfl) (fun y hy => by
    have he:=ih (y,v') (by have:=quh hy; show lenT y < lenT t; omega) ⟨qL6 h hy,rfl⟩
    show (R (y,v')).bind (fun r1 => some r1) = _
    rw [he]
    rfl)]
   rfl
  ·have hok:=qLX (vars:=v') h i hi t.Names[i] (qia (apQ v' t.Names t.Args.length (qkE v' t) i).1 t.Names[i])
   have hf:=qos (vars:=v') hL1 i (by omega)
   have hq:apQ v' t.Names t.Args.length (qkE v' t) (i + 1) = apS v' t.Names t.Args.length i (apQ v' t.Names t.Args.length (qkE v' t) i):=rfl
   rw [hq]
   generalize apQ v' t.Names t.Args.length (qkE v' t) i = s at hf hok ⊢
   show qbS t v' (t.Names.length:Int) t.Names.length s.1 (i:Int) s.2.1 s.2.2 = _
   have hu:=hf.u
   have hsw:=hf.w
   have hsa:=hf.al
   unfold qbS qig apS
   rw [vao (vba (show (i:Int) < (t.Names.length:Int) by omega)),qiY (by omega) (by omega),qyd _ i hi]
   by_cases h1:i + 1 < t.Args.length
   ·rw [vam (show ¬ (decide ((i:Int) ≥ (t.Args.length:Int) - 1) = true) by simp; omega),qbb _ i hi]
    simp only [vaa]
    rw [qks v' _ (by omega)]
    simp only [vaa]
    by_cases h2:t.Names[i] ∈ v'
    ·simp only [h2,decide_true,vbF,vaK,if_false]
     rw [vao ⟨h1,trivial⟩]
     have hnl:t.Names[i].length ≤ L:=((qtR L t).1 hL1).1 _ (vat hi)
     rw [(qFQ s.1 t.Names[i] (by omega) (by generalize lenT t * lenT t = E at *; omega)).1]
     simp only [vaa]
     rw [qCI _ s.2.1 i (by omega) (by omega)]
     simp only [vaa]
     rw [qIA s.2.1 i _ (by omega)]
     simp only [vaa]
     rw [qCI _ (s.2.1.set i (qia s.1 t.Names[i])) i (by omega) (by rw [vbw]; omega),vcE]
     simp only [vaa]
     rw [qcq (by simp; omega)]
     simp only [vaa]
     rw [qGG s.2.2 i t.Names _ hi (by omega) (by omega) (by omega) hok]
     rfl
    ·simp only [h2,decide_false,vbH,if_true]
     rw [vam (fun h => h.2)]
   ·rw [vao (show decide ((i:Int) ≥ (t.Args.length:Int) - 1) = true by simp; omega),vam (fun h => h1 h.1)]
    simp only [vaa,if_true]
  ·show qbS t v' (t.Names.length:Int) t.Names.length _ (t.Names.length:Int) _ _ = _
   unfold qbS
   rw [vam (by simp)]
   rfl
 ·rw [vam (by simpa using ho),vam ho,qFg _ _ rfl]
  simp only [vaa]
  unfold qdO qdx
  rw [qb6 t.Args (by omega) (fun i s => (s,i)) _ (fun y => qgl (fun t vars => R (t,vars)) y v') (apT v') id (fun i s => rfl) (fun y hy => by
   have he:=ih (y,v') (qde hy) ⟨qK1 h hy,rfl⟩
   show (R (y,v')).bind (fun r1 => some r1) = _
   rw [he]
   rfl)]
  rfl
theorem qFE (vars:List Str):∀ (k:Nat) (t:tType),lenT t ≤ k→lenT (apT vars t) = lenT t∧wT (apT vars t) ≤ wT t
 | 0,t,h => by have:=qnb t; omega
 | k + 1,t,h => by
  have key:∀ (l:List tType),(∀ a ∈ l,lenT a ≤ k)→qdf (l.map (apT vars)) = qdf l∧wTL (l.map (apT vars)) ≤ wTL l:=by
   intro l
   induction l with
   | nil => intro _; exact ⟨rfl,vak _⟩
   | cons a l ih =>
    intro hl
    obtain ⟨h1,h2⟩:=qFE vars k a (hl a (by simp))
    obtain ⟨h3,h4⟩:=ih fun b hb => hl b (by simp [hb])
    rw [vax,qdf,qdf,wTL,wTL]
    exact ⟨by omega,by omega⟩
  rw [qIU]
  split
  ·obtain ⟨h1,h2⟩:=key (apN vars t).2.2 (fun a ha => by have:=quh ha; omega)
   obtain ⟨f1,f2,f3,_⟩:=qsM vars t
   refine ⟨?_,?_⟩
   ·rw [lenT,qkG t,h1,f1,f2]
   ·rw [wT,qAB t]; omega
  ·obtain ⟨h1,h2⟩:=key t.Args (fun a ha => by have:=qde ha; omega)
   refine ⟨?_,?_⟩
   ·rw [lenT,qkG t,h1]
   ·rw [wT,qAB t]; omega
mutual
theorem qIv (B:Nat):∀ (t:tType),wT t ≤ B→allP (fun p => nP p ≤ B) t
 | ⟨o,n,xs,ns,p,ps⟩,h => by
  rw [wT] at h
  rw [allP]
  exact ⟨by omega,fun q hq => by have:=qzA hq; omega,qHQ B xs (by omega)⟩
theorem qHQ (B:Nat):∀ (l:List tType),wTL l ≤ B→qiB (fun p => nP p ≤ B) l
 | [],_ => trivial
 | a :: xs,h => by
  rw [wTL] at h
  rw [qiB]
  exact ⟨qIv B a (by omega),qHQ B xs (by omega)⟩
end
theorem qEe (t:tType) (abs:List tAbs) (holes:List tHole) (ht:lenT t ≤ bigN) (hp:allP (fun p => nP p ≤ bigN) t) (ha:abs.length < 9223372036854775808) (hh:∀ h ∈ holes,h.Params.length ≤ 1073741823):qhn t abs holes = some (mapT (hoP (hoF abs holes)) t):=by
 refine qd3 (F:=qfF) (fun x => lenT x.1) (fun x => lenT x.1 ≤ bigN∧allP (fun p => nP p ≤ bigN) x.1∧x.2 = (abs,holes)) (fun x => mapT (hoP (hoF x.2.1 x.2.2)) x.1) (fun R x hx ih => ?_) (t,abs,holes) ⟨ht,hp,rfl⟩ (qdQ ht)
 obtain ⟨t,d',l'⟩:=x
 obtain ⟨hx,hq,he⟩:=hx
 cases he
 have hx:lenT t ≤ bigN:=hx
 obtain ⟨q1,q2,q3⟩:=(qiQ _ t).1 hq
 have h1:=qeD t
 have h2:=qe7 t
 have h3:=qjc t
 have hF:∀ y,nP y ≤ bigN→qdB y abs holes = some (hoP (hoF abs holes) y):=fun y hy => by
  unfold qdB
  rw [qJz y abs holes hy ha hh]
  rfl
 show qdy (fun p d a => R (p,d,a)) t abs holes = some (mapT (hoP (hoF abs holes)) t)
 unfold qdy qit qhH qfz qeU
 rw [qi4 _ (by unfold bigN at hx; omega),hF _ q1]
 simp only [vaa]
 rw [qb6 t.Preds (by unfold bigN at hx; omega) (fun i s => (s,i)) _ (fun y => qdB y abs holes) (hoP (hoF abs holes)) id (fun i s => rfl) (fun y hy => hF y (q2 y hy))]
 simp only [vaa,id]
 rw [qb6 t.Args (by unfold bigN at hx; omega) (fun i s => (s,i)) _ (fun y => qfA (fun p d a => R (p,d,a)) y abs holes) (mapT (hoP (hoF abs holes))) id (fun i s => rfl) (fun y hy => by
  have he:=ih (y,abs,holes) (qde hy) ⟨by have:=qde hy; show lenT y ≤ bigN; omega,(qe2 _ _).1 q3 y hy,rfl⟩
  show (R (y,abs,holes)).bind (fun r1 => some r1) = _
  rw [he]
  rfl)]
 simp only [vaa,id]
 rw [qDS]
theorem qJj (t:tType) (abs:List tAbs) (holes:List tHole) (h:okA t) (ha:abs.length ≤ 1000) (hh:∀ h ∈ holes,h.Params.length ≤ 1000):qfp t abs holes = some (mapT (hoP (hoF abs holes)) (apT (scV abs holes) t)):=by
 obtain ⟨h1,h2⟩:=qF2 abs holes ha hh
 obtain ⟨s1,s2⟩:=qFE (scV abs holes) _ t (vak _)
 have hl:=h.l
 have hw:=h.w
 unfold qfp
 rw [h1]
 simp only [vaa]
 rw [qHI t _ h (by omega)]
 simp only [vaa]
 rw [qEe _ abs holes (by unfold bigN; omega) (qIv bigN _ (by unfold bigN; omega)) (by omega) (fun q hq => by have:=hh q hq; omega)]
 rfl
theorem qMb (t:tType) (h:pmL (qac t) ≤ 1048576):okA t where
 l:=by have:=qBA t; omega
 w:=by have:=qK3 t; omega
 n:=by
  refine ⟨1048576,qHJ 1048576 t h,?_⟩
  have h1:lenT t ≤ 1048576:=by have:=qBA t; omega
  have h2:=vbG h1 h1
  omega
theorem qH0 (ns:List Str) (n:Nat) (s:S4):∀ i,apQ [] ns n s i = s
 | 0 => rfl
 | i + 1 => by
  rw [apQ,qH0 ns n s i]
  unfold apS
  rw [vam (fun h => by cases h.2)]
theorem qLC:∀ (k:Nat) (t:tType),lenT t ≤ k→apT [] t = t:=by
 intro k
 induction k with
 | zero => intro t h; have:=qnb t; omega
 | succ k ih =>
  intro t h
  have hm:t.Args.map (apT []) = t.Args:=by
   conv => rhs; rw [← List.map_id t.Args]
   exact vaN fun x hx => ih x (by have:=qde hx; omega)
  have hN:apN [] t = qkE [] t:=by unfold apN; exact qH0 _ _ _ _
  rw [qIU,hN]
  show (if t.Op = 6 then (⟨t.Op,t.Name,t.Args.map (apT []),t.Names,t.Pred,t.Preds⟩:tType) else ⟨t.Op,t.Name,t.Args.map (apT []),t.Names,t.Pred,t.Preds⟩) = t
  rw [hm,ite_self]
  cases t; rfl
mutual
theorem qFw {f:Str→Option tHole} (h:∀ n,f n = none):∀ (p:tPred),hoP f p = p
 | ⟨o,n,k,ks⟩ => by rw [hoP,qFi h ks,h n]; simp
theorem qFi {f:Str→Option tHole} (h:∀ n,f n = none):∀ (l:List tPred),hoL f l = l
 | [] => by rw [hoL]
 | p :: l => by rw [hoL,qFw h p,qFi h l]
end
mutual
theorem qBO {f:tPred→tPred} (h:∀ p,f p = p):∀ (t:tType),mapT f t = t
 | ⟨o,n,xs,ns,p,ps⟩ => by rw [mapT,qzj h xs,h p,show ps.map f = ps from by rw [show f = id from funext h,List.map_id]]
theorem qzj {f:tPred→tPred} (h:∀ p,f p = p):∀ (l:List tType),qjj f l = l
 | [] => by rw [qjj]
 | t :: l => by rw [qjj,qBO h t,qzj h l]
end
mutual
theorem qFv {f g s:tPred→tPred} {Q:tPred→Prop} (h:∀ p,Q p→f (g p) = s p):∀ (t:tType),allP Q t→mapT f (mapT g t) = mapT s t
 | ⟨o,n,xs,ns,p,ps⟩,hq => by
  rw [allP] at hq
  rw [mapT,mapT,mapT,qCP h xs hq.2.2,h p hq.1,vcQ]
  rw [show ps.map (f ∘ g) = ps.map s from vaN fun x hx => h x (hq.2.1 x hx)]
theorem qCP {f g s:tPred→tPred} {Q:tPred→Prop} (h:∀ p,Q p→f (g p) = s p):∀ (l:List tType),qiB Q l→qjj f (qjj g l) = qjj s l
 | [],_ => by rw [qjj,qjj,qjj]
 | t :: l,hq => by
  rw [qiB] at hq
  rw [qjj,qjj,qjj,qFv h t hq.1,qCP h l hq.2]
end
theorem qK9 (abs:List tAbs):scV abs (abs.map qd1) = []:=by
 unfold scV
 rw [List.flatMap_eq_nil_iff]
 intro a ha
 unfold hoF
 cases abs.findIdx? (fun x => x.Name == a.Name) with
 | none => rfl
 | some j =>
  show ((abs.map qd1)[j]?).elim [] qys = []
  rw [vaA]
  cases abs[j]? <;> rfl
theorem qJA {a:tAbs} (h:a.Name.length ≤ 1048576):qd7 a [104] [] = some (qd1 a):=by
 unfold qd7
 rw [qw8 (by simp)]
 simp only [vaa]
 rw [qw8 (by simp; omega)]
 simp only [vaa]
 rw [qcq (by simp)]
 rfl
theorem qIZ {l:List tAbs} (hl:l.length ≤ 1048576) (h:∀ a ∈ l,a.Name.length ≤ 1048576):qhy l [104] [] = some (l.map qd1):=by
 unfold qhy qgM
 rw [qb6 l (by omega) (fun i s => (s,i)) (fun (zz:List tHole×Int) => qfy [104] [] l (l.length:Int) zz.1 zz.2) (fun a => qd7 a [104] []) qd1 id (fun i s => rfl) (fun a ha => qJA (h a ha))]
 rfl
theorem qH5 (holes:List tHole) (sols:List tPred) (hl:holes.length = sols.length) (hb:holes.length ≤ 1000):qdz sols holes (holes.length:Int) [] 0 = some (zipS holes sols):=by
 rw [← qHv]
 unfold qdz
 have hz:=qA5 hl
 refine qiZ holes (by omega) (fun i s => (s,i)) (fun i s y => (idx sols i).bind fun x59 => (app s ([(⟨y.Name,x59⟩:tSol)]:List tSol)).bind fun l60 => some (.inl (l60,w64 (i + 1)))) id (fun i s => s = (zipS holes sols).take i) (fun i s => rfl) (fun i hi s hs => ?_) (fun s hs => ?_) [] (by simp)
 ·subst hs
  refine qar (qbb sols i (by omega)) (qar (qcq (by simp; omega)) (qae ⟨_,rfl,?_⟩))
  rw [vaE (by omega)]
  unfold zipS
  rw [vb8]
 ·rw [hs,← hz,vbr]; rfl
theorem qI7 (sols:List tPred) (i:Nat) (hi:i < sols.length) (free:List Str) (hq:nP sols[i] ≤ bigN):tot (qcV sols (i:Int) free) (fun o => o = false→nP sols[i] ≤ 6):=by
 unfold qcV
 have ha:qp3 sols[i] = some (innP 4 sols[i] []):=by
  have e:=qup sols[i] 4 [] (by rw [List.length_nil,Nat.add_zero]; exact hq)
  unfold qp3
  rw [e,vaa]
 have hh:qf7 sols[i] = some (innP 5 sols[i] []):=by
  have e:=qup sols[i] 5 [] (by rw [List.length_nil,Nat.add_zero]; exact hq)
  unfold qf7
  rw [e,vaa]
 have hx:=qbb sols i hi
 refine qar hx (qar (qA2 _ hq) (qak (fun _ => qae fun h => by cases h) fun h => ?_))
 have h6:nP sols[i] ≤ 6:=by rw [vah] at h; omega
 have tail:tot ((idx sols i).bind fun x => (qp3 x).bind fun r => if decide ((r.length:Int) > 0) = true then some true else (idx sols i).bind fun x => (qf7 x).bind fun r => some (decide ((r.length:Int) > 0))) (fun o => o = false→nP sols[i] ≤ 6):=qar hx (qar ha (qak (fun _ => qae fun _ => h6) fun _ => qar hx (qar hh (qae fun _ => h6))))
 refine qak (fun _ => qae fun h => by cases h) fun _ => qak (fun h1 => ?_) fun _ => ?_
 ·have h1:free.length = 1:=by
   have:=vaH h1
   omega
  exact qar (qbb free 0 (by omega)) (qak (fun _ => qae fun _ => h6) fun _ => tail)
 ·exact tail
theorem qJG (abs:List tAbs) (sols:List tPred) (hl:abs.length = sols.length) (hb:abs.length ≤ 4) (hq:∀ q ∈ sols,nP q ≤ 1048576):tot (qdv abs sols (abs.length:Int) [] 0) (fun o => o.elim (fun b => b = true) (fun ns => ns = abs.map (·.Name)∧∀ q ∈ sols,nP q ≤ 6)):=by
 unfold qdv
 refine qiZ abs (by omega) (fun i s => (s,i)) (fun i s y => (app s ([y.Name]:List Str)).bind fun l18 => (idx sols i).bind fun x19 => (qwB x19).bind fun r20 => (qcV sols i r20).bind fun o44 => if o44 = true then (qj3).bind fun r47 => some (.inr (.inl r47)) else some (.inl (l18,w64 (i + 1)))) (fun s => .inr s) (fun i s => s = (abs.map (·.Name)).take i∧∀ j (h:j < sols.length),j < i→nP sols[j] ≤ 6) (fun i s => rfl) (fun i hi s hs => ?_) (fun s hs => ⟨by rw [hs.1,← vaL (·.Name),vbr],fun q hq => ?_⟩) [] ⟨by simp,fun j _ h => absurd h (vaR _)⟩
 ·obtain ⟨rfl,hj⟩:=hs
  have his:i < sols.length:=by omega
  have h1:=hq _ (vat his)
  refine qar (qcq (by simp; omega)) (qar (qbb sols i his) (qar (qJ2 _ (by omega)) (qai (qI7 sols i his _ (by unfold bigN; omega)) fun o ho => qak (fun _ => qar qp0 (qae rfl)) fun hn => qae ⟨_,rfl,?_,fun j hjl hji => ?_⟩)))
  ·rw [vaE (by simpa using hi),vcV]
  ·by_cases he:j = i
   ·subst he; exact ho (by simpa using hn)
   ·exact hj j hjl (by omega)
 ·obtain ⟨j,hj,rfl⟩:=vbP hq
  exact hs.2 j hj (by omega)
theorem qKQ (a:tAbs):a.Name.length ≤ pmL (qaC a):=by rw [qul]; simp only [pmL,pm]; omega
theorem qGf (t:tType) (abs:List tAbs) (sols:List tPred) (h:pmL (qac t) + (pm (sl qaC abs) + (pm (sl qaa sols) + 0)) ≤ 1048576):qij t abs sols = some true:=by
 have ht:pmL (qac t) ≤ 1048576:=by omega
 have ok:=qMb t ht
 have hl:lenT t ≤ 1048576:=by have:=qBA t; omega
 have hw:wT t ≤ 1048576:=by have:=qK3 t; omega
 have hP1:allP (fun p => nP p ≤ bigN) t:=qIv bigN t (by unfold bigN; omega)
 have hP:qiB (fun p => nP p ≤ bigN) [t]:=by
  rw [qiB]
  exact ⟨hP1,trivial⟩
 have hsol:∀ q ∈ sols,nP q ≤ 1048576:=fun q hq => by
  have h1:=qwq (vas.2 ⟨q,hq,rfl⟩:qaa q ∈ sols.map qaa)
  have h2:=qL5 q
  simp only [pm,sl] at h
  omega
 have habs:∀ a ∈ abs,a.Name.length ≤ 1048576:=fun a ha => by
  have h1:=qwq (vas.2 ⟨a,ha,rfl⟩:qaC a ∈ abs.map qaC)
  have h2:=qKQ a
  simp only [pm,sl] at h
  omega
 have hb:bigN = 1073741824:=rfl
 rw [← qHv]
 unfold qij qfB
 refine qai (R:=fun o => o = false→qiB (fun p => nP p ≤ 60) [t]∧allP (fun p => dP p ≤ 4) t∧abs.length ≤ 4∧sols.length = abs.length) (qai (qLI [t] (by simp [qdf]; omega) hP) fun b1 hb1 => qak (fun _ => qae (fun h => by cases h)) fun n1 => qai (qJo t (by omega) hP1) fun b2 hb2 => qak (fun _ => qae (fun h => by cases h)) fun n2 => qak (fun _ => qae (fun h => by cases h)) fun n3 => qak (fun _ => qae (fun h => by cases h)) fun n4 => qai (qEq t (by omega) hP1) fun _ _ => qae fun _ => ⟨hb1 (by simpa using n1),hb2 (by simpa using n2),by rw [vah] at n3; omega,by
  have:((sols.length:Int) == (abs.length:Int)) = true:=by simpa using n4
  have:=vaH this
  omega⟩) fun o ho => qak (fun _ => qar qp0 (qae rfl)) fun hno => ?_
 obtain ⟨h60,h4,ha4,hsl⟩:=ho (by simpa using hno)
 have h60:allP (fun p => nP p ≤ 60) t:=by rw [qiB] at h60; exact h60.1
 refine qai (qJG abs sols hsl.symm ha4 hsol) fun o ho => ?_
 cases o with
 | inl b =>
  have hbt:b = true:=ho
  subst hbt
  exact qae rfl
 | inr names =>
  obtain ⟨hn,h6⟩:names = abs.map (·.Name)∧∀ q ∈ sols,nP q ≤ 6:=ho
  subst hn
  simp only
  unfold qfE
  refine qai (R:=fun o => o = false→allP noH t) (qai (qvn (abs.map (·.Name)) (by simp; omega)) fun _ _ => qak (fun _ => qae fun h => by cases h) fun _ => qai (qIL t (by omega)) fun r hr => qae fun h => hr (vaj (by
   have:=of_decide_eq_false h
   omega))) fun o ho => qak (fun _ => qar qp0 (qae rfl)) fun hno => ?_
  have hH:=ho (by simpa using hno)
  have hlen:(abs.map qd1).length = abs.length:=vaL _
  have hpar:∀ h ∈ abs.map qd1,h.Params.length = 1:=fun h hh => by
   obtain ⟨a,_,rfl⟩:=vas.1 hh
   rfl
  have hinst:qfp t abs (abs.map qd1) = some (mapT (hoP (hoF abs (abs.map qd1))) t):=by
   rw [qJj t abs (abs.map qd1) ok (by omega) (fun q hq => by have:=hpar q hq; omega),qK9,qLC _ t (vak _)]
  have hf:∀ s:tSig,s.Abs = abs→qfI s [104] [] = some (abs.map qd1):=fun s hs => by
   unfold qfI
   rw [hs,qIZ (by omega) habs]
   rfl
  refine qar (hf _ rfl) ?_
  refine qar (qH5 (abs.map qd1) sols (by omega) (by omega)) (qar hinst ?_)
  have hun:∀ p,nP p ≤ 60→nP (hoP (hoF abs (abs.map qd1)) p) ≤ bigN:=fun p hp => by
   have:=qMt (hoF abs (abs.map qd1)) 1 (fun n q hq => qAK (fun x hx => by have:=hpar x hx; omega) n q hq) p
   omega
  have hu:=qBy (Q:=fun p => nP p ≤ 60) (R:=fun p => nP p ≤ bigN) (hoP (hoF abs (abs.map qd1))) hun t h60
  have hul:lenT (mapT (hoP (hoF abs (abs.map qd1))) t) ≤ bigN:=by rw [qAH]; omega
  have hsame:qwm t (mapT (hoP (hoF abs (abs.map qd1))) t) = some true:=by rw [qHT t _ (by omega),qFU]
  refine qai (R:=fun o => o = false) ?_ fun o ho => ?_
  ·unfold qfD
   rw [qzI]
   refine qar hsame (qak (fun h => by cases h) fun _ => qak (fun h0 => ?_) fun _ => qae rfl)
   have h0:abs.length = 0:=by
    have:=vaH h0
    omega
   have hab:=vaj h0
   subst hab
   rw [show mapT (hoP (hoF [] (List.map qd1 []))) t = t from qBO (fun p => qFw (fun n => rfl) p) t]
   exact qar (qw7 t (by omega) hP1) (qae rfl)
  ·subst ho
   rw [vam (by simp)]
   have hsb:∀ s ∈ zipS (abs.map qd1) sols,nP s.Pred ≤ bigN:=fun s hs => by
    unfold zipS at hs
    obtain ⟨i,hi,rfl⟩:=vbP hs
    rw [vb8]
    have hi':i < sols.length:=by simp at hi; omega
    have:=h6 _ (vat hi')
    show nP sols[i] ≤ bigN
    omega
   have hzl:=qA5 (h:=abs.map qd1) (s:=sols) (by omega)
   refine qar (qHU _ (abs.map qd1) (zipS (abs.map qd1) sols) hul hu (by omega) (by omega) hsb (fun h hh => by have:=hpar h hh; omega)) ?_
   rw [qFv (fun p hp => qKh abs sols hsl.symm _ p (vak _) hp) t hH]
   have hlm:(abs.map (·.Name)).length = abs.length:=vaL _
   have hd:=qGb t (abs.map (·.Name)) sols (by omega) hP1 (fun q hq => by have:=h6 q hq; omega) (by omega) (by omega)
   refine qar hd ?_
   have hv:=qBy (putP (solN (abs.map (·.Name)) sols)) (Q:=fun p => nP p ≤ 60∧dP p ≤ 4) (R:=fun p => nP p ≤ bigN) (fun p hp => by
    have h1:=qKq (solN (abs.map (·.Name)) sols) 6 (by decide) (fun n q hq => by
     unfold solN at hq
     obtain ⟨j,hj,he⟩:=vaT.1 hq
     rw [← he]
     cases hg:sols[j]? with
     | none => exact vaQ (show nP qhW ≤ 1 by decide) (by decide)
     | some q =>
      show nP (if q = qkt then qhW else q) ≤ 6
      by_cases hz:q = qkt
      ·rw [vao hz]; exact vaQ (show nP qhW ≤ 1 by decide) (by decide)
      ·rw [vam hz]; exact h6 q (vay hg)) p
    have h2:6 ^ dP p ≤ 6 ^ 4:=vb7 (by decide) hp.2
    have h3:=vbG hp.1 h2
    omega) t (qFR t h60 h4)
   refine qar (qw7 _ (by rw [qAH]; omega) hv) ?_
   rw [vao rfl]
   exact qar qp0 (qae rfl)
end Go.Proofs.YtgldgpdhblndkaaGreatDoor
