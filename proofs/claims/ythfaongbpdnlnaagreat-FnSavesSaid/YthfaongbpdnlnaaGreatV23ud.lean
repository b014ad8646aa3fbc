/- What is proved: pressing, learning and new peers: a good peer stays good; what a peer holds is told by its tracks and its tick.
   Conditions: none beyond those that each lemma names. -/
import Derived.Test.YthfaongbpdnlnaaGreatT29ub
namespace Go.Proofs.YthfaongbpdnlnaaGreat
set_option linter.unusedSimpArgs false
set_option linter.unusedVariables false
theorem Zvu {w0:Wd} {p q:Pr} (h:Good w0 p) (k:Good w0 q) (hr:Zst p) (kr:Zst q) (ht:q.tracks=p.tracks) (hf:q.ft=p.ft∧q.fp=p.fp∧q.fa=p.fa) (hb:q.base.tick=p.base.tick) (hn:q.now.tick=p.now.tick):q.base=p.base∧q.now=p.now∧q.sums=p.sums:=by
 have u1:=h.ok.used
 have u2:=k.ok.used
 have s1:=h.ok.sums
 have s2:=k.ok.sums
 have e1:q.base=p.base:=by
  rw [h.base,k.base,ht,hf.1,hf.2.1,hf.2.2,hb]
 have e2:q.used=p.used:=by
  rw [Zvp h.ok hr,Zvp k.ok kr,ht,e1,show q.used.length=p.used.length by omega]
 refine ⟨e1,by rw [h.now,k.now,e1,e2,hf.1,hf.2.1,hf.2.2],?_⟩
 refine List.ext_getElem (by omega) fun i h1 h2=>?_
 have g1:=k.sums i h1
 have g2:=h.sums i h2
 rw [ht,hf.1,hf.2.1,hf.2.2,← g2,List.getD_eq_getElem?_getD,List.getD_eq_getElem?_getD,List.getElem?_eq_getElem h1,List.getElem?_eq_getElem h2] at g1
 exact g1
end Go.Proofs.YthfaongbpdnlnaaGreat
