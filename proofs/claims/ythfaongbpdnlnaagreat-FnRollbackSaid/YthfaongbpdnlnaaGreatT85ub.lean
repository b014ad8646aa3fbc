/- What is proved: contracts on drawn rows of inputs, the reference's.
   Conditions: none beyond those that each lemma names. -/
import Derived.Test.YthfaongbpdnlnaaGreatV34
namespace Go.Proofs.YthfaongbpdnlnaaGreat
set_option linter.unusedSimpArgs false
set_option linter.unusedVariables false
theorem ZvK {p:Pr} {x:PkV} {m:Nat} {t s:List Int} (hp:Zic p) (hm:m < p.tracks.length) (ht:p.tracks.getD m default=t++s) (hx:x.fr=m) (hfs:x.fs=t.length) (hacks:x.acks=List.replicate p.tracks.length 0) (hin:∀ y ∈ x.ins,0≤y∧y≤15) (hlen:x.ins.length≤40∧t.length + x.ins.length≤400) (hz:x.tk=0∧x.stk=0∧x.sm=0∧x.tm=0∧x.ec=0)
  (hs:∀ k,k < s.length→k < x.ins.length→s.getD k 0=x.ins.getD k 0):(Zsk p x).2=true∧(Zsk p x).1=p.tracks.set m (t++s++x.ins.drop s.length):=by
 have htl:=Zbi hp.tracks
 have hto:=ZfG hp.tracks hm
 have hfm:x.fr.toNat=m:=by rw [hx];rfl
 have hpk:ZhP x.fr x.tk x.fs x.ins x.acks x.stk x.sm x.tm x.ec=true:=by
  have ha:ZsB x.acks=true:=by
   rw [hacks]
   unfold ZsB
   rw [List.all_eq_true]
   intro y hy
   rw [List.eq_of_mem_replicate hy]
   decide
  have hi:Zbl x.ins=true:=by
   unfold Zbl
   rw [List.all_eq_true]
   exact fun y hy=>Zae.2 (hin y hy)
  have hal:x.acks.length=p.tracks.length:=by rw [hacks];exact List.length_replicate
  unfold ZhP
  rw [ha,hi,hz.1,hz.2.1,hz.2.2.1,hz.2.2.2.1,hz.2.2.2.2,hal,hx,hfs]
  rw [Zae.2 (show (1:Int)≤(p.tracks.length:Int)∧(p.tracks.length:Int)≤4 by omega),Zae.2 (show (0:Int)≤(m:Int)∧(m:Int)≤(p.tracks.length:Int) - 1 by omega),decide_eq_true (show x.ins.length≤40 from hlen.1),Zae.2 (show (0:Int)≤(t.length:Int)∧(t.length:Int)≤400 - (x.ins.length:Int) by omega)]
  decide
 have hao:Ztj (p.tracks.getD m default) x.fs x.ins=true:=by
  unfold Ztj
  rw [hto,hfs,decide_eq_true (show (0:Int)≤(t.length:Int)∧(t.length:Int)≤((p.tracks.getD m default).length:Int) by rw [ht,List.length_append];omega),decide_eq_true (show (x.ins.length:Int)≤400 - (t.length:Int) by omega)]
  have hi:Zbl x.ins=true:=by
   unfold Zbl
   rw [List.all_eq_true]
   exact fun y hy=>Zae.2 (hin y hy)
  rw [hi]
  show Zsq (p.tracks.getD m default) ((t.length:Nat):Int).toNat x.ins=true
  unfold Zsq
  refine decide_eq_true fun k hk hk2=>?_
  rw [ht,List.length_append,Int.toNat_natCast] at hk2
  rw [ht,Int.toNat_natCast,List.getD_eq_getElem?_getD,List.getElem?_append_right (by omega),show t.length + k - t.length=k by omega,← List.getD_eq_getElem?_getD]
  exact hs k (by omega) hk
 unfold Zsk ZtB Zka
 rw [hfm,if_pos ⟨hp.tracks,hpk,by rw [hacks];exact List.length_replicate⟩,if_pos hao,if_pos rfl]
 refine ⟨rfl,?_⟩
 show p.tracks.set m (Zsl (p.tracks.getD m default) x.fs.toNat x.ins)=_
 unfold Zsl
 rw [ht,hfs,Int.toNat_natCast,List.length_append,show t.length + s.length - t.length=s.length by omega]
open Go.RowKit Ab
theorem ZvZ {zs:List Int} {y:Int} (h:in15 zs) (hy:0≤y∧y≤15):in15 (zs++[y]):=fun z hz=>by
 rcases List.mem_append.1 hz with hz|hz
 ·exact h z hz
 ·rw [List.mem_singleton.1 hz];exact hy
end Go.Proofs.YthfaongbpdnlnaaGreat
