/- What is proved: the statement FnLearnedTwice: inputs that are learned twice, in part and in full, change nothing.
   Conditions: none. -/
import Derived.Test.YthfaongbpdnlnaaGreatQPC
import Derived.Test.YthfaongbpdnlnaaGreatQT103uc
import Derived.Test.YthfaongbpdnlnaaGreatQT105
namespace Go.Proofs.YthfaongbpdnlnaaGreat
set_option maxHeartbeats 4000000
set_option maxRecDepth 100000
set_option linter.unusedSimpArgs false
set_option linter.unusedVariables false
open Go.RowKit Ab
theorem ZvW (a:List Int):AC Tryz.prog 51 [.t (ints 3 a),.t (ints 3 a)] (.t (.bool true)):=by
 refine AC.go Tryz.func51 Tryz.ntmps51 fun B W hr=>?_
 obtain ⟨us,hus⟩:=hr
 have hla:=(Zga (ZaR hus (i:=0) rfl)).1
 clear hus
 repeat' (first|refine pa ?_|(refine pb ?_ ?_<;>intro hg)|refine po ?_|(refine ZrT ?_)|fail)
 refine aW.loopF rfl (fun q:Nat=>[(5,.t (.int .i64 q))]) [(1,_),(0,_)] (fun q=>[]) [] (fun q=>q≤a.length) (fun q=>a.length - q) 0 (Nat.zero_le _) (by (exact plei)) ?_
 intro k hk
 refine pln ?_
 repeat' (first|refine pa ?_|(refine pb ?_ ?_<;>intro hg)|refine po ?_|(refine ZrT ?_)|fail)
 ·exact ⟨k + 1,by omega,by omega,by (exact ple)⟩
 ·exact pfr
end Go.Proofs.YthfaongbpdnlnaaGreat
namespace Go.Proofs.YthfaongbpdnlnaaGreat.Ab
set_option maxHeartbeats 4000000
set_option maxRecDepth 100000
set_option linter.unusedSimpArgs false
set_option linter.unusedVariables false
open Go.RowKit
section
variable {P:Program} {B:Nat→Prop} {W:En} {st:St} {a:Act} {w:World}
theorem SimW.recellV {pl:Nat→Value} {F:Nat→Nat→Prop} (h:SimW P B W st a w pl F) {o epo k:Nat} {ty:TypeId} {cs:List V} {x1:V} (ho:look st.objs o=some (epo,.box ty cs)) (hk:k < cs.length)
  (hp:∀ (g:Nat) (us:List Value),pl o=.pointer (some ⟨g,0,none⟩)→w.heap[g]?=some (.cells us.toArray ty (0,0))→∀ u,us[k]?=some u→C0 P w (look st.objs) pl (Free B W.o (look st.objs) F w) x1 u) :
  SimW P B W { st with objs:=(o,epo,.box ty (cs.set k x1)) :: st.objs } a w pl F:=by
 have hlk:∀ j,j ≠ o→look ((o,epo,Ob.box ty (cs.set k x1)) :: st.objs) j=look st.objs j:=fun j hj=>by rw [ZaB,if_neg (Ne.symm hj)]
 have hlo:look ((o,epo,Ob.box ty (cs.set k x1)) :: st.objs) o=some (epo,.box ty (cs.set k x1)):=by rw [ZaB,if_pos rfl]
 have hsome:∀ j x,look ((o,epo,Ob.box ty (cs.set k x1)) :: st.objs) j=some x→∃ y,look st.objs j=some y∧y.1=x.1∧(j ≠ o→y=x):=fun j x hj=>by
  by_cases hjo:j=o
  ·subst hjo
   rw [hlo] at hj
   cases hj
   exact ⟨_,ho,rfl,fun h=>absurd rfl h⟩
  ·rw [hlk j hjo] at hj
   exact ⟨x,hj,rfl,fun _=>rfl⟩
 have hfr:∀ b,Free B W.o (look st.objs) F w b→Free B W.o (look ((o,epo,Ob.box ty (cs.set k x1)) :: st.objs)) F w b:=fun b hb=>⟨hb.1,hb.2.1,fun j x hj=>by
  obtain ⟨y,hy,_⟩:=hsome j x hj
  exact hb.2.2 j y hy⟩
 have g:Goes P w w (look st.objs) (look ((o,epo,Ob.box ty (cs.set k x1)) :: st.objs)) pl pl (Free B W.o (look st.objs) F w) (Free B W.o (look ((o,epo,Ob.box ty (cs.set k x1)) :: st.objs)) F w) :=
  ⟨hfr,fun _ _=>rfl,fun j ep0 ob0 hj=>by
   by_cases hjo:j=o
   ·subst hjo
    rw [ho] at hj
    cases hj
    exact ⟨_,_,hlo,.inr ⟨rfl,rfl,rfl,rfl⟩⟩
   ·exact ⟨ep0,ob0,(hlk j hjo).trans hj,.inr ⟨rfl,rfl,rfl,rfl⟩⟩⟩
 refine ⟨h.old,h.size,h.defers,h.below,fun j hj=>(h.tmps j hj).goes g,fun j ep0 ob0 hj=>?_,fun j x b hj hf=>?_,fun j j' x x' b hne hj hj'=>?_,fun j ob0 h0 ep0 ob hj=>?_⟩
 ·by_cases hjo:j=o
  ·subst hjo
   have hj':look ((j,epo,Ob.box ty (cs.set k x1)) :: st.objs) j=some (ep0,ob0):=hj
   rw [hlo] at hj'
   cases hj'
   obtain ⟨gb,us,h1,h2,h3,h4,h5⟩:=h.objs j _ _ ho
   refine ⟨gb,us,h1,h2,h3,by simpa using h4,fun q x u hx hu=>?_⟩
   by_cases hq:k=q
   ·subst hq
    rw [List.getElem?_set_self hk] at hx
    cases hx
    exact C0.goes g (hp gb us h1 h3 u hu)
   ·rw [List.getElem?_set_ne hq] at hx
    exact C0.goes g (h5 q x u hx hu)
  ·have hj':look ((o,epo,Ob.box ty (cs.set k x1)) :: st.objs) j=some (ep0,ob0):=hj
   rw [hlk j hjo] at hj'
   exact (h.objs j ep0 ob0 hj').goes (fun _ _=>rfl) (fun _ _ hc=>C0.goes g hc) (fun _ _ hr=>hr.mono g.more g.heap)
 ·obtain ⟨y,hy,_⟩:=hsome j x hj
  exact h.range j y b hy hf
 ·obtain ⟨y,hy,_⟩:=hsome j x hj
  obtain ⟨y',hy',_⟩:=hsome j' x' hj'
  exact h.apart j j' y y' b hne hy hy'
 ·by_cases hjo:j=o
  ·subst hjo
   have hj':look ((j,epo,Ob.box ty (cs.set k x1)) :: st.objs) j=some (ep0,ob):=hj
   rw [hlo] at hj'
   cases hj'
   rcases h.hist j ob0 h0 _ _ ho with h5|⟨h5,h6,h7⟩
   ·exact .inl h5
   ·exact .inr ⟨h5,h6,h7⟩
  ·have hj':look ((o,epo,Ob.box ty (cs.set k x1)) :: st.objs) j=some (ep0,ob):=hj
   rw [hlk j hjo] at hj'
   exact h.hist j ob0 h0 _ _ hj'
theorem Zco.freeC {b eb c o ep:Nat} {ty:TypeId} {cs cs':List V} {fl d:Bool} {e:TypeId} {els:List (List T)} (hb:look st.objs b=some (eb,.box ty cs)) (hc:cs[c]?=some (.hnd o ep)) (hl:look st.objs o=some (ep,.row fl d e els)) (hbo:Nat.beq b o=false) (hcs:cs.set c (.t (.lst fl e els))=cs') :
  Zco P B W st ⟨st.n,st.tmps,(b,eb,.box ty cs') :: (o,ep + 1,.gone) :: st.objs⟩:=fun a w ⟨pl,F,hs⟩=>by
 have hbo:b ≠ o:=Nat.ne_of_beq_eq_false hbo
 subst hcs
 have hlo:look ((o,ep + 1,.gone) :: st.objs) o=some (ep + 1,.gone):=by rw [ZaB,if_pos rfl]
 have hlb:look ((o,ep + 1,.gone) :: st.objs) b=some (eb,.box ty cs):=by rw [ZaB,if_neg (Ne.symm hbo)];exact hb
 obtain ⟨gb,us0,b1,b2,b3,b4,b5⟩:=hs.objs b _ _ hb
 have hcl:=(List.getElem?_eq_some_iff.1 hc).1
 obtain ⟨pl',F',h5,_,hFr,g,_⟩:=hs.many (w':=w) (objs':=(o,ep + 1,.gone) :: st.objs) (nv:=fun _=>.slice none 0 0) (nF:=fun _ _=>False) (Nw:=fun k=>k=o)
  (Kp.refl _ _) (fun _ _ _=>rfl)
  (fun k hk=>by rw [ZaB,if_neg fun e=>hk e.symm])
  (fun k hk=>by
   subst hk
   refine ⟨ep + 1,_,hlo,fun ep0 ob0' h0=>.inl ?_,fun h0=>(by rw [hl] at h0;cases h0)⟩
   rw [hl] at h0
   cases h0
   exact Nat.lt_succ_self _)
  (fun k b hk hf=>hf.elim)
  (fun k k' b hk hk' hne' h _=>h)
  (fun lk' pl' Fr' hFr hlp k e' b hk hlk=>by
   subst hk
   rw [hlo] at hlk
   cases hlk
   exact fun _ h=>h)
 have hpb:pl' b=pl b:=by
  obtain ⟨ep',ob',q1,q2⟩:=g.look b _ _ hb
  rw [hlb] at q1
  cases q1
  rcases q2 with q2|⟨_,q3,_⟩
  ·exact absurd q2 (Nat.lt_irrefl _)
  ·exact q3
 refine ⟨pl',F',h5.recellV (o:=b) (k:=c) hlb hcl fun g' us q1 q2 u hu=>?_⟩
 rw [hpb,b1] at q1
 cases q1
 rw [b3] at q2
 have q3:us0=us:=by
  have:=Option.some.inj q2
  injection this with this
  exact congrArg Array.toList this
 subst q3
 have h7:C0 P w (look st.objs) pl (Free B W.o (look st.objs) F w) (.hnd o ep) u:=b5 c _ u hc hu
 have hcv:=hs.cvt (vs:=[.hnd o ep]) (us:=[u]) (ts:=[.lst fl e els]) (ks:=[(o,ep)]) (d:=d) ⟨rfl,fun k x u hx hu=>by
  cases k with
  | zero=>cases hx;cases hu;exact h7
  | succ k=>simp at hx⟩ (by simp [cvt,hl]) (by simp)
 have h8:=hcv.rd 0 _ _ rfl rfl
 show Rd P w _ _ u
 refine h8.mono (fun b hb=>?_) fun _ _=>rfl
 rcases hb with hb|⟨o',e',y,h1,h2,h3⟩
 ·exact hFr b (.inl hb) hb.2.1 fun _ _ h=>h
 ·simp at h1
  obtain ⟨rfl,rfl⟩:=h1
  exact hFr b (.inr (.inr ⟨_,_,rfl,h2,h3⟩)) (hs.range _ _ _ h2 h3).2 fun _ _ h=>h
end
end Go.Proofs.YthfaongbpdnlnaaGreat.Ab
namespace Go.Proofs.YthfaongbpdnlnaaGreat
set_option maxHeartbeats 4000000
set_option maxRecDepth 100000
set_option linter.unusedSimpArgs false
set_option linter.unusedVariables false
def pkOf (m f n:Nat) (ys:List Int):PkV:=⟨m,0,f,ys,List.replicate n 0,0,0,0,0⟩
theorem ZvN {w0:Wd} {p:Pr} (h:Good w0 p) {m:Nat} (hm:m < p.tracks.length) (hme:(m:Int) ≠ p.me) {t s ins:List Int} (ht:p.tracks.getD m default=t++s) (hin:∀ y ∈ ins,0≤y∧y≤15) (hlen:ins.length≤40∧t.length + ins.length≤400) (hs:∀ k,k < s.length→k < ins.length→s.getD k 0=ins.getD k 0) :
  (Zsk p (pkOf m t.length p.tracks.length ins)).2=true∧∃ q,Zsj p (pkOf m t.length p.tracks.length ins)=some q∧Good w0 q∧Zst q∧q.tracks=p.tracks.set m (t++s++ins.drop s.length)∧q.now.tick=p.now.tick∧q.base.tick=min p.now.tick (Zbe q.tracks)∧q.me=p.me∧q.ft=p.ft∧q.fp=p.fp∧q.fa=p.fa:=by
 obtain ⟨k1,k2⟩:=ZvK (x:=pkOf m t.length p.tracks.length ins) h.ok hm ht rfl rfl rfl hin hlen ⟨rfl,rfl,rfl,rfl,rfl⟩ hs
 obtain ⟨q,a1,a2,a3,a4,a5,a6,a7,a8,a9,a10,a11,a12,a13⟩:=Zul h (x:=pkOf m t.length p.tracks.length ins) hme k1
 exact ⟨k1,q,a1,a2,a3,a4.trans k2,a5,by rw [a6,a4],a7,a11,a12,a13⟩
theorem ZvO {ys zs:List Int} {k:Nat} (h:k < ys.length):(ys++zs).getD k 0=ys.getD k 0:=by
 rw [List.getD_eq_getElem?_getD,List.getElem?_append_left h,← List.getD_eq_getElem?_getD]
theorem Zv2 {w0:Wd} {p:Pr} (h:Good w0 p) {m:Nat} (hm:m < p.tracks.length) (hme:(m:Int) ≠ p.me) {ys zs:List Int} (hin:∀ y ∈ ys++zs,0≤y∧y≤15) (hlen:(ys++zs).length≤40∧(p.tracks.getD m default).length + (ys++zs).length≤400) :
  ∃ a b c d,Zsj p (pkOf m (p.tracks.getD m default).length p.tracks.length (ys++zs))=some a∧Zsj p (pkOf m (p.tracks.getD m default).length p.tracks.length ys)=some b∧Zsj b (pkOf m (p.tracks.getD m default).length p.tracks.length (ys++zs))=some c∧Zsj c (pkOf m (p.tracks.getD m default).length p.tracks.length ys)=some d ∧
   (c.base=a.base∧c.now=a.now∧c.sums=a.sums)∧d.now=c.now∧d.rolls=c.rolls∧b.tracks.length=p.tracks.length∧c.tracks.length=p.tracks.length ∧
   (b.tracks.getD m default).length=(p.tracks.getD m default).length + ys.length∧(c.tracks.getD m default).length=(p.tracks.getD m default).length + (ys++zs).length:=by
 obtain ⟨T,hT⟩:∃ T,p.tracks.getD m default=T:=⟨_,rfl⟩
 rw [hT] at hlen ⊢
 have hyl:ys.length≤(ys++zs).length:=by rw [List.length_append];omega
 have hiy:∀ y ∈ ys,0≤y∧y≤15:=fun y hy=>hin y (List.mem_append_left _ hy)
 have hT0:p.tracks.getD m default=T++[]:=by rw [hT,List.append_nil]
 obtain ⟨_,a,a1,a2,a3,a4,a5,a6,a7,a8,a9,a10⟩:=ZvN h hm hme hT0 hin hlen fun k hk=>absurd hk (Nat.not_lt_zero _)
 obtain ⟨_,b,b1,b2,b3,b4,b5,b6,b7,b8,b9,b10⟩:=ZvN h hm hme hT0 hiy ⟨by omega,by omega⟩ fun k hk=>absurd hk (Nat.not_lt_zero _)
 rw [List.append_nil,List.length_nil,List.drop_zero] at a4 b4
 have hbl:b.tracks.length=p.tracks.length:=by rw [b4,List.length_set]
 have hbm:b.tracks.getD m default=T++ys:=by rw [b4,ZsJ hm,if_pos rfl]
 obtain ⟨_,c,c1,c2,c3,c4,c5,c6,c7,c8,c9,c10⟩:=ZvN b2 (m:=m) (by omega) (by rw [b7];exact hme) hbm hin hlen fun k hk _=>(ZvO hk).symm
 have hct:c.tracks=a.tracks:=by rw [c4,a4,b4,List.set_set,List.drop_left,List.append_assoc]
 have hcl:c.tracks.length=p.tracks.length:=by rw [hct,a4,List.length_set]
 have hcm:c.tracks.getD m default=T++(ys++zs):=by rw [hct,a4,ZsJ hm,if_pos rfl]
 obtain ⟨k1,d,d1,d2,d3,d4,d5,d6,d7,d8,d9,d10⟩:=ZvN c2 (m:=m) (by omega) (by rw [c7,b7];exact hme) hcm hiy ⟨by omega,by omega⟩ fun k _ hk=>ZvO hk
 obtain ⟨_,k2⟩:=ZvK (x:=pkOf m T.length c.tracks.length ys) c2.ok (by omega) hcm rfl rfl rfl hiy ⟨by show ys.length≤40;omega,by show T.length + ys.length≤400;omega⟩ ⟨rfl,rfl,rfl,rfl,rfl⟩ fun k _ hk=>ZvO hk
 rw [hbl] at c1
 have hsame:(Zsk c (pkOf m T.length c.tracks.length ys)).1=c.tracks:=by
  rw [k2,show (pkOf m T.length c.tracks.length ys).ins=ys from rfl,List.drop_of_length_le hyl,List.append_nil,← hcm]
  refine List.ext_getElem (by rw [List.length_set]) fun i h1 h2=>?_
  rw [List.getElem_set]
  split
  ·rename_i e
   subst e
   exact Zb6 h2
  ·rfl
 obtain ⟨r,e1,_,_,_,_,e6⟩:=ZtZ c2
 obtain ⟨_,_,f3,_,_⟩:=ZsT c2 c3
 have hd:d=confirmV c:=by
  have:Zsj c (pkOf m T.length c.tracks.length ys)=(Zqk { c with tracks:=(Zsk c (pkOf m T.length c.tracks.length ys)).1 }).map confirmV:=if_pos ⟨Zbq.2 c2.ok,by show (m:Int) ≠ c.me;rw [c7,b7];exact hme,k1⟩
  rw [hsame,d1] at this
  rw [show ({ c with tracks:=c.tracks }:Pr)=c from rfl,e1,e6 c3] at this
  exact Option.some.inj this
 rw [hcl] at d1
 refine ⟨a,b,c,d,a1,b1,c1,d1,?_,by rw [hd];exact f3.now,by rw [hd];exact f3.rolls,hbl,hcl,by rw [hbm,List.length_append],by rw [hcm,List.length_append]⟩
 exact Zvu a2 c2 a3 c3 hct ⟨by rw [c8,b8,a8],by rw [c9,b9,a9],by rw [c10,b10,a10]⟩ (by rw [c6,a6,hct,b5]) (by rw [c5,b5,a5])
open Go.RowKit Ab
theorem Zwk (e:TypeId) (n:Nat):ints e (List.replicate n 0)=.lst true e (List.replicate n [.int .i64 0]):=by simp [ints]
theorem snocE (zs:List Int) (y:Int):Zak (zs++[y])=Zak zs++[[T.int .i64 y]]:=by simp [Zak,intC]
theorem ZvJ (xs:List Int):AC Tryz.prog 10 [.t (.lst true 5 (Zsm xs))] (.t (.bool true)):=by
 have hb:=Zvt xs
 by_cases hbig:1048576 < (xs.length:Int)
 ·rw [decide_eq_true hbig] at hb
  refine AC.go Tryz.func10 Tryz.ntmps10 fun B W hr=>?_
  repeat' (first|refine pa ?_|(refine pb ?_ ?_<;>intro hg)|(refine z9 ?_;(refine Zaa hb ?_))|refine po ?_|fail)
  exact pfr
 rw [decide_eq_false hbig] at hb
 have hxl:xs.length≤1048576:=by omega
 have h0:=ZvF xs 0 (by omega)
 refine AC.go Tryz.func10 Tryz.ntmps10 fun B W hr=>?_
 obtain ⟨us,hus⟩:=hr
 obtain ⟨_,hcode⟩:=Zvq (ZaR hus (i:=0) rfl)
 clear hus
 have hcd:∀ j:Nat,0≤atV xs j∧atV xs j≤255:=fun j=>Zwd hcode j
 repeat' (first|(refine pth ?_)|((fail_if_success (with_reducible first|refine pA1 4 ?_|refine pA2 4 ?_|refine pA3 4 ?_));(first|refine pc ?_|(refine pbc ?_ ?_<;>intro hg)))|(first|refine pl ?_|(refine pbl ?_ ?_<;>intro hg))|(first|(refine z9 ?_;(first|refine Zaa hb ?_|(refine Zp4 (m:=[]) (ZtD xs hxl) (fun p hp=>?_);refine pmk ?_)))|refine po ?_)|fail)
 have hpl:=hp.len
 have hg:=hp.1.good
 have hpp:=hg.ok
 have htn:=Zbi hpp.tracks
 have hmn:=hpp.me
 have htl:(p.tracks.map trackC).length=p.tracks.length:=List.length_map _
 have b0:=hcd 0
 have htm:(atV xs 0).tmod (p.tracks.length:Int)=atV xs 0 % (p.tracks.length:Int):=Int.tmod_eq_emod_of_nonneg b0.1
 have m1:0≤atV xs 0 % (p.tracks.length:Int):=Int.emod_nonneg _ (by omega)
 have m2:atV xs 0 % (p.tracks.length:Int) < (p.tracks.length:Int):=Int.emod_lt_of_pos _ (by omega)
 obtain ⟨m,hm⟩:∃ m:Nat,(atV xs 0).tmod (p.tracks.length:Int)=(m:Int):=⟨(atV xs 0 % (p.tracks.length:Int)).toNat,by rw [htm];omega⟩
 have hmt:m < p.tracks.length:=by omega
 repeat' (first|(refine pth ?_)|((fail_if_success (with_reducible first|refine pA1 6 ?_|refine pA2 6 ?_|refine pA3 6 ?_));(first|refine pc ?_|(refine pbc ?_ ?_<;>intro hg)))|(first|refine pl ?_|(refine pbl ?_ ?_<;>intro hg))|(first|(refine z9 ?_;(refine Zaa h0 ?_))|refine po ?_)|fail)
 rw [hm]
 clear htm m1 m2 hm h0 b0
 by_cases hme:(m:Int)=p.me
 ·repeat' (first|refine pa ?_|(refine pb ?_ ?_<;>intro hg)|refine po ?_|fail)
  refine pfin ?_
  exact .inl (congrArg T.bool (decide_eq_true (by omega)))
 have hkt:=Zei (ZfG hpp.tracks hmt)
 have hke:=Zal (p.tracks.getD m default)
 have hshort:=hp.1.short m hmt
 repeat' (first|(refine pth ?_)|((fail_if_success (with_reducible first|refine pA1 9 ?_|refine pA2 9 ?_|refine pA3 9 ?_));(first|refine pc ?_|(refine pbc ?_ ?_<;>intro hg)))|(first|refine pl ?_|(refine pbl ?_ ?_<;>intro hg))|(refine po ?_)|fail)
 obtain ⟨f,hf⟩:∃ f,(p.tracks.getD m default).length=f:=⟨_,rfl⟩
 rw [hf]
 repeat' (first|refine pa ?_|(refine pb ?_ ?_<;>intro hg)|refine po ?_|fail)
 refine aW.nilcell (o:=7) (i:=500) (k:=3) true 3 rfl rfl rfl rfl rfl ?_
 refine aW.loopF rfl (fun q:Nat×Nat×List Int=>[(8,.t (.int .i64 q.1))]) [(0,_),(3,_),(7,_)] (fun q=>[(7,1,.box 48 [.t (.int .i64 m),.t (.int .i64 0),.t (.int .i64 f),.hnd 500 q.2.1,.hnd 45 1,.t (.int .i64 0),.t (.int .i64 0),.t (.int .i64 0),.t (.int .i64 0)]),(500,q.2.1,.row true true 3 (Zak q.2.2))]) [(3,_,_),(45,_,_)] (fun q=>q.1≤4∧q.2.2.length=q.1∧in15 q.2.2) (fun q=>4 - q.1) (0,1,[]) ⟨Nat.zero_le _,rfl,fun y hy=>by cases hy⟩ (by (exact plei)) ?_
 rintro ⟨k,ep,zs⟩ hI
 obtain ⟨hk4,hzl,hza⟩:k≤4∧zs.length=k∧in15 zs:=hI
 have hel:=Zal zs
 refine pln ?_
 by_cases hk:k < 4
 ·have hat:=ZvF xs ((k:Int) + 1) (by omega)
  have hv:=hcd (k + 1)
  rw [show ((k + 1:Nat):Int)=(k:Int) + 1 by omega] at hv
  generalize atV xs ((k:Int) + 1)=v at hat hv
  have hw:v.tmod 16=v % 16:=Int.tmod_eq_emod_of_nonneg hv.1
  repeat' (first|refine pa ?_|(refine pb ?_ ?_<;>intro hg)|(refine z9 ?_;(refine Zaa hat ?_))|refine po ?_|(refine pdr [] 11 (by (apply pct 11 2047 0;(focus (intro hd8;(apply pct 11 511 2;(focus (intro hd7;(apply pct 11 255 3;(focus (intro hd6;(apply pct 11 253 4;(focus (intro hd5;(apply pct 11 127 4;(focus (intro hd4;(apply pct 11 63 5;(focus (intro hd3;(apply pct 11 61 6;(focus (intro hd2;(apply pct 11 31 6;(focus (intro hd1;(refine ZaC 0 ?_<;>refine pt0_ 2 ?_<;>refine pt0_ 3 ?_<;>refine Zbh 4 ?_<;>(refine pq2 1 5 ?_ ?_;(focus ((refine pop ?_;refine pk7 ?_)<;>(exact ptm hd1)));(focus ((refine pop ?_;(refine z9 ?_;(refine Zaa hat ?_)))<;>(exact ptm hd2)))))));(case main=>((refine pq1 5 ?_;(focus ((refine pop ?_;(refine z9 ?_;(refine Zaa hat ?_)))<;>(exact ptm hd3)))))))));(case main=>(refine Zbh 6 ?_<;>(refine pq2 1 7 ?_ ?_;(focus ((refine pop ?_;refine pk7 ?_)<;>(exact ptm hd4)));(focus ((refine pop ?_;refine pk6 ?_)<;>(exact ptm hd5)))))))));(case main=>(refine Zbh 6 ?_<;>(refine pq1 7 ?_;(focus ((refine pop ?_;refine pk6 ?_)<;>(exact ptm hd6)))))))));(case main=>((refine pq1 7 ?_;(focus ((refine pop ?_;refine pk6 ?_)<;>(exact ptw hd6)))))))));(case main=>((refine pq1 1 ?_;(focus ((refine pop ?_;refine pk7 ?_)<;>(exact ptw hd6)))))))));(case main=>((refine pq1 8 ?_;(focus ((refine pop ?_;refine pk20 ?_)<;>(exact ptm hd7)))))))));(case main=>(refine ZaC 9 ?_<;>(refine pq1 10 ?_;(focus ((refine pop ?_;refine pk8 ?_)<;>(exact ptm hd8)))))))));(case main=>((refine ZaI ?_;exact ZaJ))))) ?_)|fail)
  exact ⟨(k + 1,ep + 1,zs++[v.tmod 16]),⟨by show k + 1≤4;omega,by show (zs++[v.tmod 16]).length=k + 1;simp [hzl],ZvZ hza (by omega)⟩,by show 4 - (k + 1) < 4 - k;omega,by rw [snocE];(exact ple)⟩
 refine aW.ghost (Zco.freeC (b:=7) (c:=3) (o:=500) rfl rfl rfl rfl rfl) ?_
 dsimp only [List.set]
 obtain rfl:k=4:=by omega
 obtain ⟨y0,y1,y2,y3,rfl⟩:∃ y0 y1 y2 y3,zs=[y0,y1,y2,y3]:=by
  match zs,hzl with
  | [a,b,c,d],_=>exact ⟨a,b,c,d,rfl⟩
 obtain ⟨a,b,c,d,e1,e2,e3,e4,⟨u1,u2,u3⟩,u4,u5,u6,u7,u8,u9⟩:=Zv2 hg hmt hme (ys:=[y0,y1]) (zs:=[y2,y3]) hza ⟨by show 4≤40;omega,by show (p.tracks.getD m default).length + 4≤400;omega⟩
 rw [hf] at e1 e2 e3 e4 u8 u9
 have da:=hp.learn (c:=4) (x:=pkOf m f p.tracks.length [y0,y1,y2,y3]) fun k _ he=>by
  obtain rfl:m=k:=Int.ofNat.inj he
  show f + 4≤_
  omega
 have db:=hp.learn (c:=4) (x:=pkOf m f p.tracks.length [y0,y1]) fun k _ he=>by
  obtain rfl:m=k:=Int.ofNat.inj he
  show f + 2≤_
  omega
 have hla:=Zvi p (pkOf m f p.tracks.length [y0,y1,y2,y3]) hpl hp.2 _ rfl
 dsimp only [pcR,pcF] at hla
 have hlb:=Zvi p (pkOf m f p.tracks.length [y0,y1]) hpl hp.2 _ rfl
 dsimp only [pcR,pcF] at hlb
 rw [show [y0,y1]++[y2,y3]=[y0,y1,y2,y3] from rfl] at e1 e3
 rw [e1] at hla da
 rw [e2] at hlb db
 dsimp only [Option.getD_some,Option.isSome_some] at hla hlb da db
 have dc:=db.learn (c:=4) (x:=pkOf m f p.tracks.length [y0,y1,y2,y3]) fun k _ he=>by
  obtain rfl:m=k:=Int.ofNat.inj he
  rw [u8]
  show f + 4≤f + 2 + 4
  omega
 have hlc:=Zvi b (pkOf m f p.tracks.length [y0,y1,y2,y3]) db.len db.2 _ rfl
 dsimp only [pcR,pcF] at hlc
 rw [e3] at hlc dc
 dsimp only [Option.getD_some,Option.isSome_some] at hlc dc
 have dd:=dc.learn (c:=4) (x:=pkOf m f p.tracks.length [y0,y1]) fun k _ he=>by
  obtain rfl:m=k:=Int.ofNat.inj he
  rw [u9]
  show f + 2≤f + 4 + 4
  omega
 have hld:=Zvi c (pkOf m f p.tracks.length [y0,y1]) dc.len dc.2 _ rfl
 dsimp only [pcR,pcF] at hld
 rw [e4] at hld dd
 dsimp only [Option.getD_some,Option.isSome_some] at hld dd
 have hpo:=Zgp d dd.len.tracks.1
 dsimp only [pcR] at hpo
 rw [Zbq.2 dd.1.good.ok,u4,u5,u2] at hpo
 rw [u4,u5,u1,u2,u3] at hld
 rw [u1,u2,u3] at hlc
 have hs1:=Ztv a.now (Zee da.1.good.ok.now).2.2
 have hs2:=Ztv a.base (Zee da.1.good.ok.base).2.2
 have hs3:=ZvW a.sums
 dsimp only [pkOf] at hla hlb hlc hld
 rw [Zwk] at hla hlb hlc hld
 clear hcd e1 e2 e3 e4 u1 u2 u3 u4 u5 u6 u7 u8 u9
 repeat' (first|refine pa ?_|(refine pb ?_ ?_<;>intro hg)|(refine z9 ?_;(first|refine Zaa hs1 ?_|refine Zaa hs2 ?_|refine Zaa hs3 ?_|refine Zaa hpo ?_|refine Zc5 hla ?_|refine Zc5 hlb ?_|refine Zc5 hlc ?_|refine Zc5 hld ?_))|refine po ?_|fail)
 exact pfr
theorem ZvM (xs:(TY.slice 5 (.int .u8)).V):AC Tryz.prog 10 [TY.arg (.slice 5 (.int .u8)) xs] (.t (.bool true)):=ZvJ xs
open Go.ChangeShapes Go.WideShapes
theorem ZvC (os:Os) (started:os.Started) (H:Type) (enc:TypeId×Value→H) :
  ReturnsInHanded {} Tryz.checked os 10 .any (Rows.fnLearnedTwiceSpec.pre6 enc Tryz.prog Tryz.f10 Rows.fnLearnedTwiceRow.domain false) (Rows.fnLearnedTwiceSpec.post enc Tryz.prog Tryz.f10 false true false false):=by
 refine ZjB (C:=Tryz.checked) Tryz.own started (by kernel_rfl) Tryz.func10 Tryz.laidOut (by kernel_rfl) (tb:=4) rfl Tryz.underlying4 rfl ?_
  (ChangeSpec.witness6 (enc:=enc) (C:=Tryz.checked) false ⟨#[],#[.slice none 0 0],[]⟩ 8 (by kernel_rfl) (by kernel_rfl) (by kernel_rfl) (by kernel_rfl)) ?_
 ·intro W vs ds ps hA
  have hA:DataW.TrodAll enc Tryz.prog W 0 (fun _=>true) true Tryz.f10.params.toList vs ds ps:=hA
  rw [Tryz.params10] at hA
  obtain ⟨v0,vs0,d0,ds0,p0,q0,rfl,rfl,rfl,h0,r0⟩:=trodAll_cons hA
  obtain ⟨rfl,rfl,rfl⟩:=trodAll_nil r0
  rfl
 ·intro W base args ds p hok0 hA hlt
  have hA:DataW.TrodAll enc Tryz.prog W 0 (fun _=>true) true Tryz.f10.params.toList args.toList ds p:=hA
  have hok:∀ (j:Nat) t v,Tryz.f10.params[j]?=some t→args[j]?=some v→Value.okWide Tryz.prog W .any base t v:=hok0
  clear hok0
  rw [Tryz.params10] at hA hok
  obtain ⟨args⟩:=args
  obtain ⟨v0,vs0,d0,ds0,p0,q0,hv0,rfl,rfl,h0,r0⟩:=trodAll_cons hA
  have hv0:args=v0 :: vs0:=hv0;subst hv0
  obtain ⟨rfl,rfl,rfl⟩:=trodAll_nil r0
  obtain ⟨cs0,y0,g0,rfl⟩:=Ze3 (T:=(.slice 5 (.int .u8))) (by kernel_rfl) (hok 0 _ _ rfl rfl) h0
  clear hok hA hlt
  exact ZoH (ZvM y0) (Ab.Pw.cons (ZiB (t:=(.slice 5 (.int .u8))) (by kernel_rfl) g0 rfl) Ab.Pw.nil)
theorem ZvB:joinedFacts Tryz.prog 10 Tryz.f10 Rows.fnLearnedTwiceSpec Rows.fnLearnedTwiceRow=true:=by
 simp only [joinedFacts,Bool.and_eq_true]
 exact ⟨⟨⟨⟨⟨⟨⟨⟨⟨⟨⟨⟨⟨⟨⟨⟨⟨⟨⟨⟨⟨⟨⟨⟨⟨⟨⟨⟨⟨⟨⟨(by as_aux_lemma=>kernel_rfl),(by as_aux_lemma=>kernel_rfl)⟩,(by as_aux_lemma=>kernel_rfl)⟩,(by as_aux_lemma=>kernel_rfl)⟩,(by as_aux_lemma=>kernel_rfl)⟩,(by as_aux_lemma=>kernel_rfl)⟩,(by as_aux_lemma=>kernel_rfl)⟩,(by as_aux_lemma=>kernel_rfl)⟩,(by as_aux_lemma=>kernel_rfl)⟩,(by as_aux_lemma=>kernel_rfl)⟩,(by as_aux_lemma=>kernel_rfl)⟩,(by as_aux_lemma=>kernel_rfl)⟩,(by as_aux_lemma=>kernel_rfl)⟩,(by as_aux_lemma=>kernel_rfl)⟩,(by as_aux_lemma=>kernel_rfl)⟩,(by as_aux_lemma=>kernel_rfl)⟩,(by as_aux_lemma=>kernel_rfl)⟩,(by as_aux_lemma=>kernel_rfl)⟩,(by as_aux_lemma=>kernel_rfl)⟩,(by as_aux_lemma=>kernel_rfl)⟩,(by as_aux_lemma=>kernel_rfl)⟩,(by as_aux_lemma=>kernel_rfl)⟩,(by as_aux_lemma=>kernel_rfl)⟩,(by as_aux_lemma=>kernel_rfl)⟩,(by as_aux_lemma=>kernel_rfl)⟩,Tryz.mayEnter⟩,(ZhJ Tryz.liftsFinal)⟩,(Zl5 Tryz.make)⟩,(by as_aux_lemma=>kernel_rfl)⟩,(by as_aux_lemma=>kernel_rfl)⟩,(by as_aux_lemma=>kernel_rfl)⟩,(by as_aux_lemma=>kernel_rfl)⟩
theorem FnLearnedTwice_holds:Rows.FnLearnedTwiceSaid :=
 OpenClaim.holds_of_wide 10 Tryz.f10 rfl rfl rfl rfl rfl rfl rfl ⟨rfl,rfl,rfl,rfl,rfl⟩ rfl rfl rfl rfl rfl (by kernel_rfl) Tryz.func10 ZvB
  (of_decide_eq_true (by kernel_rfl)) (by unfold Func.isWrapper;first|(rw [if_pos (by decide +kernel)];kernel_rfl)|(rw [if_neg (by decide +kernel)];exact ⟨rfl,rfl⟩))
  (fun os started H enc _=>ZvC os started H enc)
end Go.Proofs.YthfaongbpdnlnaaGreat
