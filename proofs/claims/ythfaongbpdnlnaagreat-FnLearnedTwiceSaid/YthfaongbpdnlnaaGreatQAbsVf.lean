/- What is proved: contracts on repairing what was wrong. Conditions: as each lemma says. -/
import Derived.Test.YthfaongbpdnlnaaGreatQPC
import Derived.Test.YthfaongbpdnlnaaGreatQV31
namespace Go.Proofs.YthfaongbpdnlnaaGreat
set_option maxHeartbeats 4000000
set_option maxRecDepth 20000
set_option linter.unusedSimpArgs false
set_option linter.unusedVariables false
open Go.RowKit Ab
structure Za8 {α:Type} [Inhabited α] (f:α→List T) (m:Nat) (xs:List α) (els:List (List T)) (k:Nat):Prop where
 le:k≤xs.length
 len:els.length=xs.length
 uni:∀ x ∈ els,x.length=m
 done:els.take k=(xs.take k).map f
theorem ZlI (t:List Int) (tick:Int):AC Tryz.prog 78 [.agg [.t (ints 3 t)],.t (.int .i64 tick)] (.t (.int .i64 (ZaD t tick))):=by
 have hok:=Zhu t
 by_cases h1:ZaH t=false∨tick < 0
 ·rw [show ZaD t tick=-1 from if_pos h1]
  refine AC.go Tryz.func78 Tryz.ntmps78 fun B W hr=>?_
  repeat' (first|refine pa ?_|(refine pb ?_ ?_<;>intro hg)|(refine z9 ?_;(refine Zaa hok ?_))|refine po ?_|fail)
  all_goals first
   | (refine pfin ?_;exact .inl rfl)
   | (exfalso;rcases h1 with h1|h1<;>simp_all<;>omega)
 ·have h2:ZaH t=true:=by cases h:ZaH t<;>simp_all
  have h3:0≤tick:=by omega
  rw [h2] at hok
  have h400:=Zei h2
  by_cases h4:tick < t.length
  ·rw [show ZaD t tick=t.getD tick.toNat default by rw [ZaD,if_neg h1,if_pos h4]]
   obtain ⟨m,rfl⟩:=Int.eq_ofNat_of_zero_le h3
   have hm:m < t.length:=by omega
   refine AC.go Tryz.func78 Tryz.ntmps78 fun B W hr=>?_
   repeat' (first|refine pa ?_|(refine pb ?_ ?_<;>intro hg)|(refine z9 ?_;(refine Zaa hok ?_))|refine po ?_|fail)
   exact pfr
  ·by_cases h5:t.length=0
   ·rw [show ZaD t tick=0 by rw [ZaD,if_neg h1,if_neg h4,if_pos h5]]
    refine AC.go Tryz.func78 Tryz.ntmps78 fun B W hr=>?_
    repeat' (first|refine pa ?_|(refine pb ?_ ?_<;>intro hg)|(refine z9 ?_;(refine Zaa hok ?_))|refine po ?_|fail)
    all_goals first
     | (refine pfin ?_;exact .inl rfl)
     | (exfalso;omega)
   ·obtain ⟨m,hm⟩:∃ m,t.length=m + 1:=⟨t.length - 1,by omega⟩
    have hat:=Zeh h2 (k:=m) (by omega)
    rw [show ZaD t tick=t.getD m default % 4 by rw [ZaD,if_neg h1,if_neg h4,if_neg h5,hm];rfl,← and_3n hat.1 hat.2]
    refine AC.go Tryz.func78 Tryz.ntmps78 fun B W hr=>?_
    repeat' (first|refine pa ?_|(refine pb ?_ ?_<;>intro hg)|(refine z9 ?_;(refine Zaa hok ?_))|refine po ?_|fail)
    all_goals try (exfalso;omega)
    have hget:(Zak t).getD (((t.length:Nat):Int) - 1).toNat []=[T.int .i64 (t.getD m default)]:=by
     rw [show (((t.length:Nat):Int) - 1).toNat=m by omega]
     exact getD_map (by omega)
    refine OpS.load_rptr (cs:=[T.int .i64 (t.getD m default)]) (off:=0) rfl (congrArg (fun c=>V.rptr c 0) hget) (Tryz.ti rfl) rfl ?_
    repeat' (first|refine pa ?_|(refine pb ?_ ?_<;>intro hg)|refine po ?_|fail)
    exact pfr
theorem Zn8 (ts:TS) (tick:Int):AC Tryz.prog 23 [.t (.lst false 46 (ts.map trackC)),.t (.int .i64 tick)] (.tup [.fr true 3 (Zak (rowV ts tick).1),.t (.bool (rowV ts tick).2)]):=by
 have hto:=ZeA ts
 by_cases h1:Zan ts=false∨tick < 0
 ·rw [show rowV ts tick=([],false) from if_pos h1]
  refine AC.go Tryz.func23 Tryz.ntmps23 fun B W hr=>?_
  repeat' (first|refine pa ?_|(refine pb ?_ ?_<;>intro hg)|(refine z9 ?_;(refine Zaa hto ?_))|refine po ?_|fail)
  all_goals first
   | (refine pfin ?_;(exact pgiv);done)
   | (exfalso;rcases h1 with h1|h1<;>simp_all<;>omega)
 ·have hok:Zan ts=true:=by cases h:Zan ts<;>simp_all
  have h3:0≤tick:=by omega
  have hkt:=ZdD ts
  rw [show rowV ts tick=(ts.map fun t=>ZaD t tick,decide (tick < Zbe ts)) by rw [ZjA hok];exact if_neg h1]
  rw [hok] at hto
  have hlen:=Zbi hok
  refine AC.go Tryz.func23 Tryz.ntmps23 fun B W hr=>?_
  repeat' (first|refine pa ?_|(refine pb ?_ ?_<;>intro hg)|(refine z9 ?_;(refine Zaa hto ?_))|refine po ?_|fail)
  refine aW.loopF rfl (fun q:Nat×Nat×List (List T)=>[(7,.t (.int .i64 (q.1:Nat))),(6,.hnd 8 q.2.1)]) [(1,_),(0,_)] (fun q=>[(8,q.2.1,.row true true 3 q.2.2)]) [] (fun q=>q.1≤ts.length∧q.2.2=Zak ((ts.take q.1).map fun t=>ZaD t tick)) (fun q=>ts.length - q.1) (0,1,[]) ⟨Nat.zero_le _,rfl⟩ (by (exact plei)) ?_
  rintro ⟨k,ep,els⟩ hI
  obtain ⟨hk,he⟩:k≤ts.length∧els=Zak ((ts.take k).map fun t=>ZaD t tick):=hI
  subst he
  have hel2:((ts.take k).map fun t=>ZaD t tick).length=k:=by rw [List.length_map,List.length_take];omega
  have hel:(Zak ((ts.take k).map fun t=>ZaD t tick)).length=k:=by rw [Zal,hel2]
  refine pln ?_
  by_cases hkn:k < ts.length
  ·have hp:=ZlI (ts.getD k default) tick
   repeat' (first|refine pa ?_|(refine pb ?_ ?_<;>intro hg)|(refine z9 ?_;(refine Zaa hp ?_))|refine po ?_|fail)
   exact ⟨(k + 1,ep + 1,_),⟨hkn,(ZjK hkn).symm⟩,by show ts.length - (k + 1) < ts.length - k;omega,by (exact ple)⟩
  ·have hk':k=ts.length:=by omega
   subst hk'
   rw [List.take_length]
   repeat' (first|refine pa ?_|(refine pb ?_ ?_<;>intro hg)|(refine z9 ?_;(refine Zaa hkt ?_))|refine po ?_|fail)
   exact pfg
theorem ZfJ {w:Wd} (h:ZaV w):w.level.length≤12∧w.scores.length≤4∧w.bodies.length≤24:=⟨h.level.n12,h.n.2,h.m.2⟩
theorem Zp3 {p:Pr} (h:Zic p):Zeq p:=by
 have t1:=Zbi h.tracks
 have hb:=ZfJ h.base
 have hn:=ZfJ h.now
 have hl:=h.lead
 have ha:=h.ahead
 have hu:=h.used
 have hs:=h.saves
 have hsu:=h.sums
 have hbt:=h.base.tick
 refine ⟨⟨by omega,fun k hk=>?_⟩,⟨by omega,by omega,by omega⟩,⟨by omega,by omega,by omega⟩,⟨by omega,fun k hk=>?_⟩,by omega,by omega⟩
 ·have:=Zei (ZfG h.tracks hk)
  omega
 ·have:=h.rows k hk
  unfold ZbD at this
  rw [Bool.and_eq_true,decide_eq_true_eq] at this
  omega
theorem ZrA (b n:Wd):(Zkl (Zbp b) (Zbp n)).length≤1048576:=by
 have h1:=ZgG (w:=n)
 have h2:=Zqv (ZbB (Zbp b) (Zbp n))
 have h3:=ZaA ((Zbp n).length:Int)
 rw [ZcL] at h2
 unfold Zkl
 rw [List.length_append]
 omega
theorem Zr8 {p:Pr} (h:Zc0 p) (t:Int) (w:Wd):Zc0 (ZhB p t w):=fun s hs=>h s (List.mem_of_mem_take hs)
theorem ZrP {p:Pr} (h:Zc0 p) (w:Wd):Zc0 (Zq1 p w):=fun s hs=>by
 rcases List.mem_append.1 hs with hs|hs
 ·exact h s hs
 ·rw [List.mem_singleton.1 hs]
  exact ZrA _ _
theorem ZqV {p:Pr} (h:Zc0 p) (w:Wd):Zc0 (ZrB p w):=fun s hs=>by
 have hs':s ∈ ZpL w (p.saves.drop 1):=hs
 match hx:p.saves.drop 1,hs' with
 | [],hs'=>cases hs'
 | a :: r,hs' =>
  rcases List.mem_cons.1 hs' with rfl|hs'
  ·exact ZrA _ _
  ·exact h s (List.mem_of_mem_drop (i:=1) (by rw [hx];exact List.mem_cons_of_mem _ hs'))
theorem ZrF {p q:Pr} {t:Int} (h:Zc0 p) (hr:Zcv p t=some q):Zc0 q:=by
 unfold Zcv at hr
 cases hs:Zbn p t with
 | none=>rw [hs] at hr;cases hr
 | some w =>
  rw [hs] at hr
  cases hr
  exact Zr8 h t w
theorem ZqX {p q:Pr} (h:Zc0 p) (ha:ZpB p=some q):Zc0 q:=by
 unfold ZpB at ha
 split at ha
 ·cases hl:Zr5 p with
  | none=>rw [hl] at ha;cases ha
  | some b =>
   rw [hl] at ha
   cases ha
   exact ZrP h b
 ·cases ha
def Zux (ts us:TS) (t:Int):Prop:=us.length=ts.length∧∀ k,k < ts.length→us.getD k default=ts.getD k default∨(t < ((ts.getD k default).length:Int)∧∃ s,us.getD k default=ts.getD k default++s)
def Ext (ts us:TS):Prop:=us.length=ts.length∧∀ k,k < ts.length→∃ s,us.getD k default=ts.getD k default++s
structure Kept (p q:Pr):Prop where
 base:q.base=p.base
 tracks:q.tracks=p.tracks
 me:q.me=p.me
 delay:q.delay=p.delay
 ahead:q.ahead=p.ahead
 seed:q.seed=p.seed
 sums:q.sums=p.sums
 ft:q.ft=p.ft
 fp:q.fp=p.fp
 fa:q.fa=p.fa
structure Zno (p q:Pr):Prop where
 now:q.now=p.now
 tracks:q.tracks=p.tracks
 rolls:q.rolls=p.rolls
 again:q.again=p.again
 me:q.me=p.me
 ahead:q.ahead=p.ahead
 delay:q.delay=p.delay
 seed:q.seed=p.seed
 ft:q.ft=p.ft
 fp:q.fp=p.fp
 fa:q.fa=p.fa
def Zn9 (sc:List Int) (p:Nat) (d:Int):List Int:=sc.set p (sc.getD p default + d)
def UpTo (sc:List Int) (m:Int):Prop:=∀ k,k < sc.length→sc.getD k default≤m
def Hs.add (s:Hs) (p:Nat) (d:Int):Hs:={ s with sc:=Zn9 s.sc p d }
def Wd.add (w:Wd) (p:Nat) (d:Int):Wd:={ w with scores:=Zn9 w.scores p d }
theorem Zee {w:Wd} (h:ZaV w):w.level.length≤1048576∧w.scores.length≤1048576∧w.bodies.length≤1048576:=by
 have:=ZfJ h
 omega
theorem ZnN (p:Pr) (t:Int) (hp:Zeq p):Zeq ((Zcv p t).getD p):=by
 unfold Zcv
 cases h:Zbn p t with
 | none=>exact hp
 | some w=>exact Zp3 (Zme h)
theorem Zrg (p:Pr) (hp:Zeq p):Zeq ((ZpB p).getD p):=by
 cases h:ZpB p with
 | none=>exact hp
 | some q=>exact Zp3 (Zqr h).1
theorem ZrR (p:Pr) (hp:Zeq p):Zeq ((Zqk p).getD p):=by
 cases h:Zqk p with
 | none=>exact hp
 | some q=>exact Zp3 (Zr6 h).1
theorem Zm0 {p:Pr} {t:Int} {w:Wd} (h:Zbn p t=some w):Zcv p t=some (ZhB p t w):=by
 unfold Zcv
 rw [h]
 rfl
theorem ZoU {p:Pr} {t:Int} (h:Zbn p t=none):Zcv p t=none:=by
 unfold Zcv
 rw [h]
 rfl
theorem Zrr {t:Int} {q r:Pr} (h:q.now.tick < t) (ha:ZpB q=some r):Zqm (t - q.now.tick).toNat t q=Zqm (t - r.now.tick).toNat t r:=by
 obtain ⟨_,a2,_⟩:=Zqr ha
 obtain ⟨f,hf⟩:∃ f,(t - q.now.tick).toNat=f + 1:=⟨(t - q.now.tick).toNat - 1,by omega⟩
 have hr:(t - r.now.tick).toNat=f:=by omega
 rw [hf,hr]
 show (if q.now.tick < t then (ZpB q).bind (Zqm f t) else some q)=_
 rw [if_pos h,ha]
 rfl
theorem Zrq {t:Int} {q:Pr} (h:q.now.tick < t) (ha:ZpB q=none):Zqm (t - q.now.tick).toNat t q=none:=by
 obtain ⟨f,hf⟩:∃ f,(t - q.now.tick).toNat=f + 1:=⟨(t - q.now.tick).toNat - 1,by omega⟩
 rw [hf]
 show (if q.now.tick < t then (ZpB q).bind (Zqm f t) else some q)=_
 rw [if_pos h,ha]
 rfl
theorem Zrp {t:Int} {q:Pr} (h:¬ q.now.tick < t):Zqm (t - q.now.tick).toNat t q=some q:=by
 have hf:(t - q.now.tick).toNat=0:=by omega
 rw [hf]
 rfl
theorem ZrD {p:Pr} (h:¬ Zb9 p=true):Zqk p=none:=if_neg h
theorem Zrj {p:Pr} (h:Zb9 p=true) (hw:ZdR p < 0):Zqk p=some p:=by
 unfold Zqk
 rw [if_pos h,if_pos hw]
theorem Zq3 {p:Pr} (h:Zb9 p=true) (hw:¬ ZdR p < 0) (hr:Zcv p (ZdR p)=none):Zqk p=none:=by
 unfold Zqk
 rw [if_pos h,if_neg hw,hr]
 rfl
theorem Zq2 {p q:Pr} (h:Zb9 p=true) (hw:¬ ZdR p < 0) (hr:Zcv p (ZdR p)=some q):Zqk p=(Zqm (p.now.tick - q.now.tick).toNat p.now.tick q).map (ZpG p):=by
 unfold Zqk
 rw [if_pos h,if_neg hw,hr]
 rfl
theorem ZrE {p q:Pr} {t:Int} (h:Zcv p t=some q):Zic q∧q.rolls=p.rolls∧q.again=p.again∧q.tracks=p.tracks∧q.base=p.base:=by
 unfold Zcv at h
 cases hs:Zbn p t with
 | none=>rw [hs] at h;cases h
 | some w =>
  rw [hs] at h
  cases h
  exact ⟨Zme hs,rfl,rfl,rfl,rfl⟩
theorem ZqD {q r:Pr} (hq:Zic q) (h:ZpE q=some r):Zki (q.now.tick - q.base.tick).toNat q=Zki (r.now.tick - r.base.tick).toNat r:=by
 obtain ⟨_,h2,h3,_,h5⟩:=Zqp hq h
 obtain ⟨f,hf⟩:∃ f,(q.now.tick - q.base.tick).toNat=f + 1:=⟨(q.now.tick - q.base.tick).toNat - 1,by have:=h5.1;omega⟩
 have hr:(r.now.tick - r.base.tick).toNat=f:=by rw [h2,h3];omega
 rw [hf,hr]
 show (match ZpE q with|some q=>Zki f q|none=>q)=_
 rw [h]
theorem Zqu {q:Pr} (h:ZpE q=none):Zki (q.now.tick - q.base.tick).toNat q=q:=by
 cases (q.now.tick - q.base.tick).toNat with
 | zero=>rfl
 | succ f =>
  show (match ZpE q with|some q=>Zki f q|none=>q)=_
  rw [h]
theorem Zrh {q:Pr} (h:¬ ZqE q):ZpE q=none:=if_neg h
theorem Zri {q:Pr} (h:ZqE q):ZpE q=(ZqN q).map (ZrB q):=if_pos h
theorem ZqL {q:Pr} (h:ZqE q) (hn:ZqN q=none):ZpE q=none:=by rw [Zri h,hn];rfl
theorem Zql {q:Pr} {w:Wd} (h:ZqE q) (hn:ZqN q=some w):ZpE q=some (ZrB q w):=by rw [Zri h,hn];rfl
theorem Zqw {X Y:Prop} (h:Y) (r:Hld Y→X:=by intro h;exact pdr [3] 8 (by (apply pct 8 255 0;(focus (intro hd2;(apply pct 8 31 3;(focus (intro hd1;(refine ZaC 0 ?_<;>refine pt7_ 1 ?_<;>refine pt0_ 2 ?_<;>refine pt0_ 3 ?_<;>(refine pq1 4 ?_;(focus ((refine pop ?_;(refine z9 ?_;(refine Zaa hdt ?_)))<;>(exact ptm hd1)))))));(case main=>(refine Za7 5 ?_<;>refine ZaC 6 ?_<;>(refine pq1 7 ?_;(focus ((refine pop ?_;refine pk8 ?_)<;>(exact ptm hd2)))))))));(case main=>((refine ZaI ?_;exact ZaJ))))) h.out):X:=r ⟨h⟩
def Zqi (p:Pr) (b:Wd) (us:TS) (sv:List Sv) (sm:List Int):Pr:={ p with base:=b,used:=us,saves:=sv,sums:=sm }
theorem ZqJ (p:Pr) (b w:Wd) (us:TS) (sv:List Sv) (sm:List Int):ZrB (Zqi p b us sv sm) w=Zqi p w (us.drop 1) (ZpL w (sv.drop 1)) (sm++[Zgm w]):=rfl
theorem ZqU {α:Type} (xs:List α) {n:Nat} (h:n=xs.length):List.take (((n:Nat):Int).toNat - (1:Int).toNat) (List.drop (1:Int).toNat xs)=xs.drop 1:=by
 subst h
 rw [Int.toNat_natCast]
 exact List.take_of_length_le (by rw [List.length_drop];exact Nat.le_refl _)
end Go.Proofs.YthfaongbpdnlnaaGreat
namespace Go.Proofs.YthfaongbpdnlnaaGreat.Ab
set_option maxHeartbeats 4000000
set_option maxRecDepth 20000
set_option linter.unusedSimpArgs false
set_option linter.unusedVariables false
open Go.RowKit Go.Lib
section
variable {P:Program} {B:Nat→Prop} {W:En} {st:St} {o:Oper} {KE:V→List (Nat×Nat×Ob)→Prop}
theorem OpS.lit_hole {t:TypeId} {parts:Array (Nat×Operand)} {x:Operand} {y ye:Ty} {e eb site ep j ej e':Nat} {zs:List V} {flx dx:Bool} {elsx:List (List T)}
  (ho:o.op=.buildSlice t 1 parts) (hd:o.dst=some site) (hparts:parts.toList=[(0,x)]) (hy:Zac P t=some y) (hk:y.k=.slice e 1 eb) (hye:Zac P e=some ye) (hz:ye.zero=some zs) (hzl:zs.length=1)
  (hx:st.ev x=.hnd j ej) (hl:look st.objs j=some (ej,.row flx dx e' elsx)) (hep:nep (look st.objs site)=ep) (hK:KE (.hnd site ep) [(site,ep,.hole e [[.lst flx e' elsx]] 0 (.hnd j ej))]):OpS P B W o st KE:=by
 subst hep
 obtain ⟨ht,hes',heb⟩:=ZaM hy hk
 obtain ⟨de,i,hue,hi,_,hsz,hby,hzero⟩:=Zaw hye
 have hsi:i.size=1:=by rw [← hes'];simp [Program.cellsOf,hi]
 rw [hz] at hzero
 obtain ⟨z,hz1,hz2⟩:=Option.map_eq_some_iff.1 hzero.symm
 have hzs:z.cells.size=1:=by rw [← hzl,← hz2];simp
 refine OpS.chg (ks:=[]) (i:=site) (ep:=nep (look st.objs site)) hK (fun x e h=>by cases h) fun a w pl F hs=>?_
 have hev:C0 P w (look st.objs) pl (Free B W.o (look st.objs) F w) (.hnd j ej) (a.eval x):=by
  have:=hs.ev x
  rw [hx] at this
  exact this
 have hone:(a.eval x).oneCell'=true:=hev.1
 have hc1:(a.eval x).cells=#[a.eval x]:=Zkh hone
 have hfill:=Great.fill_whole (s:=i.size) (by omega) ([x].map a.eval) ((Array.range (1 * i.size)).map (z.cells[· % z.cells.size]!)) (fun v hv=>by rw [show v=a.eval x from List.mem_singleton.1 hv,hc1,hsi];rfl) (by simp)
 have hpl:(parts.map fun x=>(x.1,a.eval x.2)).toList=(([x].map a.eval).zipIdx 0).map fun p=>(p.2,p.1):=by
  rw [Array.toList_map,hparts]
  rfl
 have hu1:([x].map a.eval).flatMap (fun v=>v.cells.toList)=[a.eval x]:=by simp [hc1]
 rw [← hpl,hu1] at hfill
 have hexec:(execOp a.eval o).run P w=.ok (.value (.slice (some ⟨w.heap.size,0,none⟩) 1 1)) (w.alloc (.cells [a.eval x].toArray e)):=by
  unfold execOp
  rw [ho]
  refine Zap ?_
  exact run_buildSlice w t e 1 _ [a.eval x].toArray i z ht hi hz1 (by rw [hsi];omega) (by rw [hsi];decide) hfill
 have hown:ZbZ (w.alloc (.cells [a.eval x].toArray e)) e (P.cellsOf e) (.slice (some ⟨w.heap.size,0,none⟩) 1 1) 1 [a.eval x]:=by
  rw [hes']
  exact ⟨rfl,.inr ⟨w.heap.size,0,1,[a.eval x].toArray,(0,0),rfl,heap_alloc_new w _,.inl rfl,Nat.le_refl _,by decide,by simp,by simp⟩⟩
 refine ⟨_,_,.slice (some ⟨w.heap.size,0,none⟩) 1 1,fun b=>b=w.heap.size,_,hexec,.inl rfl,Zoe hs.below _,fun b hb _=>Below.heap_alloc w _ b hb,fun ep0 ob0 h0=>.inl (ZgQ h0),fun _=>ZeH _,fun b hb=>.inl (by subst hb;simp),fun lk' pl' Fr' g _ h1 h2=>⟨⟨[a.eval x],fun _ _=>False,hown,?_,rfl,?_,?_,fun _ _ _ _ _ _ h=>h.elim,fun _ _ _ h=>h.elim,?_,Nat.zero_lt_succ _⟩,rfl,_,_,h1,Nat.le_refl _,fun _=>⟨rfl,h2.symm⟩⟩⟩
 ·intro l hl
  rw [List.mem_singleton.1 hl,hes']
  rfl
 ·intro k y u hk hy
  have:k=0:=by
   have:=(List.getElem?_eq_some_iff.1 hy).1
   simp at this
   exact this
  exact absurd this hk
 ·intro u hu
  have:a.eval x=u:=by simpa using hu
  rw [← this]
  exact C0.goes g hev
 ·intro b
  constructor
  ·intro hb
   subst hb
   exact .inl rfl
  ·intro hb
   rcases hb with hb|⟨k,_,hb⟩
   ·have:w.heap.size=b:=by simpa [Value.ownBlock] using hb
    exact this.symm
   ·exact hb.elim
theorem OpS.append_hole {s x:Operand} {c:Call} {t xt e e0 eb i ep j ej jx ejx:Nat} {y yx ye:Ty} {zs:List V} {els0:List (List T)} {fl0:Bool} {tx:T} (ho:o.op=.call c) (h1:c.callee=.builtin .append) (h2:c.args=#[s,x]) (h3:c.argTypes=#[t,xt])
  (hy:Zac P t=some y) (hk:y.k=.slice e 1 eb) (hyx:Zac P xt=some yx) (hkx:yx.k=.str∨∃ a b c,yx.k=.slice a b c) (hye:Zac P e=some ye) (hz:ye.zero=some zs) (hzl:zs.length=1) (hs:st.ev s=.hnd i ep) (hl:look st.objs i=some (ep,.row fl0 true e0 els0)) (he:e0=e)
  (hx:st.ev x=.hnd j ej) (hlj:look st.objs j=some (ej,.hole e [[tx]] 0 (.hnd jx ejx))) (hfit:fits els0.length 1 eb)
  (hK:KE (.hnd i (ep + 1)) [(i,ep + 1,.hole e (els0++[[tx]]) els0.length (.hnd jx ejx))]):OpS P B W o st KE:=by
 subst he
 obtain ⟨ht,hes',heb⟩:=ZaM hy hk
 refine OpS.chg (ks:=[]) (i:=i) (ep:=ep + 1) hK (fun x e h=>by cases h) fun a w pl F h=>?_
 obtain ⟨g1,us0,hp⟩:=h.hnd_at hs hl
 have hown:=hp.own
 rw [hes'] at hown
 obtain ⟨usx,fsx,x1,x2,x3,x4,x5,x6,x7,x8,x9⟩:=h.objs j _ _ hlj
 have hux:usx.length=1:=x3.symm
 obtain ⟨u0,rfl⟩:∃ u0,usx=[u0]:=by
  match usx,hux with
  | [u0],_=>exact ⟨u0,rfl⟩
 have hu0:=x5 u0 rfl
 have hev:a.eval x=pl j:=by
  have h4:=h.ev x
  rw [hx] at h4
  obtain ⟨_,e1,ob1,h5,h6,h7⟩:C0 P w (look st.objs) pl (Free B W.o (look st.objs) F w) (.hnd j ej) (a.eval x):=h4
  rw [hlj] at h5
  cases h5
  exact (h7 rfl).2
 obtain ⟨A,cx,y1,y2,y3,y4⟩:=Zbm x1
 have hm:Mem w (fun _=>True) A [u0]:=fun hn=>by
  obtain ⟨g,off,rfl,_,_,h6⟩:=y4 hn
  exact ⟨_,rfl,trivial,fun k u hk=>by rw [ZaS];exact h6 k u hk⟩
 have q1:(Builtin.lenOf (a.eval x)).run P w=.ok 1 w:=by rw [hev,y1];rfl
 have q2:∀ k,(Builtin.firstCells 1 1 (a.eval x)).run P (w.drewN k)=.ok [u0].toArray (w.drewN k):=fun k=>by rw [hev,y1];exact ZcO hm rfl k
 have hN:W.heap.size≤w.heap.size:=h.below.size
 obtain ⟨v',w',r1,r2,r3,r4⟩:=ZgR (P:=P) w (ty:=o.type) hy hk hyx hkx hye hz hzl hown q1 q2 (by rfl) (fun u hu=>by rw [List.mem_singleton.1 hu];exact hu0.1) (by have:=hfit.2;simp only [maxLen];omega) hfit.1
 have hlt:∀ b,F i b→W.o b∧b < w.heap.size:=fun b hb=>h.range i _ b hl hb
 have htop:∀ b,v'.ownBlock=some b→(pl i).ownBlock=some b∨(b=w.heap.size∧w.heap.size < w'.heap.size):=fun b hb=>by
  rcases r4 with r4|⟨r4,r5⟩
  ·exact .inl (by rw [← r4];exact hb)
  ·rw [r4] at hb;cases hb;exact .inr ⟨rfl,r5⟩
 have hkeep:∀ b,b < w.heap.size→(pl i).ownBlock ≠ some b→w'.heap[b]?=w.heap[b]?:=fun b hb hne=>r3.block b hb fun e=>hne e.symm
 have hone:v'.oneCell'=true:=by obtain ⟨A,c,rfl,_⟩:=Zbm r2;rfl
 have hn0:els0.flatten.length=els0.length:=by rw [ZaE hp.uni,hes',Nat.mul_one]
 have hn1:us0.length=els0.length:=by rw [← hp.len,hn0]
 have hfu:(els0++[[tx]]).flatten=els0.flatten++[tx]:=by simp
 have hul:∀ x ∈ els0++[[tx]],x.length=P.cellsOf e0:=fun x hx=>by
  rcases List.mem_append.1 hx with hx|hx
  ·exact hp.uni x hx
  ·rw [List.mem_singleton.1 hx,hes'];rfl
 have hll:(els0++[[tx]]).flatten.length=(us0++[u0]).length:=by rw [hfu,List.length_append,List.length_append,hp.len];rfl
 have hown':ZbZ w' e0 (P.cellsOf e0) v' (els0++[[tx]]).length (us0++[u0]):=by rw [hes',List.length_append];exact r2
 have hbel:Kp W w w':=⟨r3.os,r3.tape,r3.output,r3.size,fun k hk=>by
  by_cases hkw:k < w.heap.size
  ·exact r3.block k hkw fun e=>hk (hlt k (hp.top k e.symm)).1
  ·exact absurd (.inl (Nat.le_trans hN (Nat.le_of_not_lt hkw))) hk⟩
 have hch:∀ b,b < w.heap.size→(∀ x,look st.objs i=some x→¬ F i b)→w'.heap[b]?=w.heap[b]?:=fun b hb hf=>hkeep b hb fun ht'=>hf _ hl (hp.top b ht')
 rcases h.objs i _ _ hl with ⟨_,h5⟩|⟨h5,_⟩
 case inr=>cases h5
 generalize hpl:pl i=vi at *
 cases h5 with
 | flat hf=>cases hf
 | lst us1 fs s1 s2 s3 s4 s5 s6 s7 s8 =>
 have hus:us1=us0:=s1.uniq hp.own
 subst hus
 have hFi:∀ k b,fs k b→F i b:=fun k b hb=>(s8 b).2 (.inr ⟨k,hb⟩)
 let fsA:Nat→Nat→Prop:=fun k b=>k < els0.length∧fs k b
 have hnt:∀ k b,fsA k b→v'.ownBlock ≠ some b:=fun k b hb ht'=>by
  rcases htop b ht' with h6|⟨h6,_⟩
  ·exact s7 k b hb.2 h6
  ·subst h6
   exact absurd (hlt _ (hFi k _ hb.2)).2 (Nat.lt_irrefl _)
 refine ⟨_,w',v',fun b=>v'.ownBlock=some b∨∃ k,k ≠ els0.length∧fsA k b,v',Zfw ho h1 h2 h3 (by rw [g1];exact r1),.inl rfl,hbel,hch,fun ep0 ob0 h0=>.inl (by rw [hl] at h0;cases h0;omega),fun _=>Nat.succ_pos _,fun b hb=>?_,fun lk' pl' Fr' g hg e1 e2=>⟨?_,hone,_,_,e1,Nat.le_refl _,fun _=>⟨rfl,e2.symm⟩⟩⟩
 ·rcases hb with hb|⟨k,_,hb⟩
  ·rcases htop b hb with h6|⟨h6,h7⟩
   ·exact .inr (.inl ⟨_,hl,hp.top b h6⟩)
   ·exact .inl (by omega)
  ·exact .inr (.inl ⟨_,hl,hFi k b hb.2⟩)
 ·refine ⟨us1++[u0],fsA,hown',hul,hll,fun k x u hne hx hu=>?_,fun u hu=>?_,fun k k' b hne _ _ hb hb'=>s6 k k' b hne hb.2 hb'.2,fun k b _ hb=>hnt k b hb,fun b=>Iff.rfl,by rw [List.length_append,hn1];exact Nat.lt_succ_self _⟩
  ·have hkl:k < els0.length:=by
    have:=(List.getElem?_eq_some_iff.1 hu).1
    rw [List.length_append,hn1] at this
    simp at this
    omega
   rw [hfu,List.getElem?_append_left (by rw [hn0];exact hkl)] at hx
   rw [List.getElem?_append_left (by rw [hn1];exact hkl)] at hu
   have hk5:=(s5 k x u hx hu).keep fun b hb=>hkeep b (hlt b (hFi k b hb)).2 (s7 k b hb)
   have e3:fsA k=fs k:=by
    funext b
    exact propext ⟨fun h=>h.2,fun h=>⟨hkl,h⟩⟩
   rw [e3]
   exact hk5
  ·rw [List.getElem?_append_right (by rw [hn1];exact Nat.le_refl _),hn1,Nat.sub_self] at hu
   have:u0=u:=by simpa using hu
   rw [← this]
   exact C0.goes g hu0
end
end Go.Proofs.YthfaongbpdnlnaaGreat.Ab
namespace Go.Proofs.YthfaongbpdnlnaaGreat
set_option maxHeartbeats 4000000
set_option maxRecDepth 20000
set_option linter.unusedSimpArgs false
set_option linter.unusedVariables false
open Go.RowKit Ab
def advS (f:FuncId) (p v:Pr) (b:Bool):Prop:=AC Tryz.prog f [.agg [.t (.int .i64 p.me),.t (.int .i64 p.delay),.t (.int .i64 p.ahead),.t (.int .i64 p.seed),.t (.lst false 46 (p.tracks.map trackC)),.t (.lst true 9 (Zai p.base.level)),.t (.int .i64 p.base.tick),.t (.int .i64 p.base.seed),.t (ints 3 p.base.scores),.t (.lst true 114 (p.base.bodies.map bodyC)),.t (.lst true 9 (Zai p.now.level)),.t (.int .i64 p.now.tick),.t (.int .i64 p.now.seed),.t (ints 3 p.now.scores),.t (.lst true 114 (p.now.bodies.map bodyC)),.t (.lst false 27 (p.used.map trackC)),.t (.lst true 100 (p.saves.map saveC)),.t (ints 3 p.sums),.t (.int .i64 p.ft),.t (.int .i64 p.fp),.t (.int .i64 p.fa),.t (.int .i64 p.rolls),.t (.int .i64 p.again)]] (.tup [.agg [.t (.int .i64 v.me),.t (.int .i64 v.delay),.t (.int .i64 v.ahead),.t (.int .i64 v.seed),.fr false 46 (v.tracks.map trackC),.fr true 9 (Zai v.base.level),.t (.int .i64 v.base.tick),.t (.int .i64 v.base.seed),.fr true 3 (Zak v.base.scores),.fr true 114 (v.base.bodies.map bodyC),.fr true 9 (Zai v.now.level),.t (.int .i64 v.now.tick),.t (.int .i64 v.now.seed),.fr true 3 (Zak v.now.scores),.fr true 114 (v.now.bodies.map bodyC),.fr false 27 (v.used.map trackC),.fr true 100 (v.saves.map saveC),.fr true 3 (Zak v.sums),.t (.int .i64 v.ft),.t (.int .i64 v.fp),.t (.int .i64 v.fa),.t (.int .i64 v.rolls),.t (.int .i64 v.again)],.t (.bool b)])
theorem Zro {p:Pr} (h:¬ ZnB p=true):ZpB p=none:=if_neg h
theorem ZqK {p:Pr} (h:ZnB p=true) (h0:p.saves.length=0):ZpB p=some (Zq1 p p.base):=by
 unfold ZpB Zr5
 rw [if_pos h,if_pos h0]
 rfl
theorem Zqq {p:Pr} {o:Option Wd} (h:ZnB p=true) (h0:p.saves.length ≠ 0) (hs:Zbn p (p.saves.getD (p.saves.length - 1) default).1=o):ZpB p=o.map (Zq1 p):=by
 unfold ZpB Zr5
 rw [if_pos h,if_neg h0,hs]
theorem ZqM {els:List (List T)} {n:Nat} {x:T} (hn:els.length=n):els++[[x]]=(els++[[x]]).set n (((els++[[x]]).getD n []).set 0 x):=by
 subst hn
 rw [List.set_append_right _ _ (Nat.le_refl _),Nat.sub_self,List.getD_eq_getElem?_getD,List.getElem?_append_right (Nat.le_refl _),Nat.sub_self]
 rfl
theorem Zrk {p q:Pr} {t:Int} (hp:Zeq p) (h:Zcv p t=some q):Zeq q:=by
 have:=ZnN p t hp
 rwa [h] at this
theorem ZqY {p q:Pr} (hp:Zeq p) (h:ZpB p=some q):Zeq q:=by
 have:=Zrg p hp
 rwa [h] at this
end Go.Proofs.YthfaongbpdnlnaaGreat
