/- What is proved: the contract on a tick of a world, the program's.
   Conditions: the lists are of a length that can be walked. -/
import Derived.Test.YthfaongbpdnlnaaGreatT79
import Derived.Test.YthfaongbpdnlnaaGreatT88
namespace Go.Proofs.YthfaongbpdnlnaaGreat
set_option maxHeartbeats 4000000
set_option maxRecDepth 20000
set_option linter.unusedSimpArgs false
set_option linter.unusedVariables false
open Go.RowKit Ab
theorem ZdM {P:Nat→Prop} {q:Nat} (h:∀ k,k < q→P k) (hq:P q):∀ k,k < q + 1→P k:=fun k hk=>by
 by_cases e:k=q
 ·rw [e];exact hq
 ·exact h k (by omega)
theorem Zk1 {row:List Int} {n:Nat} (h:ZbD row n=true):row.length=n∧∀ k,k < n→0≤row.getD k default∧row.getD k default≤15:=by
 rw [ZjJ,Bool.and_eq_true,decide_eq_true_eq] at h
 refine ⟨h.1,fun k hk=>?_⟩
 have:=List.all_eq_true.1 h.2 _ (Zdi (xs:=row) (k:=k) (by omega))
 exact Zae.1 this
theorem ZdA {w:Wd} {row:List Int} (h:¬ (ZaV w∧w.tick ≠ 100000∧ZbD row w.scores.length=true)):ZbY w row=w:=if_neg h
theorem ZdZ {w:Wd} {row:List Int} (h:ZaV w) (ht:w.tick ≠ 100000) (hr:ZbD row w.scores.length=true):ZbY w row=goV w row:=if_pos ⟨h,ht,hr⟩
theorem Ze8 {l:Lv} {t s:Int} {sc:List Int} {bs:List Bd} (h:t % 16 ≠ 0∨Zay l=[]∨24≤bs.length):Zdl l t s sc bs=⟨l,t,s,sc,bs⟩:=if_pos h
theorem Zk9 {l:Lv} {t s:Int} {sc:List Int} {bs:List Bd} (h:¬ (t % 16 ≠ 0∨Zay l=[]∨24≤bs.length)) {m:Nat} (hm:(Zaj s (Zay l).length).2=m) {q:Nat} (hq:q < bs.length) (hl:lies (((Zay l).getD m default).getD 0 default) (((Zay l).getD m default).getD 1 default) (bs.getD q default)=true):Zdl l t s sc bs=⟨l,t,(Zaj s (Zay l).length).1,sc,bs⟩:=by
 unfold Zdl
 rw [if_neg h,if_pos]
 unfold Zdm
 rw [hm,Int.toNat_natCast]
 exact List.any_eq_true.2 ⟨_,Zdi hq,hl⟩
theorem Zk8 {l:Lv} {t s:Int} {sc:List Int} {bs:List Bd} (h:¬ (t % 16 ≠ 0∨Zay l=[]∨24≤bs.length)) {m:Nat} (hm:(Zaj s (Zay l).length).2=m) (hl:∀ q,q < bs.length→lies (((Zay l).getD m default).getD 0 default) (((Zay l).getD m default).getD 1 default) (bs.getD q default)=false):Zdl l t s sc bs=⟨l,t,(Zaj s (Zay l).length).1,sc,bs++[⟨2,0,((Zay l).getD m default).getD 0 default,((Zay l).getD m default).getD 1 default,0,0,0,0,0⟩]⟩:=by
 unfold Zdl
 rw [if_neg h,if_neg]
 ·unfold Zdm
  rw [hm,Int.toNat_natCast]
 ·unfold Zdm
  rw [hm,Int.toNat_natCast]
  intro ha
  obtain ⟨b,hb,hb2⟩:=List.any_eq_true.1 ha
  obtain ⟨q,hq,rfl⟩:=List.getElem_of_mem hb
  have h1:=hl q hq
  have h2:bs.getD q default=bs[q]:=by rw [List.getD_eq_getElem?_getD,List.getElem?_eq_getElem hq];rfl
  rw [h2,hb2] at h1
  cases h1
theorem Zgr (w v:Wd) (row:List Int) (hv:v=ZbY w row) (h:ZaV w) (ht:w.tick ≠ 100000) (hr:ZbD row w.scores.length=true):AC Tryz.prog 157 [.agg [.t (.lst true 9 (Zai w.level)),.t (.int .i64 w.tick),.t (.int .i64 w.seed),.t (ints 3 w.scores),.t (.lst true 114 (w.bodies.map bodyC))],.t (ints 3 row)] (.agg [.fr true 9 (Zai v.level),.t (.int .i64 v.tick),.t (.int .i64 v.seed),.fr true 3 (Zak v.scores),.fr true 114 (v.bodies.map bodyC)]):=by
 obtain ⟨hrl,hri⟩:=Zk1 hr
 have hn:=h.n;have hm:=h.m;have htk:=h.tick;have hsd:=h.seed;have hl:=h.level;have hl12:=h.level.n12
 obtain ⟨hps,hrs⟩:=ZfK h
 have hcw:=Zc1 w (by omega) (by omega) (by omega)
 have hwo:AC Tryz.prog 85 [.agg [.t (.lst true 9 (Zai w.level)),.t (.int .i64 w.tick),.t (.int .i64 w.seed),.t (ints 3 w.scores),.t (.lst true 114 (w.bodies.map bodyC))]] (.t (.bool (ZaW w))):=Zcg w.level w.tick w.seed w.scores w.bodies
 rw [Zax.2 h] at hwo
 have hro:=Zhk row w.scores.length
 rw [hr] at hro
 have hbs:w.bodies=w.bodies.take w.scores.length++w.bodies.drop w.scores.length:=(List.take_append_drop _ _).symm
 have c1:=Zhm w.level w.tick w.seed w.scores row (w.bodies.take w.scores.length,w.bodies.drop w.scores.length) hl hn hps hrs (by show (w.bodies.take _).length + (w.bodies.drop _).length≤24;rw [List.length_take,List.length_drop];omega) hrl hri
 rw [show ((w.bodies.take w.scores.length,w.bodies.drop w.scores.length):List Bd×List Bd).1++((w.bodies.take w.scores.length,w.bodies.drop w.scores.length):List Bd×List Bd).2=w.bodies from hbs.symm] at c1
 obtain ⟨p1,p2,p3⟩:=Zo6 row h
 have c2:=Zi6 w.level w.tick w.seed w.scores ((st1 w row).1++(st1 w row).2) w.scores.length hl (by rw [List.length_append];exact p3) (fun k hk=>by
  rw [List.length_append] at hk
  by_cases hk2:k < (st1 w row).1.length
  ·rw [Zbt hk2];exact p1.ok k (by rw [← p1.len];exact hk2)
  ·rw [Zd5,if_neg hk2];exact (p2.at (by omega)).1)
 rw [(ZjE p1 p2).1] at c2
 obtain ⟨q1,q2,q3⟩:=Zo7 row h
 have c3:=Zi7 w.level w.tick w.seed w.scores (st2 w row).1 (st2 w row).2 hl hn ⟨q1,⟨rfl,h.scores⟩,RsOk.nil⟩ q2 q3
 obtain ⟨r1,r2⟩:=Zo8 row h
 have r3:=r1.sc.1
 have c4:=Zi5 w.level w.tick w.seed (st3 w row).sc (st3 w row).ps (st3 w row).left hl (by rw [r3];exact hn) (by rw [r3];exact ⟨r1.ps,r1.sc,RsOk.nil⟩) (by rw [r3];exact r1.rs) r2
 obtain ⟨s1,s2⟩:=Zm8 row h
 have hps4:(st4 w row).ps=(st3 w row).ps:=Zf1
 have hnr:=ZdC w.seed
 have hnr2:=Zb1 w.seed
 have hsp:=Zlp w.level hl
 have hrb:=Zhh (Zaz w.seed) (Zay w.level).length
 have hspl:=Zla hl
 have hmod:(w.tick + 1).tmod 16=(w.tick + 1) % 16:=Int.tmod_eq_emod_of_nonneg (by omega)
 have hgo:ZbY w row=Zdl w.level (w.tick + 1) (Zaz w.seed) (st4 w row).sc ((st4 w row).ps++(st4 w row).left):=ZdZ h ht hr
 refine AC.go Tryz.func157 Tryz.ntmps157 fun B W hr=>?_
 repeat' (first|(refine pth ?_)|((fail_if_success (with_reducible show aW _ _ _ (Code.seq (Code.seq (Code.region 8 _ _) _) _) _ _));(fail_if_success (with_reducible show aW _ _ _ (Code.seq (Code.region 8 _ _) _) _ _));(fail_if_success (with_reducible show aW _ _ _ (Code.region 8 _ _) _ _));(first|refine pc ?_|(refine pbc ?_ ?_<;>intro hg)))|(first|refine pl ?_|(refine pbl ?_ ?_<;>intro hg))|(first|(refine Zab (n:=20) ?_;(first|refine Zaa hwo ?_|refine Zaa hro ?_|refine pz3 hcw ?_|(refine Zp4 (m:=[(0,_,_),(1,_,_),(2,_,_),(3,_,_)]) (c1) (fun x hx=>?_);refine pmk ?_)|(refine Zp4 (m:=[(0,_,_),(1,_,_),(2,_,_),(3,_,_),(500,7005,0)]) (c2) (fun y hy=>?_);refine pmk ?_)|refine Zca (m:=[(0,_,_),(1,_,_),(2,_,_),(3,_,_)]) (c3) ?_|refine Zca (m:=[(0,_,_),(1,_,_),(2,_,_),(3,_,_)]) (c4) ?_))|refine po ?_)|fail)
 refine aW.reF rfl [] [(5,_),(4,_),(2,_),(1,_)] [(5,1,.box 30 [.hnd 14000 1,.t (.int .i64 w.tick),.t (.int .i64 w.seed),.hnd 14003 1,.hnd 7005 _]),(14003,1,.row true true 3 (Zak (st4 w row).sc)),(7005,_,.row true true 114 (List.map bodyC ((st3 w row).ps++(st4 w row).left)))] [(2,_,_),(4,_,_),(14000,_,_)] (by (exact plei)) ?_
 rw [← hps4] at *
 clear c1 c2 c3 c4 p1 p2 p3 q1 q2 q3 r1 r2 r3 hps4 hps hrs hbs hcw hwo hro hri hrl
 generalize hS:st4 w row=S at *
 generalize hE:Nat.add 0 y + 4 + 1=E
 have hsl:=Zal S.sc
 have hbl:(List.map bodyC (S.ps++S.left)).length=S.ps.length + S.left.length:=by rw [List.length_map,List.length_append]
 have hal:(S.ps++S.left).length=S.ps.length + S.left.length:=List.length_append
 rw [hgo] at hv
 generalize hbb:S.ps++S.left=bs at *
 refine pln ?_
 have hsl2:(List.map trackC (Zay w.level)).length=(Zay w.level).length:=List.length_map _
 by_cases hc1:(w.tick + 1) % 16=0
 case neg =>
  rw [Ze8 (.inl hc1)] at hv
  subst hv
  repeat' (first|refine pa ?_|(refine pb ?_ ?_<;>intro hg)|(refine Zab (n:=20) ?_;(first|refine Zaa hnr ?_|refine Zc5 hsp ?_))|refine po ?_|fail)
  exact pfg
 by_cases hc2:(Zay w.level).length=0
 ·rw [Ze8 (.inr (.inl (List.length_eq_zero_iff.1 hc2)))] at hv
  subst hv
  repeat' (first|refine pa ?_|(refine pb ?_ ?_<;>intro hg)|(refine Zab (n:=20) ?_;(first|refine Zaa hnr ?_|refine Zc5 hsp ?_))|refine po ?_|fail)
  exact pfg
 by_cases hc3:24≤bs.length
 ·rw [Ze8 (.inr (.inr hc3))] at hv
  subst hv
  repeat' (first|refine pa ?_|(refine pb ?_ ?_<;>intro hg)|(refine Zab (n:=20) ?_;(first|refine Zaa hnr ?_|refine Zc5 hsp ?_))|refine po ?_|fail)
  exact pfg
 have hno:¬ ((w.tick + 1) % 16 ≠ 0∨Zay w.level=[]∨24≤bs.length):=by
  rintro (h|h|h)
  ·exact h hc1
  ·exact hc2 (by rw [h];rfl)
  ·exact hc3 h
 have hrbi:=ZdH (Zaz w.seed) (Zay w.level).length
 obtain ⟨m,hm2⟩:=Int.eq_ofNat_of_zero_le hrbi.2.2.1
 have hml:m < (Zay w.level).length:=by omega
 have hs2:((Zay w.level).getD m default).length=2:=by
  obtain ⟨r,c,e,_⟩:=Zmi hl (Zdi hml)
  rw [e];rfl
 have hs3:=Zal ((Zay w.level).getD m default)
 rw [hm2] at hrb
 repeat' (first|(refine pth ?_)|((fail_if_success (with_reducible show aW _ _ _ (Code.seq (Code.seq (Code.region 17 _ _) _) _) _ _));(fail_if_success (with_reducible show aW _ _ _ (Code.seq (Code.region 17 _ _) _) _ _));(fail_if_success (with_reducible show aW _ _ _ (Code.region 17 _ _) _ _));(first|refine pc ?_|(refine pbc ?_ ?_<;>intro hg)))|(first|refine pl ?_|(refine pbl ?_ ?_<;>intro hg))|(first|refine pxk1 ?_|refine pxk0 ?_|(refine Zab (n:=20) ?_;(first|refine Zaa hnr ?_|refine Zaa hrb ?_|refine Zc5 hsp ?_))|refine po ?_)|fail)
 refine aW.reF rfl [(9,.t (.int .i64 (((Zay w.level).getD m default).getD 0 default))),(10,.t (.int .i64 (((Zay w.level).getD m default).getD 1 default)))] [(5,_),(4,_)] [(5,1,.box 30 [.hnd 14000 1,.t (.int .i64 (w.tick+1)),.t (.int .i64 (Zaj (Zaz w.seed) (Zay w.level).length).1),.hnd 14003 1,.hnd 7005 E])] [(4,_,_),(14000,_,_),(14003,_,_),(7005,_,_)] (by (exact plei)) ?_
 generalize hX:((Zay w.level).getD m default).getD 0 default=X at *
 generalize hY:((Zay w.level).getD m default).getD 1 default=Y at *
 refine pln ?_
 repeat' (first|refine pa ?_|(refine pb ?_ ?_<;>intro hg)|refine po ?_|fail)
 refine aW.loopF rfl (fun q:Nat=>[(89,.t (.int .i64 (q:Nat)))]) [(88,_),(87,_),(10,_),(9,_),(5,_),(4,_)] (fun q=>[]) [(5,_,_),(4,_,_),(14000,_,_),(14003,_,_),(7005,_,_)] (fun q=>q≤bs.length∧∀ j,j < q→lies X Y (bs.getD j default)=false) (fun q=>bs.length - q) 0 ⟨Nat.zero_le _,fun j hj=>absurd hj (Nat.not_lt_zero _)⟩ (by (exact plei)) ?_
 rintro q hI
 obtain ⟨hq,hlo⟩:q≤bs.length∧∀ j,j < q→lies X Y (bs.getD j default)=false:=hI
 refine pln ?_
 by_cases hqn:q < bs.length
 ·by_cases hk:(bs.getD q default).kind=2
  case neg =>
   repeat' (first|refine pa ?_|(refine pb ?_ ?_<;>intro hg)|refine po ?_|fail)
   exact ⟨q + 1,⟨hqn,ZdM hlo (decide_eq_false fun h=>hk h.1)⟩,by show bs.length - (q + 1) < bs.length - q;omega,by (exact ple)⟩
  by_cases hx:(bs.getD q default).x=X
  case neg =>
   repeat' (first|refine pa ?_|(refine pb ?_ ?_<;>intro hg)|refine po ?_|fail)
   exact ⟨q + 1,⟨hqn,ZdM hlo (decide_eq_false fun h=>hx h.2.1)⟩,by show bs.length - (q + 1) < bs.length - q;omega,by (exact ple)⟩
  by_cases hy:(bs.getD q default).y=Y
  case neg =>
   repeat' (first|refine pa ?_|(refine pb ?_ ?_<;>intro hg)|refine po ?_|fail)
   exact ⟨q + 1,⟨hqn,ZdM hlo (decide_eq_false fun h=>hy h.2.2)⟩,by show bs.length - (q + 1) < bs.length - q;omega,by (exact ple)⟩
  rw [Zk9 hno hm2 hqn (by rw [hX,hY];exact decide_eq_true ⟨hk,hx,hy⟩)] at hv
  subst hv
  repeat' (first|refine pa ?_|(refine pb ?_ ?_<;>intro hg)|refine po ?_|fail)
  exact pfg
 ·obtain rfl:q=bs.length:=by omega
  rw [Zk8 hno hm2 (by rw [hX,hY];exact hlo),hX,hY] at hv
  rw [show v.level=w.level by rw [hv],show v.tick=w.tick + 1 by rw [hv],show v.seed=(Zaj (Zaz w.seed) (Zay w.level).length).1 by rw [hv],show v.scores=S.sc by rw [hv],show List.map bodyC v.bodies=List.map bodyC bs++[bodyC ⟨2,0,X,Y,0,0,0,0,0⟩] by rw [hv];exact ZbK]
  repeat' (first|refine pa ?_|(refine pb ?_ ?_<;>intro hg)|refine ZaX ?_|refine po ?_|fail)
  exact pfg
theorem Zi2 (w:Wd) (row:List Int) (h1:w.level.length≤1048576) (h2:w.scores.length≤1048576) (h3:w.bodies.length≤1048576) (v:Wd) (hv:v=ZbY w row):AC Tryz.prog 157 [.agg [.t (.lst true 9 (Zai w.level)),.t (.int .i64 w.tick),.t (.int .i64 w.seed),.t (ints 3 w.scores),.t (.lst true 114 (w.bodies.map bodyC))],.t (ints 3 row)] (.agg [.fr true 9 (Zai v.level),.t (.int .i64 v.tick),.t (.int .i64 v.seed),.fr true 3 (Zak v.scores),.fr true 114 (v.bodies.map bodyC)]):=by
 have hcw:=Zc1 w h1 h2 h3
 have hwo:AC Tryz.prog 85 [.agg [.t (.lst true 9 (Zai w.level)),.t (.int .i64 w.tick),.t (.int .i64 w.seed),.t (ints 3 w.scores),.t (.lst true 114 (w.bodies.map bodyC))]] (.t (.bool (ZaW w))):=Zcg w.level w.tick w.seed w.scores w.bodies
 have hro:=Zhk row w.scores.length
 by_cases h:ZaV w
 case neg =>
  rw [ZaF h] at hwo
  rw [ZdA fun e=>h e.1] at hv
  subst hv
  refine AC.go Tryz.func157 Tryz.ntmps157 fun B W hr=>?_
  repeat' (first|refine pa ?_|(refine pb ?_ ?_<;>intro hg)|(refine Zab (n:=20) ?_;(first|refine Zaa hwo ?_|refine Zaa hro ?_|refine pz3 hcw ?_))|refine po ?_|fail)
  exact pfg
 by_cases ht:w.tick=100000
 ·rw [Zax.2 h] at hwo
  rw [ZdA fun e=>e.2.1 ht] at hv
  subst hv
  refine AC.go Tryz.func157 Tryz.ntmps157 fun B W hr=>?_
  repeat' (first|refine pa ?_|(refine pb ?_ ?_<;>intro hg)|(refine Zab (n:=20) ?_;(first|refine Zaa hwo ?_|refine Zaa hro ?_|refine pz3 hcw ?_))|refine po ?_|fail)
  exact pfg
 cases hr:ZbD row w.scores.length with
 | false =>
  rw [Zax.2 h] at hwo
  rw [hr] at hro
  rw [ZdA fun e=>by rw [hr] at e;cases e.2.2] at hv
  subst hv
  refine AC.go Tryz.func157 Tryz.ntmps157 fun B W hr=>?_
  repeat' (first|refine pa ?_|(refine pb ?_ ?_<;>intro hg)|(refine Zab (n:=20) ?_;(first|refine Zaa hwo ?_|refine Zaa hro ?_|refine pz3 hcw ?_))|refine po ?_|fail)
  exact pfg
 | true=>exact Zgr w v row hv h ht hr
end Go.Proofs.YthfaongbpdnlnaaGreat
