/- What is proved: contracts on drawn peers. Conditions: as each lemma says. -/
import Derived.Test.YthfaongbpdnlnaaGreatQPC
import Derived.Test.YthfaongbpdnlnaaGreatQV25ub
import Derived.Test.YthfaongbpdnlnaaGreatQT103uc
namespace Go.Proofs.YthfaongbpdnlnaaGreat
set_option maxHeartbeats 4000000
set_option maxRecDepth 20000
set_option linter.unusedSimpArgs false
set_option linter.unusedVariables false
open Go.RowKit Ab
def Zsh (m:Nat) (p:Pr):Prop:=Zsw m p∧Zc0 p
theorem Zsh.mono {m m':Nat} {p:Pr} (h:Zsh m p) (hm:m≤m'):Zsh m' p:=⟨h.1.mono hm,h.2⟩
theorem Zsh.len {m:Nat} {p:Pr} (h:Zsh m p):Zeq p:=Zp3 h.1.good.ok
theorem Zsh.press {m:Nat} {p:Pr} {y:Int} (h:Zsh m p):Zsh (m + 1) (Zsg p y):=⟨ZtY h.1,Zur h.2⟩
theorem Zsh.advance {m:Nat} {p:Pr} (h:Zsh m p):Zsh m ((ZpB p).getD p):=by
 cases ha:ZpB p with
 | none=>exact h
 | some q=>exact ⟨Ztx h.1 ha,ZqX h.2 ha⟩
theorem Zsh.confirm {m:Nat} {p:Pr} (h:Zsh m p):Zsh m (confirmV p):=⟨Zty h.1,ZsH h.2⟩
theorem Zsh.learn {m c:Nat} {p:Pr} {x:PkV} (h:Zsh m p) (hx:∀ k,k < p.tracks.length→x.fr=(k:Int)→x.fs.toNat + x.ins.length≤(p.tracks.getD k default).length + c):Zsh (m + c) ((Zsj p x).getD p):=by
 cases hl:Zsj p x with
 | none=>exact h.mono (by omega)
 | some q=>exact ⟨ZtX h.1 hl hx,Zuo h.2 hl⟩
theorem ZtT (xs:List Int) (hxl:xs.length≤1048576) (i:Nat) (h n:Int) (hn:0 < n):AMP Tryz.prog 248 [(0,0,.box 145 [.t (.lst true 5 (Zsm xs)),.t (.int .i64 i),.t (.int .i64 h)])] [.ptr 0 0 0 0,.t (.int .i64 n)] (α:=Nat×Int×Bool) (fun x=>[(0,0,.box 145 [.t (.lst true 5 (Zsm xs)),.t (.int .i64 x.1),.t (.int .i64 x.2.1)])]) (fun x=>.t (.bool x.2.2)) (fun _=>True):=by
 refine AMP.go Tryz.func248 Tryz.ntmps248 fun B W hr=>?_
 repeat' (first|refine pa ?_|(refine pb ?_ ?_<;>intro hg)|(refine z9 ?_;((refine Zp4 (m:=[(0,_,_)]) (Zsb _ hxl _ _ n hn) (fun b hb=>?_);refine pmk ?_)))|refine po ?_|fail)
 (show Zsp _ _ _ _ _ _ _ _;apply Zss;(case dd=>(dsimp only;(show Zbu _ _ _ _ _ _ _;refine ZgD ?_;first|exact .inl ⟨rfl,rfl,rfl⟩|refine .inr ⟨rfl,?_,(by exact pU2),rfl⟩);exact .inl rfl));case pp=>trivial)
theorem ZtG (xs:List Int) (hxl:xs.length≤1048576) (i:Nat) (h n:Int) (hn:0 < n):AMP Tryz.prog 234 [(0,0,.box 145 [.t (.lst true 5 (Zsm xs)),.t (.int .i64 i),.t (.int .i64 h)])] [.ptr 0 0 0 0,.t (.int .i64 n)] (α:=Nat×Int×Int×Int×Int) (fun x=>[(0,0,.box 145 [.t (.lst true 5 (Zsm xs)),.t (.int .i64 x.1),.t (.int .i64 x.2.1)])]) (fun x=>.agg [.t (.int .i64 x.2.2.1),.t (.int .i64 x.2.2.2.1),.t (.int .i64 x.2.2.2.2)]) (fun x=>ZcX x.2.2.1 x.2.2.2.1 x.2.2.2.2 n=true):=by
 refine AMP.go Tryz.func234 Tryz.ntmps234 fun B W hr=>?_
 repeat' (first|refine pa ?_|(refine pb ?_ ?_<;>intro hg)|refine po ?_|fail)
 (first|(refine z9 ?_;((refine Zp4 (m:=[(0,_,_)]) (ZtT _ hxl _ _ 3 (by decide)) (fun o ho=>?_);refine pmk ?_)))|refine po ?_)
 obtain ⟨i2,h2,ob⟩:=o
 cases ob with
 | false =>
  repeat' (first|refine pa ?_|(refine pb ?_ ?_<;>intro hg)|refine po ?_|fail)
  (show Zsp _ _ _ _ _ _ _ _;apply Zss (c:=((0:Int),(0:Int),(0:Int)));(case dd=>(dsimp only;(show Zbu _ _ _ _ _ _ _;refine ZgD ?_;first|exact .inl ⟨rfl,rfl,rfl⟩|refine .inr ⟨rfl,?_,(by exact pU2),rfl⟩);(exact pgiv)));case pp=>exact decide_eq_true (show (0:Int)≤0∧(0:Int)≤400∧(0:Int)≤0∧(0:Int) < n∧(0:Int)≤0∧(0:Int)≤9 by omega))
 | true =>
  repeat' (first|refine pa ?_|(refine pb ?_ ?_<;>intro hg)|refine po ?_|fail)
  (first|(refine z9 ?_;((refine Zp4 (m:=[(0,_,_)]) (Zsb _ hxl _ _ 12 (by decide)) (fun a ha=>?_);refine pmk ?_)))|refine po ?_)
  repeat' (first|refine pa ?_|(refine pb ?_ ?_<;>intro hg)|refine po ?_|fail)
  (first|(refine z9 ?_;((refine Zp4 (m:=[(0,_,_)]) (Zsb _ hxl _ _ n hn) (fun b hb=>?_);refine pmk ?_)))|refine po ?_)
  repeat' (first|refine pa ?_|(refine pb ?_ ?_<;>intro hg)|refine po ?_|fail)
  (first|(refine z9 ?_;((refine Zp4 (m:=[(0,_,_)]) (Zsb _ hxl _ _ 9 (by decide)) (fun c hc=>?_);refine pmk ?_)))|refine po ?_)
  repeat' (first|refine pa ?_|(refine pb ?_ ?_<;>intro hg)|refine po ?_|fail)
  (show Zsp _ _ _ _ _ _ _ _;apply Zss (c:=((1 + (a.2.2:Int)),(b.2.2:Int),1 + (c.2.2:Int)));(case dd=>(dsimp only;(show Zbu _ _ _ _ _ _ _;refine ZgD ?_;first|exact .inl ⟨rfl,rfl,rfl⟩|refine .inr ⟨rfl,?_,(by exact pU2),rfl⟩);(exact pgiv)));case pp=>exact decide_eq_true (show (0:Int)≤1 + (a.2.2:Int)∧1 + (a.2.2:Int)≤400∧(0:Int)≤(b.2.2:Int)∧(b.2.2:Int) < n∧(0:Int)≤1 + (c.2.2:Int)∧1 + (c.2.2:Int)≤9 by omega))
theorem Zui (xs:List Int) (hxl:xs.length≤1048576) (i:Nat) (h:Int):AMP Tryz.prog 195 [(0,0,.box 145 [.t (.lst true 5 (Zsm xs)),.t (.int .i64 i),.t (.int .i64 h)])] [.ptr 0 0 0 0] (α:=Nat×Int×Pr) (fun x=>[(0,0,.box 145 [.t (.lst true 5 (Zsm xs)),.t (.int .i64 x.1),.t (.int .i64 x.2.1)])]) (fun x=>.agg [.t (.int .i64 x.2.2.me),.t (.int .i64 x.2.2.delay),.t (.int .i64 x.2.2.ahead),.t (.int .i64 x.2.2.seed),.t (.lst false 46 (x.2.2.tracks.map trackC)),.t (.lst true 9 (Zai x.2.2.base.level)),.t (.int .i64 x.2.2.base.tick),.t (.int .i64 x.2.2.base.seed),.t (ints 3 x.2.2.base.scores),.t (.lst true 114 (x.2.2.base.bodies.map bodyC)),.t (.lst true 9 (Zai x.2.2.now.level)),.t (.int .i64 x.2.2.now.tick),.t (.int .i64 x.2.2.now.seed),.t (ints 3 x.2.2.now.scores),.t (.lst true 114 (x.2.2.now.bodies.map bodyC)),.t (.lst false 27 (x.2.2.used.map trackC)),.t (.lst true 100 (x.2.2.saves.map saveC)),.t (ints 3 x.2.2.sums),.t (.int .i64 x.2.2.ft),.t (.int .i64 x.2.2.fp),.t (.int .i64 x.2.2.fa),.t (.int .i64 x.2.2.rolls),.t (.int .i64 x.2.2.again)]) (fun x=>Zsh 5 x.2.2):=by
 refine AMP.go Tryz.func195 Tryz.ntmps195 fun B W hr=>?_
 repeat' (first|refine pa ?_|(refine pb ?_ ?_<;>intro hg)|(refine z9 ?_;((refine Zp4 (m:=[(0,_,_)]) (Zsb _ hxl _ _ 3 (by decide)) (fun b hb=>?_);refine pmk ?_)))|refine po ?_|fail)
 obtain ⟨n,hn⟩:∃ n:Nat,1 + (b.2.2:Int)=(n:Int):=⟨1 + b.2.2,by omega⟩
 have hn4:1≤n∧n≤3:=by omega
 rw [hn]
 (first|(refine z9 ?_;((refine Zp4 (m:=[(0,_,_)]) (Zs4 _ hxl _ _) (fun l hl=>?_);refine pmk ?_)))|refine po ?_)
 repeat' (first|refine pa ?_|(refine pb ?_ ?_<;>intro hg)|refine po ?_|fail)
 (first|(refine z9 ?_;((refine Zp4 (m:=[(0,_,_)]) (Zsb _ hxl _ _ 65536 (by decide)) (fun s hs=>?_);refine pmk ?_)))|refine po ?_)
 repeat' (first|refine pa ?_|(refine pb ?_ ?_<;>intro hg)|refine po ?_|fail)
 (first|(refine z9 ?_;((refine Zp4 (m:=[(0,_,_)]) (Zsb _ hxl _ _ (n:Int) (by omega)) (fun e he=>?_);refine pmk ?_)))|refine po ?_)
 repeat' (first|refine pa ?_|(refine pb ?_ ?_<;>intro hg)|refine po ?_|fail)
 (first|(refine z9 ?_;((refine Zp4 (m:=[(0,_,_)]) (Zsb _ hxl _ _ 4 (by decide)) (fun d hd=>?_);refine pmk ?_)))|refine po ?_)
 repeat' (first|refine pa ?_|(refine pb ?_ ?_<;>intro hg)|refine po ?_|fail)
 (first|(refine z9 ?_;((refine Zp4 (m:=[(0,_,_)]) (Zsb _ hxl _ _ 8 (by decide)) (fun a ha=>?_);refine pmk ?_)))|refine po ?_)
 repeat' (first|refine pa ?_|(refine pb ?_ ?_<;>intro hg)|refine po ?_|fail)
 (first|(refine z9 ?_;((refine Zp4 (m:=[(0,_,_)]) (ZtG _ hxl _ _ (n:Int) (by omega)) (fun f hf=>?_);refine pmk ?_)))|refine po ?_)
 have hok:Zer l.2.2 (n:Int) (s.2.2:Int):=⟨hl,by omega,by omega⟩
 have hval:=Zs7 (me:=(e.2.2:Int)) (delay:=(d.2.2:Int)) (ahead:=1 + (a.2.2:Int)) hok (by omega) (by omega) (by omega) hf
 have hdr:=ZuE (me:=(e.2.2:Int)) (delay:=(d.2.2:Int)) (ahead:=1 + (a.2.2:Int)) hok (by omega) (by omega) (by omega) hf
 have hdl:Zc0 (ZsD l.2.2 n s.2.2 e.2.2 d.2.2 (1 + (a.2.2:Int)) f.2.2.1 f.2.2.2.1 f.2.2.2.2):=fun z hz=>by cases hz
 have hnp:=ZtR l.2.2 n s.2.2 e.2.2 d.2.2 (1 + (a.2.2:Int)) f.2.2.1 f.2.2.2.1 f.2.2.2.2 (by have:=hl.n12;omega) (ZsD l.2.2 n s.2.2 e.2.2 d.2.2 (1 + (a.2.2:Int)) f.2.2.1 f.2.2.2.1 f.2.2.2.2) (by rw [Zup,if_pos hval])
 dsimp only [pcF] at hnp
 rw [decide_eq_true hval] at hnp
 generalize ZsD l.2.2 n s.2.2 e.2.2 d.2.2 (1 + (a.2.2:Int)) f.2.2.1 f.2.2.2.1 f.2.2.2.2=p at hnp hdr hdl
 repeat' (first|refine pa ?_|(refine pb ?_ ?_<;>intro hg)|(refine z9 ?_;(refine Zc5 hnp ?_))|refine po ?_|fail)
 (show Zsp _ _ _ _ _ _ _ _;apply Zss (c:=p);(case dd=>(dsimp only;(show Zbu _ _ _ _ _ _ _;refine ZgD ?_;first|exact .inl ⟨rfl,rfl,rfl⟩|refine .inr ⟨rfl,?_,(by exact pU2),rfl⟩);(exact pgiv)));case pp=>exact ⟨hdr,hdl⟩)
theorem Zuh (xs:List Int) (hxl:xs.length≤1048576) (i:Nat) (h:Int) (m:Nat) (p:Pr) (hp:Zsh m p):AMP Tryz.prog 196 [(0,0,.box 145 [.t (.lst true 5 (Zsm xs)),.t (.int .i64 i),.t (.int .i64 h)])] [.ptr 0 0 0 0,.agg [.t (.int .i64 p.me),.t (.int .i64 p.delay),.t (.int .i64 p.ahead),.t (.int .i64 p.seed),.t (.lst false 46 (p.tracks.map trackC)),.t (.lst true 9 (Zai p.base.level)),.t (.int .i64 p.base.tick),.t (.int .i64 p.base.seed),.t (ints 3 p.base.scores),.t (.lst true 114 (p.base.bodies.map bodyC)),.t (.lst true 9 (Zai p.now.level)),.t (.int .i64 p.now.tick),.t (.int .i64 p.now.seed),.t (ints 3 p.now.scores),.t (.lst true 114 (p.now.bodies.map bodyC)),.t (.lst false 27 (p.used.map trackC)),.t (.lst true 100 (p.saves.map saveC)),.t (ints 3 p.sums),.t (.int .i64 p.ft),.t (.int .i64 p.fp),.t (.int .i64 p.fa),.t (.int .i64 p.rolls),.t (.int .i64 p.again)]] (α:=Nat×Int×Pr) (fun x=>[(0,0,.box 145 [.t (.lst true 5 (Zsm xs)),.t (.int .i64 x.1),.t (.int .i64 x.2.1)])]) (fun x=>.agg [.t (.int .i64 x.2.2.me),.t (.int .i64 x.2.2.delay),.t (.int .i64 x.2.2.ahead),.t (.int .i64 x.2.2.seed),.t (.lst false 46 (x.2.2.tracks.map trackC)),.t (.lst true 9 (Zai x.2.2.base.level)),.t (.int .i64 x.2.2.base.tick),.t (.int .i64 x.2.2.base.seed),.t (ints 3 x.2.2.base.scores),.t (.lst true 114 (x.2.2.base.bodies.map bodyC)),.t (.lst true 9 (Zai x.2.2.now.level)),.t (.int .i64 x.2.2.now.tick),.t (.int .i64 x.2.2.now.seed),.t (ints 3 x.2.2.now.scores),.t (.lst true 114 (x.2.2.now.bodies.map bodyC)),.t (.lst false 27 (x.2.2.used.map trackC)),.t (.lst true 100 (x.2.2.saves.map saveC)),.t (ints 3 x.2.2.sums),.t (.int .i64 x.2.2.ft),.t (.int .i64 x.2.2.fp),.t (.int .i64 x.2.2.fa),.t (.int .i64 x.2.2.rolls),.t (.int .i64 x.2.2.again)]) (fun x=>Zsh (m + 3) x.2.2):=by
 have hpp:=hp.1.good.ok
 have hpl:=hp.len
 have htn:=Zbi hpp.tracks
 have htl:(p.tracks.map trackC).length=p.tracks.length:=List.length_map _
 have hpr:∀ y:Int,_:=fun y=>Ztg p y hpl _ rfl
 dsimp only [pcR,pcF] at hpr
 refine AMP.go Tryz.func196 Tryz.ntmps196 fun B W hr=>?_
 repeat' (first|refine pa ?_|(refine pb ?_ ?_<;>intro hg)|refine po ?_|fail)
 (first|(refine z9 ?_;((refine Zp4 (m:=[(0,_,_)]) (Zsb _ hxl _ _ 6 (by decide)) (fun b hb=>?_);refine pmk ?_)))|refine po ?_)
 obtain ⟨i2,h2,b⟩:=b
 have hb6:b < 6:=by have:((b:Nat):Int) < 6:=hb;omega
 match b,hb6 with
 | 0,_|1,_|2,_ =>
  repeat' (first|refine pa ?_|(refine pb ?_ ?_<;>intro hg)|refine po ?_|fail)
  refine aW.draw_k (os:=[]) (Checked.mixed Tryz.checked) rfl ?_
  refine aA.to (n':=8) rfl rfl ?_
  refine pt0_ 1 ?_
  refine pq2 0 2 ?_ ?_
  focus
   refine pop ?_
   refine pk7 ?_
   refine pq1 2 ?_
   refine pop ?_
   (first|(refine z9 ?_;((refine Zp4 (m:=[(0,_,_)]) (Zsc _ hxl _ _) (fun y hy=>?_);refine pmk ?_)))|refine po ?_)
  rotate_left
  focus
   refine pop ?_
   (first|(refine z9 ?_;((refine Zp4 (m:=[(0,_,_)]) (Zsc _ hxl _ _) (fun y hy=>?_);refine pmk ?_)))|refine po ?_)
   refine pq1 0 ?_
   refine pop ?_
   refine pk7 ?_
  all_goals (
   refine pq1 3 ?_
   refine pop ?_
   (first|(refine z9 ?_;(refine Zc5 ((hpr y.2.2)) ?_))|refine po ?_)
   refine pt0_ 4 ?_
   refine Zes 5 ?_
   refine Zes 6 ?_
   refine pq1 7 ?_
   refine pop ?_
   refine pk8 ?_
   refine ZaI ?_
   have hdq:=hp.press (y:=y.2.2)
   generalize Zsg p y.2.2=q at hdq ⊢
   have had:=Zrf q hdq.len hdq.2 _ rfl
   dsimp only [pcR,pcF] at had
   have hdr:=hdq.advance
   generalize (ZpB q).getD q=r at had hdr
   repeat' (first|refine pa ?_|(refine pb ?_ ?_<;>intro hg)|(refine z9 ?_;(refine Zc5 had ?_))|refine po ?_|fail)
   (show Zsp _ _ _ _ _ _ _ _;apply Zss (c:=r);(case dd=>(dsimp only;(show Zbu _ _ _ _ _ _ _;refine ZgD ?_;first|exact .inl ⟨rfl,rfl,rfl⟩|refine .inr ⟨rfl,?_,(by exact pU2),rfl⟩);(exact pgiv)));case pp=>exact hdr.mono (by omega)))
 | 3,_|4,_ =>
  repeat' (first|refine pa ?_|(refine pb ?_ ?_<;>intro hg)|refine po ?_|fail)
  (first|(refine z9 ?_;((refine Zp4 (m:=[(0,_,_)]) (Zsb _ hxl _ _ (p.tracks.length:Int) (by omega)) (fun k hk=>?_);refine pmk ?_)))|refine po ?_)
  obtain ⟨i3,h3,k⟩:=k
  have hkl:k < p.tracks.length:=by have:((k:Nat):Int) < (p.tracks.length:Int):=hk;omega
  have hkt:=Zei (ZfG hpp.tracks hkl)
  have hke:=Zal (p.tracks.getD k default)
  repeat' (first|refine pa ?_|(refine pb ?_ ?_<;>intro hg)|refine po ?_|fail)
  refine aW.draw_k (os:=[3]) (Checked.mixed Tryz.checked) rfl ?_
  refine aA.to (n':=15) rfl rfl ?_
  refine ZaC 0 ?_
  refine pt7_ 1 ?_
  refine pt0_ 2 ?_
  refine pt0_ 3 ?_
  refine pt0_ 4 ?_
  refine pq2 5 12 ?_ ?_
  focus
   refine pop ?_
   (first|(refine z9 ?_;((refine Zp4 (m:=[(0,_,_)]) (Zsb _ hxl _ _ 3 (by decide)) (fun z hz=>?_);refine pmk ?_)))|refine po ?_)
   refine Zbh 6 ?_
   refine Ziv 7 ?_
   obtain ⟨i4,h4,z⟩:=z
   have hmx:(if ((p.tracks.getD k default).length:Int) - (z:Int) > 0 then ((p.tracks.getD k default).length:Int) - (z:Int) else 0)=(((p.tracks.getD k default).length - z:Nat):Int):=by split<;>omega
   rw [hmx]
   have hmk:=Zsi p.tracks k ((p.tracks.getD k default).length - z) hpp.tracks hkl (Nat.sub_le _ _)
   refine pq2 8 12 ?_ ?_
   focus
    refine pop ?_
    (first|(refine z9 ?_;(refine pz3 hmk ?_))|refine po ?_)
    refine pt0_ 9 ?_
    refine Zes 10 ?_
    refine Zes 11 ?_
    refine pq1 12 ?_
    refine pop ?_
    refine pk3 ?_
   rotate_left
   focus
    refine pop ?_
    refine pk3 ?_
    refine pq1 8 ?_
    refine pop ?_
    (first|(refine z9 ?_;(refine pz3 hmk ?_))|refine po ?_)
    refine pt0_ 9 ?_
    refine Zes 10 ?_
    refine Zes 11 ?_
  rotate_left 2
  focus
   refine pop ?_
   refine pk3 ?_
   refine pq1 5 ?_
   refine pop ?_
   (first|(refine z9 ?_;((refine Zp4 (m:=[(0,_,_)]) (Zsb _ hxl _ _ 3 (by decide)) (fun z hz=>?_);refine pmk ?_)))|refine po ?_)
   refine Zbh 6 ?_
   refine Ziv 7 ?_
   obtain ⟨i4,h4,z⟩:=z
   have hmx:(if ((p.tracks.getD k default).length:Int) - (z:Int) > 0 then ((p.tracks.getD k default).length:Int) - (z:Int) else 0)=(((p.tracks.getD k default).length - z:Nat):Int):=by split<;>omega
   rw [hmx]
   have hmk:=Zsi p.tracks k ((p.tracks.getD k default).length - z) hpp.tracks hkl (Nat.sub_le _ _)
   refine pq1 8 ?_
   refine pop ?_
   (first|(refine z9 ?_;(refine pz3 hmk ?_))|refine po ?_)
   refine pt0_ 9 ?_
   refine Zes 10 ?_
   refine Zes 11 ?_
  all_goals (
   refine pq1 13 ?_
   refine pop ?_
   refine pk8 ?_
   refine pt1_ 14 ?_
   refine ZaI ?_
   obtain ⟨a,ha⟩:∃ a,a=(p.tracks.getD k default).length - z:=⟨_,rfl⟩
   rw [← ha]
   obtain ⟨ins,hins⟩:∃ ins,ins=((p.tracks.getD k default).drop a).take 40:=⟨_,rfl⟩
   rw [← hins]
   have hil:a + ins.length≤(p.tracks.getD k default).length:=by rw [hins,List.length_take,List.length_drop];omega
   have hil4:ins.length≤40:=by rw [hins,List.length_take];omega
   clear hins hmk hmx
   generalize Zsn p.tracks=acks
   repeat' (first|refine pa ?_|(refine pb ?_ ?_<;>intro hg)|refine po ?_|fail)
   (first|(refine z9 ?_;((refine Zp4 (m:=[(0,_,_)]) (Zsc _ hxl _ _) (fun y hy=>?_);refine pmk ?_)))|refine po ?_)
   obtain ⟨i5,h5,y⟩:=y
   repeat' (first|refine pa ?_|(refine pb ?_ ?_<;>intro hg)|refine po ?_|fail)
   (first|(refine z9 ?_;((refine Zp4 (m:=[(0,_,_)]) (Zsb _ hxl _ _ 4 (by decide)) (fun c hc=>?_);refine pmk ?_)))|refine po ?_)
   obtain ⟨i6,h6,c⟩:=c
   have hc4:c < 4:=by have:((c:Nat):Int) < 4:=hc;omega
   repeat' (first|refine pa ?_|(refine pb ?_ ?_<;>intro hg)|refine po ?_|fail)
   refine aW.loopF rfl (fun q:Int×Nat×Nat×List Int=>[(10,.t (.int .i64 q.1))]) [(9,_),(7,_),(4,_),(3,_),(0,_)] (fun q=>[(7,1,.box 48 [.t (.int .i64 k),.t (.int .i64 0),.t (.int .i64 a),.hnd 55003 q.2.2.1,.hnd 55004 1,.t (.int .i64 0),.t (.int .i64 0),.t (.int .i64 0),.t (.int .i64 0)]),(55003,q.2.2.1,.row true true 3 (Zak q.2.2.2))]) [(0,_,_),(3,_,_),(4,_,_),(55004,_,_)] (fun q=>(0≤q.1∧q.1 + (q.2.1:Int)=(c:Int))∧q.2.2.2=ins++List.replicate q.2.1 y) (fun q=>q.1.toNat) ((c:Int),0,1,ins) ⟨⟨by show (0:Int)≤(c:Int);omega,by show (c:Int) + ((0:Nat):Int)=(c:Int);omega⟩,(List.append_nil ins).symm⟩ (by (exact plei)) ?_
   rintro ⟨m1,m2,ep,zs⟩ hI
   obtain ⟨⟨hm1,hm⟩,hz⟩:(0≤m1∧m1 + (m2:Int)=(c:Int))∧zs=ins++List.replicate m2 y:=hI
   subst hz
   have hel2:(ins++List.replicate m2 y).length=ins.length + m2:=by rw [List.length_append,List.length_replicate]
   have hel:=Zal (ins++List.replicate m2 y)
   rw [hel2] at hel
   refine pln ?_
   by_cases hm0:0 < m1
   ·have hsn:Zak (ins++List.replicate (m2 + 1) y)=Zak (ins++List.replicate m2 y)++[[T.int .i64 y]]:=by rw [List.replicate_succ',← List.append_assoc];simp [Zak,intC]
    repeat' (first|refine pa ?_|(refine pb ?_ ?_<;>intro hg)|refine po ?_|fail)
    exact ⟨(m1 - 1,m2 + 1,ep + 1,ins++List.replicate (m2 + 1) y),⟨⟨by show 0≤m1 - 1;omega,by show m1 - 1 + ((m2 + 1:Nat):Int)=(c:Int);omega⟩,rfl⟩,by show (m1 - 1).toNat < m1.toNat;omega,by rw [hsn];(exact ple)⟩
   ·have hln:=Zsu p ⟨k,0,a,ins++List.replicate m2 y,acks,0,0,0,0⟩ hpl hp.2 _ rfl
    dsimp only [pcR,pcF] at hln
    have hdr:=hp.learn (c:=3) (x:=⟨k,0,a,ins++List.replicate m2 y,acks,0,0,0,0⟩) (fun j hj he=>by
     obtain rfl:k=j:=by have:(k:Int)=(j:Int):=he;omega
     show ((a:Nat):Int).toNat + (ins++List.replicate m2 y).length≤_
     rw [hel2,Int.toNat_natCast]
     omega)
    try dsimp only at hln
    generalize (Zsj p ⟨k,0,a,ins++List.replicate m2 y,acks,0,0,0,0⟩).getD p=r at hln hdr
    generalize (Zsj p ⟨k,0,a,ins++List.replicate m2 y,acks,0,0,0,0⟩).isSome=rb at hln
    repeat' (first|refine pa ?_|(refine pb ?_ ?_<;>intro hg)|(refine z9 ?_;(refine Zc5 hln ?_))|refine po ?_|fail)
    (show Zsp _ _ _ _ _ _ _ _;apply Zss (c:=r);(case dd=>(dsimp only;(show Zbu _ _ _ _ _ _ _;refine ZgD ?_;first|exact .inl ⟨rfl,rfl,rfl⟩|refine .inr ⟨rfl,?_,(by exact pU2),rfl⟩);(exact pgiv)));case pp=>exact hdr))
 | 5,_ =>
  have hcf:=ZrH p hpl hp.2 _ rfl
  dsimp only [pcR,pcF] at hcf
  have hdr:=hp.confirm
  generalize confirmV p=r at hcf hdr
  repeat' (first|refine pa ?_|(refine pb ?_ ?_<;>intro hg)|(refine z9 ?_;(refine Zc5 hcf ?_))|refine po ?_|fail)
  (show Zsp _ _ _ _ _ _ _ _;apply Zss (c:=r);(case dd=>(dsimp only;(show Zbu _ _ _ _ _ _ _;refine ZgD ?_;first|exact .inl ⟨rfl,rfl,rfl⟩|refine .inr ⟨rfl,?_,(by exact pU2),rfl⟩);(exact pgiv)));case pp=>exact hdr.mono (by omega))
theorem ZtU (xs:List Int) (hxl:xs.length≤1048576) (i:Nat) (h:Int):AMP Tryz.prog 127 [(0,0,.box 145 [.t (.lst true 5 (Zsm xs)),.t (.int .i64 i),.t (.int .i64 h)])] [.ptr 0 0 0 0] (α:=Nat×Int×Pr) (fun x=>[(0,0,.box 145 [.t (.lst true 5 (Zsm xs)),.t (.int .i64 x.1),.t (.int .i64 x.2.1)])]) (fun x=>.agg [.t (.int .i64 x.2.2.me),.t (.int .i64 x.2.2.delay),.t (.int .i64 x.2.2.ahead),.t (.int .i64 x.2.2.seed),.t (.lst false 46 (x.2.2.tracks.map trackC)),.t (.lst true 9 (Zai x.2.2.base.level)),.t (.int .i64 x.2.2.base.tick),.t (.int .i64 x.2.2.base.seed),.t (ints 3 x.2.2.base.scores),.t (.lst true 114 (x.2.2.base.bodies.map bodyC)),.t (.lst true 9 (Zai x.2.2.now.level)),.t (.int .i64 x.2.2.now.tick),.t (.int .i64 x.2.2.now.seed),.t (ints 3 x.2.2.now.scores),.t (.lst true 114 (x.2.2.now.bodies.map bodyC)),.t (.lst false 27 (x.2.2.used.map trackC)),.t (.lst true 100 (x.2.2.saves.map saveC)),.t (ints 3 x.2.2.sums),.t (.int .i64 x.2.2.ft),.t (.int .i64 x.2.2.fp),.t (.int .i64 x.2.2.fa),.t (.int .i64 x.2.2.rolls),.t (.int .i64 x.2.2.again)]) (fun x=>Zsh 80 x.2.2):=by
 refine AMP.go Tryz.func127 Tryz.ntmps127 fun B W hr=>?_
 repeat' (first|refine pa ?_|(refine pb ?_ ?_<;>intro hg)|(refine z9 ?_;((refine Zp4 (m:=[(0,_,_)]) (Zui _ hxl _ _) (fun p0 hp0=>?_);refine pmk ?_)))|refine po ?_|fail)
 (first|(refine z9 ?_;((refine Zp4 (m:=[(0,_,_)]) (Zsb _ hxl _ _ 24 (by decide)) (fun b hb=>?_);refine pmk ?_)))|refine po ?_)
 repeat' (first|refine pa ?_|(refine pb ?_ ?_<;>intro hg)|refine po ?_|fail)
 refine aW.loopF rfl (fun q:Int×Nat×Int×Pr=>[(4,.t (.int .i64 q.1))]) [(0,_),(2,_),(3,_)] (fun q=>[(0,0,.box 145 [.t (.lst true 5 (Zsm xs)),.t (.int .i64 q.2.1),.t (.int .i64 q.2.2.1)]),(3,1,.box 40 [.t (.int .i64 q.2.2.2.me),.t (.int .i64 q.2.2.2.delay),.t (.int .i64 q.2.2.2.ahead),.t (.int .i64 q.2.2.2.seed),.t (.lst false 46 (q.2.2.2.tracks.map trackC)),.t (.lst true 9 (Zai q.2.2.2.base.level)),.t (.int .i64 q.2.2.2.base.tick),.t (.int .i64 q.2.2.2.base.seed),.t (ints 3 q.2.2.2.base.scores),.t (.lst true 114 (q.2.2.2.base.bodies.map bodyC)),.t (.lst true 9 (Zai q.2.2.2.now.level)),.t (.int .i64 q.2.2.2.now.tick),.t (.int .i64 q.2.2.2.now.seed),.t (ints 3 q.2.2.2.now.scores),.t (.lst true 114 (q.2.2.2.now.bodies.map bodyC)),.t (.lst false 27 (q.2.2.2.used.map trackC)),.t (.lst true 100 (q.2.2.2.saves.map saveC)),.t (ints 3 q.2.2.2.sums),.t (.int .i64 q.2.2.2.ft),.t (.int .i64 q.2.2.2.fp),.t (.int .i64 q.2.2.2.fa),.t (.int .i64 q.2.2.2.rolls),.t (.int .i64 q.2.2.2.again)])]) [(2,_,_)] (fun q=>(0≤q.1∧q.1≤23)∧Zsh (5 + 3 * (23 - q.1.toNat)) q.2.2.2) (fun q=>q.1.toNat) ((b.2.2:Int),b.1,b.2.1,p0.2.2) ⟨⟨by show (0:Int)≤(b.2.2:Int);omega,by show (b.2.2:Int)≤23;omega⟩,hp0.mono (by omega)⟩ (by (exact plei)) ?_
 rintro ⟨k,i1,h1,p⟩ hI
 obtain ⟨⟨hk2,hk⟩,hd⟩:(0≤k∧k≤23)∧Zsh (5 + 3 * (23 - k.toNat)) p:=hI
 refine pln ?_
 by_cases hk0:0 < k
 ·repeat' (first|refine pa ?_|(refine pb ?_ ?_<;>intro hg)|(refine z9 ?_;((refine Zp4 (m:=[(0,_,_)]) (Zuh _ hxl _ _ _ p hd) (fun r hr=>?_);refine pmk ?_)))|refine po ?_|fail)
  exact ⟨(k - 1,r.1,r.2.1,r.2.2),⟨⟨by show 0≤k - 1;omega,by show k - 1≤23;omega⟩,hr.mono (by show 5 + 3 * (23 - k.toNat) + 3≤5 + 3 * (23 - (k - 1).toNat);omega)⟩,by show (k - 1).toNat < k.toNat;omega,by (exact ple)⟩
 ·repeat' (first|refine pa ?_|(refine pb ?_ ?_<;>intro hg)|refine po ?_|fail)
  (show Zsp _ _ _ _ _ _ _ _;apply Zss (c:=p);(case dd=>(dsimp only;(show Zbu _ _ _ _ _ _ _;refine ZgD ?_;first|exact .inl ⟨rfl,rfl,rfl⟩|refine .inr ⟨rfl,?_,(by exact pU2),rfl⟩);(exact pgiv)));case pp=>exact hd.mono (by omega))
theorem ZtD (xs:List Int) (hxl:xs.length≤1048576):AMP Tryz.prog 43 [] [.t (.lst true 5 (Zsm xs))] (α:=Pr) (fun _=>[]) (fun x=>.agg [.t (.int .i64 x.me),.t (.int .i64 x.delay),.t (.int .i64 x.ahead),.t (.int .i64 x.seed),.t (.lst false 46 (x.tracks.map trackC)),.t (.lst true 9 (Zai x.base.level)),.t (.int .i64 x.base.tick),.t (.int .i64 x.base.seed),.t (ints 3 x.base.scores),.t (.lst true 114 (x.base.bodies.map bodyC)),.t (.lst true 9 (Zai x.now.level)),.t (.int .i64 x.now.tick),.t (.int .i64 x.now.seed),.t (ints 3 x.now.scores),.t (.lst true 114 (x.now.bodies.map bodyC)),.t (.lst false 27 (x.used.map trackC)),.t (.lst true 100 (x.saves.map saveC)),.t (ints 3 x.sums),.t (.int .i64 x.ft),.t (.int .i64 x.fp),.t (.int .i64 x.fa),.t (.int .i64 x.rolls),.t (.int .i64 x.again)]) (fun x=>Zsh 80 x):=by
 refine AMP.go Tryz.func43 Tryz.ntmps43 fun B W hr=>?_
 repeat' (first|refine pa ?_|(refine pb ?_ ?_<;>intro hg)|(refine z9 ?_;((refine Zp4 (m:=[(31,7000,0)]) (Zug _ hxl) (fun c hc=>?_);refine pmk ?_)))|refine po ?_|fail)
 (first|(refine z9 ?_;((refine Zp4 (m:=[(0,_,_)]) (ZtU _ hxl _ _) (fun p hp=>?_);refine pmk ?_)))|refine po ?_)
 repeat' (first|refine pa ?_|(refine pb ?_ ?_<;>intro hg)|refine po ?_|fail)
 refine ⟨p.2.2,hp,?_⟩
 (show Zbu _ _ _ _ _ _ _;refine ZgD ?_;first|exact .inl ⟨rfl,rfl,rfl⟩|refine .inr ⟨rfl,?_,(by exact pU2),rfl⟩)
 (exact pgiv)
end Go.Proofs.YthfaongbpdnlnaaGreat
