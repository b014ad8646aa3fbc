/- What is proved: the statement on Advance: the program's function answers as the reference's, whatever the arguments.
   Conditions: none. -/
import Derived.Test.YthfaongbpdnlnaaGreatT89
import Derived.Test.YthfaongbpdnlnaaGreatT98ub
import Derived.Test.YthfaongbpdnlnaaGreatT100ub
import Derived.Test.YthfaongbpdnlnaaGreatT100uc
namespace Go.Proofs.YthfaongbpdnlnaaGreat
set_option maxHeartbeats 4000000
set_option maxRecDepth 100000
set_option linter.unusedSimpArgs false
set_option linter.unusedVariables false
open Go.RowKit Ab
theorem ZiM (p:Pr):0≤k6 p 1:=by unfold k6 k3 k2;omega
theorem ZqP (p:Pr):AC Tryz.prog 11 [.agg [.t (.int .i64 p.me),.t (.int .i64 p.delay),.t (.int .i64 p.ahead),.t (.int .i64 p.seed),.t (.lst false 175 (p.tracks.map trackC)),.t (.lst true 9 (Zai p.base.level)),.t (.int .i64 p.base.tick),.t (.int .i64 p.base.seed),.t (ints 3 p.base.scores),.t (.lst true 204 (p.base.bodies.map bodyC)),.t (.lst true 9 (Zai p.now.level)),.t (.int .i64 p.now.tick),.t (.int .i64 p.now.seed),.t (ints 3 p.now.scores),.t (.lst true 204 (p.now.bodies.map bodyC)),.t (.lst false 27 (p.used.map trackC)),.t (.lst true 179 (p.saves.map saveC)),.t (ints 3 p.sums),.t (.int .i64 p.ft),.t (.int .i64 p.fp),.t (.int .i64 p.fa),.t (.int .i64 p.rolls),.t (.int .i64 p.again)]] (.t (.bool true)):=by
 obtain ⟨r,hsz,hpl⟩:=Zfr p
 by_cases h:r < 0
 ·refine AC.go Tryz.func11 Tryz.ntmps11 fun B W hr=>?_
  repeat' (first|refine pa ?_|(refine pb ?_ ?_<;>intro hg)|(refine Zab (n:=20) ?_;(first|refine Zaa hsz ?_))|refine po ?_|fail)
  all_goals refine pfin ?_
  all_goals exact .inl rfl
 obtain ⟨hpl,hdl⟩:=hpl h
 have hto:=Zgs p hpl
 have he:=ZeV p
 have hmp:=Zdv p hpl 1 (by omega) (by omega)
 have hs:=Zrf p hpl hdl _ rfl
 have hi:=Zre p hpl hdl _ rfl
 have hvl:Zeq ((ZpB p).getD p):=Zrg p hpl
 generalize (ZpB p).getD p=v at hs hi hvl
 generalize (ZpB p).isSome=b at hs hi
 have he2:=ZeV v
 have hm2:=Zdv v hvl 1 (by omega) (by omega)
 have hh:=Zj1 v hvl 1 (by omega) (by omega)
 have hk1:=ZiM p
 have hk2:=ZiM v
 refine AC.go Tryz.func11 Tryz.ntmps11 fun B W hr=>?_
 repeat' (first|refine pa ?_|(refine pb ?_ ?_<;>intro hg)|(refine Zab (n:=20) ?_;(first|refine Zaa hsz ?_|refine Zaa he ?_|refine Zaa he2 ?_|refine Zaa hh ?_|refine pz3 hto ?_|refine pz3 hs ?_|refine pz3 hi ?_|refine Zca (m:=[(0,_,_),(1,_,_),(3,_,_),(4,_,_),(5,_,_),(6,_,_),(7,_,_),(8,_,_),(9,_,_),(10,_,_)]) (hmp) ?_|refine Zca (m:=[(0,_,_),(1,_,_),(3,_,_),(4,_,_),(5,_,_),(6,_,_),(7,_,_),(8,_,_),(9,_,_),(10,_,_)]) (hm2) ?_))|refine po ?_|((apply pdq 5;(focus exact pdp);(focus ((apply pct 5 15 1;(focus (intro hd2;(apply pct 5 7 2;(focus (intro hd1;(refine pt7_ 0 ?_<;>refine pt7_ 1 ?_<;>(refine pq1 2 ?_;(focus ((refine pop ?_;(refine Zab (n:=20) ?_;(first|refine pz3 hto ?_)))<;>(exact ptm hd1)))))));(case main=>((refine pq1 3 ?_;(focus ((refine pop ?_;(refine Zab (n:=20) ?_;(first|refine Zaa he ?_|refine Zaa he2 ?_)))<;>(exact ptm hd2)))))))));(case main=>(refine Zf9 4 ?_<;>(refine ZaI ?_;exact ZaJ))))))))|fail)
 all_goals refine pfin ?_
 all_goals exact .inl rfl
theorem Zq6 (x:Zf7.V):AC Tryz.prog 11 [TY.arg Zf7 x] (.t (.bool true)):=by
 obtain ⟨p,hp⟩:=Zmb x
 rw [hp]
 exact ZqP p
open Go.ChangeShapes Go.WideShapes
theorem ZqA (os:Os) (started:os.Started) (H:Type) (enc:TypeId×Value→H) :
  ReturnsInHanded {} Tryz.checked os 11 .any (Rows.fnExactAdvanceSpec.pre6 enc Tryz.prog Tryz.f11 Rows.fnExactAdvanceRow.domain false) (Rows.fnExactAdvanceSpec.post enc Tryz.prog Tryz.f11 false true false false):=by
 refine ZjB (C:=Tryz.checked) Tryz.own started (by kernel_rfl) Tryz.func11 Tryz.laidOut (by kernel_rfl) (tb:=4) rfl Tryz.underlying4 rfl ?_
  (ChangeSpec.witness6 (enc:=enc) (C:=Tryz.checked) false ⟨#[],#[.agg #[.int .i64 0,.int .i64 0,.int .i64 0,.int .i64 0,.slice none 0 0,.slice none 0 0,.int .i64 0,.int .i64 0,.slice none 0 0,.slice none 0 0,.slice none 0 0,.int .i64 0,.int .i64 0,.slice none 0 0,.slice none 0 0,.slice none 0 0,.slice none 0 0,.slice none 0 0,.int .i64 0,.int .i64 0,.int .i64 0,.int .i64 0,.int .i64 0]],[]⟩ 8 (by kernel_rfl) (by kernel_rfl) (by kernel_rfl) (by kernel_rfl)) ?_
 ·intro W vs ds ps hA
  have hA:DataW.TrodAll enc Tryz.prog W 0 (fun _=>true) true Tryz.f11.params.toList vs ds ps:=hA
  rw [Tryz.params11] at hA
  obtain ⟨v0,vs0,d0,ds0,p0,q0,rfl,rfl,rfl,h0,r0⟩:=trodAll_cons hA
  obtain ⟨rfl,rfl,rfl⟩:=trodAll_nil r0
  rfl
 ·intro W base args ds p hok0 hA hlt
  have hA:DataW.TrodAll enc Tryz.prog W 0 (fun _=>true) true Tryz.f11.params.toList args.toList ds p:=hA
  have hok:∀ (j:Nat) t v,Tryz.f11.params[j]?=some t→args[j]?=some v→Value.okWide Tryz.prog W .any base t v:=hok0
  clear hok0
  rw [Tryz.params11] at hA hok
  obtain ⟨args⟩:=args
  obtain ⟨v0,vs0,d0,ds0,p0,q0,hv0,rfl,rfl,h0,r0⟩:=trodAll_cons hA
  have hv0:args=v0 :: vs0:=hv0;subst hv0
  obtain ⟨rfl,rfl,rfl⟩:=trodAll_nil r0
  obtain ⟨cs0,y0,g0,rfl⟩:=Ze3 (T:=Zf7) (by kernel_rfl) (hok 0 _ _ rfl rfl) h0
  clear hok hA hlt
  exact ZoH (Zq6 y0) (Ab.Pw.cons (ZiB (t:=Zf7) (by kernel_rfl) g0 rfl) Ab.Pw.nil)
theorem Zqz:joinedFacts Tryz.prog 11 Tryz.f11 Rows.fnExactAdvanceSpec Rows.fnExactAdvanceRow=true:=by
 simp only [joinedFacts,Bool.and_eq_true]
 exact ⟨⟨⟨⟨⟨⟨⟨⟨⟨⟨⟨⟨⟨⟨⟨⟨⟨⟨⟨⟨⟨⟨⟨⟨⟨⟨⟨⟨⟨⟨⟨(by as_aux_lemma=>kernel_rfl),(by as_aux_lemma=>kernel_rfl)⟩,(by as_aux_lemma=>kernel_rfl)⟩,(by as_aux_lemma=>kernel_rfl)⟩,(by as_aux_lemma=>kernel_rfl)⟩,(by as_aux_lemma=>kernel_rfl)⟩,(by as_aux_lemma=>kernel_rfl)⟩,(by as_aux_lemma=>kernel_rfl)⟩,(by as_aux_lemma=>kernel_rfl)⟩,(by as_aux_lemma=>kernel_rfl)⟩,(by as_aux_lemma=>kernel_rfl)⟩,(by as_aux_lemma=>kernel_rfl)⟩,(by as_aux_lemma=>kernel_rfl)⟩,(by as_aux_lemma=>kernel_rfl)⟩,(by as_aux_lemma=>kernel_rfl)⟩,(by as_aux_lemma=>kernel_rfl)⟩,(by as_aux_lemma=>kernel_rfl)⟩,(by as_aux_lemma=>kernel_rfl)⟩,(by as_aux_lemma=>kernel_rfl)⟩,(by as_aux_lemma=>kernel_rfl)⟩,(by as_aux_lemma=>kernel_rfl)⟩,(by as_aux_lemma=>kernel_rfl)⟩,(by as_aux_lemma=>kernel_rfl)⟩,(by as_aux_lemma=>kernel_rfl)⟩,(by as_aux_lemma=>kernel_rfl)⟩,Tryz.mayEnter⟩,(ZhJ Tryz.liftsFinal)⟩,(Zl5 Tryz.make)⟩,(by as_aux_lemma=>kernel_rfl)⟩,(by as_aux_lemma=>kernel_rfl)⟩,(by as_aux_lemma=>kernel_rfl)⟩,(by as_aux_lemma=>kernel_rfl)⟩
theorem FnExactAdvance_holds:Rows.FnExactAdvanceSaid :=
 OpenClaim.holds_of_wide 11 Tryz.f11 rfl rfl rfl rfl rfl rfl rfl ⟨rfl,rfl,rfl,rfl,rfl⟩ rfl rfl rfl rfl rfl (by kernel_rfl) Tryz.func11 Zqz
  (of_decide_eq_true (by kernel_rfl)) (by unfold Func.isWrapper;first|(rw [if_pos (by decide +kernel)];kernel_rfl)|(rw [if_neg (by decide +kernel)];exact ⟨rfl,rfl⟩))
  (fun os started H enc _=>ZqA os started H enc)
end Go.Proofs.YthfaongbpdnlnaaGreat
