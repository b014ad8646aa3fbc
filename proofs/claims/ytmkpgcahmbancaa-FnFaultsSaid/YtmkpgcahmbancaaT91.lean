/- What is proved: a contract on drawn plays, the reference's.
   Conditions: none beyond those that each lemma names. -/
import Derived.Test.YtmkpgcahmbancaaT32
import Derived.Test.YtmkpgcahmbancaaT49
import Derived.Test.YtmkpgcahmbancaaT50s
import Derived.Test.YtmkpgcahmbancaaT87
namespace Go.Proofs.Ytmkpgcahmbancaa
set_option linter.unusedSimpArgs false
set_option linter.unusedVariables false
open Go.RowKit Ab
set_option maxRecDepth 20000 in
set_option maxHeartbeats 4000000 in
theorem a_s_l02Input (xs : List Int) (hxl : xs.length ≤ 1048576) (i : Nat) (h : Int) : AMP Try.prog 174 [(0, 0, .box 144 [.t (.lst true 5 (codeE xs)), .t (.int .i64 i), .t (.int .i64 h)])] [.ptr 0 0 0 0] (α := Nat × Int × Int) (fun x => [(0, 0, .box 144 [.t (.lst true 5 (codeE xs)), .t (.int .i64 x.1), .t (.int .i64 x.2.1)])]) (fun x => .t (.int .i64 x.2.2)) (fun x => 0 ≤ x.2.2 ∧ x.2.2 ≤ 15) := by
  refine AMP.go Try.func174 Try.ntmps174 fun B W hr => ?_
  repeat' (first | (first | refine pc ?_ | (refine pbc ?_ ?_ <;> intro hg)) | (((first | refine pl ?_ | (refine pbl ?_ ?_ <;> intro hg))) <;> (first | (first | (refine q4ed5 (n := 20) ?_; (first | (refine q608c (m := [(0, _, _)]) (a_s_l01Below _ hxl _ _ 16 (by decide)) (fun b hb => ?_); refine ⟨_, _, _, (by first | exact Imp3.ptr rfl (by first | exact ecfc rfl | exact ef62 rfl | exact rfl) | exact Imp3.hnd rfl (by first | exact ecfc rfl | exact ef62 rfl | exact rfl) | exact Imp3.imp rfl (by first | exact Imp2.other rfl rfl rfl | exact Imp2.fr (by first | exact ecfc rfl | exact ef62 rfl) | exact Imp2.agg (by first | ((repeat' (first | exact ImpL.nil | exact ImpT.nil | (apply ImpL.other; (focus exact rfl)) | (apply ImpL.fr; (focus exact (by first | exact ecfc rfl | exact ef62 rfl))) | (apply ImpT.other; (focus exact rfl); (focus exact rfl)) | apply ImpT.agg | (apply ImpT.fr; (focus exact (by first | exact ecfc rfl | exact ef62 rfl))))); done) | fail) | exact Imp2.tup (by first | ((repeat' (first | exact ImpL.nil | exact ImpT.nil | (apply ImpL.other; (focus exact rfl)) | (apply ImpL.fr; (focus exact (by first | exact ecfc rfl | exact ef62 rfl))) | (apply ImpT.other; (focus exact rfl); (focus exact rfl)) | apply ImpT.agg | (apply ImpT.fr; (focus exact (by first | exact ecfc rfl | exact ef62 rfl))))); done) | fail))), rfl, rfl, (by first | exact .inr rfl | exact .inl ⟨rfl, rfl⟩), rfl, rfl, (by first | ((repeat' (first | exact RenR.nil | exact RenL.nil | (apply RenR.row; (focus exact rfl); (focus exact (by first | exact ecfc rfl | exact ef62 rfl | exact rfl))) | (apply RenR.box; (focus exact rfl); (focus exact (by first | exact ecfc rfl | exact ef62 rfl | exact rfl))) | (apply RenR.gone; (focus exact rfl); (focus exact (by first | exact ecfc rfl | exact ef62 rfl | exact rfl))) | (apply RenL.hnd; (focus exact rfl); (focus exact (by first | exact ecfc rfl | exact ef62 rfl | exact rfl))) | (apply RenL.ptr; (focus exact rfl); (focus exact (by first | exact ecfc rfl | exact ef62 rfl | exact rfl))) | (apply RenL.view; (focus exact rfl); (focus exact (by first | exact ecfc rfl | exact ef62 rfl | exact rfl))) | (apply RenL.other; (focus exact rfl)))); done) | fail), ?_⟩))) | refine po ?_) | (fail_if_success (show OpS _ _ _ _ _ _)))) | fail)
  refine aL.ghost (Ghost.free (o := 6) (ep := 1) (s := 6) rfl rfl) ?_
  repeat' (first | refine pa ?_ | (refine pb ?_ ?_ <;> intro hg) | (refine q4ed5 (n := 20) ?_; (first | (refine q608c (m := [(0, _, _)]) (a_s_l01PickInt _ hxl _ _ [0, 1, 2, 2, 6, 8, 10, 12, 9, (b.2.2 : Int)] (Nat.zero_lt_succ _)) (fun e he => ?_); refine ⟨_, _, _, (by first | exact Imp3.ptr rfl (by first | exact ecfc rfl | exact ef62 rfl | exact rfl) | exact Imp3.hnd rfl (by first | exact ecfc rfl | exact ef62 rfl | exact rfl) | exact Imp3.imp rfl (by first | exact Imp2.other rfl rfl rfl | exact Imp2.fr (by first | exact ecfc rfl | exact ef62 rfl) | exact Imp2.agg (by first | ((repeat' (first | exact ImpL.nil | exact ImpT.nil | (apply ImpL.other; (focus exact rfl)) | (apply ImpL.fr; (focus exact (by first | exact ecfc rfl | exact ef62 rfl))) | (apply ImpT.other; (focus exact rfl); (focus exact rfl)) | apply ImpT.agg | (apply ImpT.fr; (focus exact (by first | exact ecfc rfl | exact ef62 rfl))))); done) | fail) | exact Imp2.tup (by first | ((repeat' (first | exact ImpL.nil | exact ImpT.nil | (apply ImpL.other; (focus exact rfl)) | (apply ImpL.fr; (focus exact (by first | exact ecfc rfl | exact ef62 rfl))) | (apply ImpT.other; (focus exact rfl); (focus exact rfl)) | apply ImpT.agg | (apply ImpT.fr; (focus exact (by first | exact ecfc rfl | exact ef62 rfl))))); done) | fail))), rfl, rfl, (by first | exact .inr rfl | exact .inl ⟨rfl, rfl⟩), rfl, rfl, (by first | ((repeat' (first | exact RenR.nil | exact RenL.nil | (apply RenR.row; (focus exact rfl); (focus exact (by first | exact ecfc rfl | exact ef62 rfl | exact rfl))) | (apply RenR.box; (focus exact rfl); (focus exact (by first | exact ecfc rfl | exact ef62 rfl | exact rfl))) | (apply RenR.gone; (focus exact rfl); (focus exact (by first | exact ecfc rfl | exact ef62 rfl | exact rfl))) | (apply RenL.hnd; (focus exact rfl); (focus exact (by first | exact ecfc rfl | exact ef62 rfl | exact rfl))) | (apply RenL.ptr; (focus exact rfl); (focus exact (by first | exact ecfc rfl | exact ef62 rfl | exact rfl))) | (apply RenL.view; (focus exact rfl); (focus exact (by first | exact ecfc rfl | exact ef62 rfl | exact rfl))) | (apply RenL.other; (focus exact rfl)))); done) | fail), ?_⟩))) | refine po ?_ | fail)
  have hr2 : 0 ≤ e.2.2 ∧ e.2.2 ≤ 15 := by
    simp only [List.mem_cons, List.not_mem_nil, or_false] at he
    omega
  (show DoneP _ _ _ _ _ _ _ _; apply done3; (case dd => (dsimp only; (show DoneM _ _ _ _ _ _ _; refine qb0ba ?_; first | exact .inl ⟨rfl, rfl, rfl⟩ | refine .inr ⟨rfl, ?_, (by first | exact List.nodup_nil | simp [ids2, ids1, ids0]), rfl⟩); exact .inl rfl)); case pp => exact hr2)
end Go.Proofs.Ytmkpgcahmbancaa
namespace Go.Proofs.Ytmkpgcahmbancaa
set_option linter.unusedSimpArgs false
set_option linter.unusedVariables false
open Go.RowKit Ab
def in15 (zs : List Int) : Prop := ∀ y ∈ zs, 0 ≤ y ∧ y ≤ 15
theorem in15_snoc {zs : List Int} {y : Int} (h : in15 zs) (hy : 0 ≤ y ∧ y ≤ 15) : in15 (zs ++ [y]) := fun z hz => by
  rcases List.mem_append.1 hz with hz | hz
  · exact h z hz
  · rw [List.mem_singleton.1 hz]; exact hy
theorem intsE_push (zs : List Int) (y : Int) : intsE (zs ++ [y]) = intsE zs ++ [[T.int .i64 y]] := by simp [intsE, intC]
set_option maxRecDepth 20000 in
set_option maxHeartbeats 4000000 in
theorem a_s_l02Row (xs : List Int) (hxl : xs.length ≤ 1048576) (i : Nat) (h : Int) (n : Nat) (hn : n ≤ 4) : AMP Try.prog 137 [(0, 0, .box 144 [.t (.lst true 5 (codeE xs)), .t (.int .i64 i), .t (.int .i64 h)])] [.ptr 0 0 0 0, .t (.int .i64 (n:Int))] (α := Nat × Int × List Int) (fun x => [(0, 0, .box 144 [.t (.lst true 5 (codeE xs)), .t (.int .i64 x.1), .t (.int .i64 x.2.1)])]) (fun x => .fr true 3 (intsE x.2.2)) (fun x => x.2.2.length = n ∧ in15 x.2.2) := by
  refine AMP.go Try.func137 Try.ntmps137 fun B W hr => ?_
  repeat' (first | refine pa ?_ | (refine pb ?_ ?_ <;> intro hg) | refine po ?_ | fail)
  refine aW.loopF rfl (fun q : Nat × Int × Nat × List Int => [(5, .hnd 6 q.2.2.1)]) [(0, _), (1, _)] (fun q : Nat × Int × Nat × List Int => [(0, 0, .box 144 [.t (.lst true 5 (codeE xs)), .t (.int .i64 q.1), .t (.int .i64 q.2.1)]), (6, q.2.2.1, .row true true 3 (intsE q.2.2.2))]) [] (fun q : Nat × Int × Nat × List Int => q.2.2.2.length ≤ n ∧ in15 q.2.2.2) (fun q : Nat × Int × Nat × List Int => n - q.2.2.2.length) (i, h, 1, []) ⟨Nat.zero_le _, fun y hy => by cases hy⟩ (by (exact plei)) ?_
  rintro ⟨i1, h1, ep, zs⟩ hI
  obtain ⟨hlen, hall⟩ : zs.length ≤ n ∧ in15 zs := hI
  have hzl := intsE_len zs
  dsimp only [List.cons_append, List.nil_append]
  by_cases hk : zs.length < n
  · repeat' (first | refine pa ?_ | (refine pb ?_ ?_ <;> intro hg) | (refine q4ed5 (n := 20) ?_; (first | (refine q608c (m := [(0, _, _)]) (a_s_l02Input _ hxl _ _) (fun e he => ?_); refine ⟨_, _, _, (by first | exact Imp3.ptr rfl (by first | exact ecfc rfl | exact ef62 rfl | exact rfl) | exact Imp3.hnd rfl (by first | exact ecfc rfl | exact ef62 rfl | exact rfl) | exact Imp3.imp rfl (by first | exact Imp2.other rfl rfl rfl | exact Imp2.fr (by first | exact ecfc rfl | exact ef62 rfl) | exact Imp2.agg (by first | ((repeat' (first | exact ImpL.nil | exact ImpT.nil | (apply ImpL.other; (focus exact rfl)) | (apply ImpL.fr; (focus exact (by first | exact ecfc rfl | exact ef62 rfl))) | (apply ImpT.other; (focus exact rfl); (focus exact rfl)) | apply ImpT.agg | (apply ImpT.fr; (focus exact (by first | exact ecfc rfl | exact ef62 rfl))))); done) | fail) | exact Imp2.tup (by first | ((repeat' (first | exact ImpL.nil | exact ImpT.nil | (apply ImpL.other; (focus exact rfl)) | (apply ImpL.fr; (focus exact (by first | exact ecfc rfl | exact ef62 rfl))) | (apply ImpT.other; (focus exact rfl); (focus exact rfl)) | apply ImpT.agg | (apply ImpT.fr; (focus exact (by first | exact ecfc rfl | exact ef62 rfl))))); done) | fail))), rfl, rfl, (by first | exact .inr rfl | exact .inl ⟨rfl, rfl⟩), rfl, rfl, (by first | ((repeat' (first | exact RenR.nil | exact RenL.nil | (apply RenR.row; (focus exact rfl); (focus exact (by first | exact ecfc rfl | exact ef62 rfl | exact rfl))) | (apply RenR.box; (focus exact rfl); (focus exact (by first | exact ecfc rfl | exact ef62 rfl | exact rfl))) | (apply RenR.gone; (focus exact rfl); (focus exact (by first | exact ecfc rfl | exact ef62 rfl | exact rfl))) | (apply RenL.hnd; (focus exact rfl); (focus exact (by first | exact ecfc rfl | exact ef62 rfl | exact rfl))) | (apply RenL.ptr; (focus exact rfl); (focus exact (by first | exact ecfc rfl | exact ef62 rfl | exact rfl))) | (apply RenL.view; (focus exact rfl); (focus exact (by first | exact ecfc rfl | exact ef62 rfl | exact rfl))) | (apply RenL.other; (focus exact rfl)))); done) | fail), ?_⟩))) | refine po ?_ | fail)
    exact ⟨(_, _, ep + 1, zs ++ [e.2.2]), ⟨by show (zs ++ [e.2.2]).length ≤ n; rw [List.length_append]; simp; omega, in15_snoc hall he⟩, by show n - (zs ++ [e.2.2]).length < n - zs.length; rw [List.length_append]; simp; omega, by rw [intsE_push]; (exact ple)⟩
  · repeat' (first | refine pa ?_ | (refine pb ?_ ?_ <;> intro hg) | refine po ?_ | fail)
    (show DoneP _ _ _ _ _ _ _ _; apply done3; (case dd => (dsimp only; (show DoneM _ _ _ _ _ _ _; refine qb0ba ?_; first | exact .inl ⟨rfl, rfl, rfl⟩ | refine .inr ⟨rfl, ?_, (by first | exact List.nodup_nil | simp [ids2, ids1, ids0]), rfl⟩); (exact pgiv))); case pp => exact ⟨by show zs.length = n; omega, hall⟩)
theorem rows_push (ts : TS) (x : List Int) : (ts ++ [x]).map trackC = ts.map trackC ++ [[.lst true 3 (intsE x)]] := by rw [List.map_append]; rfl
def rowsOf (n : Nat) (ts : TS) : Prop := ∀ t ∈ ts, t.length = n ∧ in15 t
theorem rowsOf_push {n : Nat} {ts : TS} {x : List Int} (h : rowsOf n ts) (hx : x.length = n ∧ in15 x) : rowsOf n (ts ++ [x]) := fun t ht => by
  rcases List.mem_append.1 ht with ht | ht
  · exact h t ht
  · rw [List.mem_singleton.1 ht]; exact hx
set_option maxRecDepth 20000 in
set_option maxHeartbeats 4000000 in
theorem a_s_l02Rows (xs : List Int) (hxl : xs.length ≤ 1048576) (i : Nat) (h : Int) (n : Nat) (hn : n ≤ 4) : AMP Try.prog 83 [(0, 0, .box 144 [.t (.lst true 5 (codeE xs)), .t (.int .i64 i), .t (.int .i64 h)])] [.ptr 0 0 0 0, .t (.int .i64 (n:Int)), .t (.int .i64 24)] (α := Nat × Int × TS) (fun x => [(0, 0, .box 144 [.t (.lst true 5 (codeE xs)), .t (.int .i64 x.1), .t (.int .i64 x.2.1)])]) (fun x => .t (.lst false 26 (x.2.2.map trackC))) (fun x => x.2.2.length ≤ 92 ∧ rowsOf n x.2.2) := by
  refine AMP.go Try.func83 Try.ntmps83 fun B W hr => ?_
  repeat' (first | refine pa ?_ | (refine pb ?_ ?_ <;> intro hg) | (refine q4ed5 (n := 20) ?_; (first | (refine q608c (m := [(0, _, _)]) (a_s_l01Below _ hxl _ _ 24 (by decide)) (fun b hb => ?_); refine ⟨_, _, _, (by first | exact Imp3.ptr rfl (by first | exact ecfc rfl | exact ef62 rfl | exact rfl) | exact Imp3.hnd rfl (by first | exact ecfc rfl | exact ef62 rfl | exact rfl) | exact Imp3.imp rfl (by first | exact Imp2.other rfl rfl rfl | exact Imp2.fr (by first | exact ecfc rfl | exact ef62 rfl) | exact Imp2.agg (by first | ((repeat' (first | exact ImpL.nil | exact ImpT.nil | (apply ImpL.other; (focus exact rfl)) | (apply ImpL.fr; (focus exact (by first | exact ecfc rfl | exact ef62 rfl))) | (apply ImpT.other; (focus exact rfl); (focus exact rfl)) | apply ImpT.agg | (apply ImpT.fr; (focus exact (by first | exact ecfc rfl | exact ef62 rfl))))); done) | fail) | exact Imp2.tup (by first | ((repeat' (first | exact ImpL.nil | exact ImpT.nil | (apply ImpL.other; (focus exact rfl)) | (apply ImpL.fr; (focus exact (by first | exact ecfc rfl | exact ef62 rfl))) | (apply ImpT.other; (focus exact rfl); (focus exact rfl)) | apply ImpT.agg | (apply ImpT.fr; (focus exact (by first | exact ecfc rfl | exact ef62 rfl))))); done) | fail))), rfl, rfl, (by first | exact .inr rfl | exact .inl ⟨rfl, rfl⟩), rfl, rfl, (by first | ((repeat' (first | exact RenR.nil | exact RenL.nil | (apply RenR.row; (focus exact rfl); (focus exact (by first | exact ecfc rfl | exact ef62 rfl | exact rfl))) | (apply RenR.box; (focus exact rfl); (focus exact (by first | exact ecfc rfl | exact ef62 rfl | exact rfl))) | (apply RenR.gone; (focus exact rfl); (focus exact (by first | exact ecfc rfl | exact ef62 rfl | exact rfl))) | (apply RenL.hnd; (focus exact rfl); (focus exact (by first | exact ecfc rfl | exact ef62 rfl | exact rfl))) | (apply RenL.ptr; (focus exact rfl); (focus exact (by first | exact ecfc rfl | exact ef62 rfl | exact rfl))) | (apply RenL.view; (focus exact rfl); (focus exact (by first | exact ecfc rfl | exact ef62 rfl | exact rfl))) | (apply RenL.other; (focus exact rfl)))); done) | fail), ?_⟩))) | refine po ?_ | fail)
  refine aW.ghost (Ghost.unflat (o := 11) rfl) ?_
  dsimp only [St.upds, updl]
  refine aW.ghost (Ghost.share (o := 11) rfl) ?_
  dsimp only [St.upds, updl]
  refine aW.loopF rfl (fun q : Int × Nat × Int × Nat × TS => [(8, .t (.int .i64 q.1)), (7, .hnd 11 q.2.2.2.1)]) [(0, _), (1, _)] (fun q : Int × Nat × Int × Nat × TS => [(0, 0, .box 144 [.t (.lst true 5 (codeE xs)), .t (.int .i64 q.2.1), .t (.int .i64 q.2.2.1)]), (11, q.2.2.2.1, .row false false 26 (q.2.2.2.2.map trackC))]) [] (fun q : Int × Nat × Int × Nat × TS => 0 ≤ q.1 ∧ q.1 ≤ 23 ∧ (q.2.2.2.2.length : Int) + 4 * q.1 ≤ 92 ∧ rowsOf n q.2.2.2.2) (fun q : Int × Nat × Int × Nat × TS => q.1.toNat) (b.2.2, b.1, b.2.1, 1, []) ⟨by show (0 : Int) ≤ b.2.2; omega, by show (b.2.2 : Int) ≤ 23; omega, by show (([] : TS).length : Int) + 4 * (b.2.2 : Int) ≤ 92; simp; omega, fun t ht => by cases ht⟩ (by (exact plei)) ?_
  rintro ⟨k, i1, h1, ep, ts⟩ hI
  obtain ⟨hk0, hk1, hlen, hall⟩ : 0 ≤ k ∧ k ≤ 23 ∧ (ts.length : Int) + 4 * k ≤ 92 ∧ rowsOf n ts := hI
  dsimp only [List.cons_append, List.nil_append]
  by_cases hk : 0 < k
  · repeat' (first | refine pa ?_ | (refine pb ?_ ?_ <;> intro hg) | (refine q4ed5 (n := 20) ?_; (first | (refine q608c (m := [(0, _, _)]) (AMP.ro (a_s_l02Row _ hxl _ _ n hn)) (fun e he => ?_); refine ⟨_, _, _, (by first | exact Imp3.ptr rfl (by first | exact ecfc rfl | exact ef62 rfl | exact rfl) | exact Imp3.hnd rfl (by first | exact ecfc rfl | exact ef62 rfl | exact rfl) | exact Imp3.imp rfl (by first | exact Imp2.other rfl rfl rfl | exact Imp2.fr (by first | exact ecfc rfl | exact ef62 rfl) | exact Imp2.agg (by first | ((repeat' (first | exact ImpL.nil | exact ImpT.nil | (apply ImpL.other; (focus exact rfl)) | (apply ImpL.fr; (focus exact (by first | exact ecfc rfl | exact ef62 rfl))) | (apply ImpT.other; (focus exact rfl); (focus exact rfl)) | apply ImpT.agg | (apply ImpT.fr; (focus exact (by first | exact ecfc rfl | exact ef62 rfl))))); done) | fail) | exact Imp2.tup (by first | ((repeat' (first | exact ImpL.nil | exact ImpT.nil | (apply ImpL.other; (focus exact rfl)) | (apply ImpL.fr; (focus exact (by first | exact ecfc rfl | exact ef62 rfl))) | (apply ImpT.other; (focus exact rfl); (focus exact rfl)) | apply ImpT.agg | (apply ImpT.fr; (focus exact (by first | exact ecfc rfl | exact ef62 rfl))))); done) | fail))), rfl, rfl, (by first | exact .inr rfl | exact .inl ⟨rfl, rfl⟩), rfl, rfl, (by first | ((repeat' (first | exact RenR.nil | exact RenL.nil | (apply RenR.row; (focus exact rfl); (focus exact (by first | exact ecfc rfl | exact ef62 rfl | exact rfl))) | (apply RenR.box; (focus exact rfl); (focus exact (by first | exact ecfc rfl | exact ef62 rfl | exact rfl))) | (apply RenR.gone; (focus exact rfl); (focus exact (by first | exact ecfc rfl | exact ef62 rfl | exact rfl))) | (apply RenL.hnd; (focus exact rfl); (focus exact (by first | exact ecfc rfl | exact ef62 rfl | exact rfl))) | (apply RenL.ptr; (focus exact rfl); (focus exact (by first | exact ecfc rfl | exact ef62 rfl | exact rfl))) | (apply RenL.view; (focus exact rfl); (focus exact (by first | exact ecfc rfl | exact ef62 rfl | exact rfl))) | (apply RenL.other; (focus exact rfl)))); done) | fail), ?_⟩) | (refine q608c (m := [(0, _, _)]) (a_s_l01Below _ hxl _ _ 4 (by decide)) (fun c hc => ?_); refine ⟨_, _, _, (by first | exact Imp3.ptr rfl (by first | exact ecfc rfl | exact ef62 rfl | exact rfl) | exact Imp3.hnd rfl (by first | exact ecfc rfl | exact ef62 rfl | exact rfl) | exact Imp3.imp rfl (by first | exact Imp2.other rfl rfl rfl | exact Imp2.fr (by first | exact ecfc rfl | exact ef62 rfl) | exact Imp2.agg (by first | ((repeat' (first | exact ImpL.nil | exact ImpT.nil | (apply ImpL.other; (focus exact rfl)) | (apply ImpL.fr; (focus exact (by first | exact ecfc rfl | exact ef62 rfl))) | (apply ImpT.other; (focus exact rfl); (focus exact rfl)) | apply ImpT.agg | (apply ImpT.fr; (focus exact (by first | exact ecfc rfl | exact ef62 rfl))))); done) | fail) | exact Imp2.tup (by first | ((repeat' (first | exact ImpL.nil | exact ImpT.nil | (apply ImpL.other; (focus exact rfl)) | (apply ImpL.fr; (focus exact (by first | exact ecfc rfl | exact ef62 rfl))) | (apply ImpT.other; (focus exact rfl); (focus exact rfl)) | apply ImpT.agg | (apply ImpT.fr; (focus exact (by first | exact ecfc rfl | exact ef62 rfl))))); done) | fail))), rfl, rfl, (by first | exact .inr rfl | exact .inl ⟨rfl, rfl⟩), rfl, rfl, (by first | ((repeat' (first | exact RenR.nil | exact RenL.nil | (apply RenR.row; (focus exact rfl); (focus exact (by first | exact ecfc rfl | exact ef62 rfl | exact rfl))) | (apply RenR.box; (focus exact rfl); (focus exact (by first | exact ecfc rfl | exact ef62 rfl | exact rfl))) | (apply RenR.gone; (focus exact rfl); (focus exact (by first | exact ecfc rfl | exact ef62 rfl | exact rfl))) | (apply RenL.hnd; (focus exact rfl); (focus exact (by first | exact ecfc rfl | exact ef62 rfl | exact rfl))) | (apply RenL.ptr; (focus exact rfl); (focus exact (by first | exact ecfc rfl | exact ef62 rfl | exact rfl))) | (apply RenL.view; (focus exact rfl); (focus exact (by first | exact ecfc rfl | exact ef62 rfl | exact rfl))) | (apply RenL.other; (focus exact rfl)))); done) | fail), ?_⟩))) | refine po ?_ | fail)
    refine aW.loopF rfl (fun q : Int × Nat × TS => [(10, .t (.int .i64 q.1)), (7, .hnd 11 q.2.1)]) [(0, _), (1, _), (8, _), (9, _)] (fun q : Int × Nat × TS => [(11, q.2.1, .row false false 26 (q.2.2.map trackC))]) [(0, _, _)] (fun q : Int × Nat × TS => -1 ≤ q.1 ∧ q.1 ≤ 3 ∧ (q.2.2.length : Int) + (q.1 + 1) + 4 * (k - 1) ≤ 92 ∧ rowsOf n q.2.2) (fun q : Int × Nat × TS => (q.1 + 1).toNat) (c.2.2, ep, ts) ⟨by show -1 ≤ (c.2.2 : Int); omega, by show (c.2.2 : Int) ≤ 3; omega, by show (ts.length : Int) + ((c.2.2 : Int) + 1) + 4 * (k - 1) ≤ 92; omega, hall⟩ (by (exact plei)) ?_
    rintro ⟨j, ep2, ys⟩ hI
    obtain ⟨hj0, hj4, hlen2, hall2⟩ : -1 ≤ j ∧ j ≤ 3 ∧ (ys.length : Int) + (j + 1) + 4 * (k - 1) ≤ 92 ∧ rowsOf n ys := hI
    have hel : (ys.map trackC).length = ys.length := List.length_map _
    dsimp only [List.cons_append, List.nil_append]
    by_cases hj : 0 ≤ j
    · repeat' (first | refine pa ?_ | (refine pb ?_ ?_ <;> intro hg) | refine po ?_ | fail)
      exact ⟨(j - 1, ep2 + 1, ys ++ [e.2.2]), ⟨by show -1 ≤ j - 1; omega, by show j - 1 ≤ 3; omega, by show ((ys ++ [e.2.2]).length : Int) + (j - 1 + 1) + 4 * (k - 1) ≤ 92; rw [List.length_append]; simp; omega, rowsOf_push hall2 he⟩, by show (j - 1 + 1).toNat < (j + 1).toNat; omega, by rw [rows_push]; (exact ple)⟩
    · repeat' (first | refine pa ?_ | (refine pb ?_ ?_ <;> intro hg) | refine po ?_ | fail)
      exact ⟨(k - 1, _, _, _, ys), ⟨by show 0 ≤ k - 1; omega, by show k - 1 ≤ 23; omega, by show (ys.length : Int) + 4 * (k - 1) ≤ 92; omega, hall2⟩, by show (k - 1).toNat < k.toNat; omega, by (exact ple)⟩
  · refine aW.ghost (Ghost.free (o := 11) (ep := ep) (s := 7) rfl rfl) ?_
    dsimp only [St.upds, updl]
    repeat' (first | refine pa ?_ | (refine pb ?_ ?_ <;> intro hg) | refine po ?_ | fail)
    (show DoneP _ _ _ _ _ _ _ _; apply done3; (case dd => (dsimp only; (show DoneM _ _ _ _ _ _ _; refine qb0ba ?_; first | exact .inl ⟨rfl, rfl, rfl⟩ | refine .inr ⟨rfl, ?_, (by first | exact List.nodup_nil | simp [ids2, ids1, ids0]), rfl⟩); exact .inl rfl)); case pp => exact ⟨by show ts.length ≤ 92; omega, hall⟩)
end Go.Proofs.Ytmkpgcahmbancaa
namespace Go.Proofs.Ytmkpgcahmbancaa
set_option linter.unusedSimpArgs false
set_option linter.unusedVariables false
open Go.RowKit Ab
theorem T86d1 {X Y : Prop} (h : Y) (r : Hld Y → X := by intro h; exact aW.draw (os := []) (Checked.mixed Try.checked) rfl (by refine aA.to (n' := 10) rfl rfl ?_; (apply aA.cut (ls := lsN 10 1023) (n := 0); (focus (intro hd5; (apply aA.cut (ls := lsN 10 255) (n := 2); (focus (intro hd4; (apply aA.cut (ls := lsN 10 127) (n := 3); (focus (intro hd3; (apply aA.cut (ls := lsN 10 125) (n := 4); (focus (intro hd2; (apply aA.cut (ls := lsN 10 63) (n := 4); (focus (intro hd1; (refine pt15_ 0 ?_ <;> refine pt0_ 2 ?_ <;> refine pt0_ 3 ?_ <;> refine pt0_ 4 ?_ <;> refine pt14_ 5 ?_ <;> (refine pall [1, 6] (And.intro ?_ (And.intro ?_ trivial)); (focus ((refine pop ?_; refine pk7 ?_) <;> ((try refine pnorm ?_); exact pto hd1))); (focus ((refine pop ?_; refine pk6 ?_) <;> ((try refine pnorm ?_); exact pto hd2))))))); (case main => ((refine pall [6] (And.intro ?_ trivial); (focus ((refine pop ?_; refine pk6 ?_) <;> ((try refine pnorm ?_); exact pto hd3))))))))); (case main => ((refine pall [1] (And.intro ?_ trivial); (focus ((refine pop ?_; refine pk7 ?_) <;> (exact pto (aA.weak hd3 (Le.ofU rfl (by repeat' (first | exact trivial | refine And.intro ?_ ?_ | exact Eq.refl _)) (by repeat' (first | exact trivial | refine And.intro ?_ ?_ | exact Eq.refl _)) rfl))))))))))); (case main => ((refine pall [7] (And.intro ?_ trivial); (focus ((refine pop ?_; refine pk20 ?_) <;> ((try refine pnorm ?_); exact pto hd4))))))))); (case main => (refine pt15_ 8 ?_ <;> (refine pall [9] (And.intro ?_ trivial); (focus ((refine pop ?_; refine pk8 ?_) <;> ((try refine pnorm ?_); exact pto hd5))))))))); (case main => ((refine pdone ?_; exact qf2c0))))) h.out) : X := r ⟨h⟩
theorem strsE_push (l : List (List UInt8)) (x : List UInt8) : strsE (l ++ [x]) = strsE l ++ [[T.str x]] := by simp [strsE, strC]
/-- Where the cutting stands: the rows so far, where the next one begins, how far one has looked. -/
def CutAt (s : List UInt8) (k a : Nat) (rows : List (List UInt8)) : Prop := (k ≤ s.length ∧ a ≤ k ∧ rows.length ≤ k ∧ rows ++ cutAt ((s.take k).drop a) (s.drop k) = cutAt [] s) ∨ (k = s.length + 1 ∧ rows.length ≤ k ∧ rows = cutAt [] s)
theorem CutAt.end_ {s : List UInt8} {a : Nat} {rows : List (List UInt8)} (h : CutAt s s.length a rows) : CutAt s (s.length + 1) (s.length + 1) (rows ++ [(s.take s.length).drop a]) := by
  rcases h with ⟨h1, h2, h3, h4⟩ | ⟨h1, _⟩
  · refine .inr ⟨rfl, by rw [List.length_append]; simp; omega, ?_⟩
    rw [List.drop_length] at h4
    exact h4
  · omega
theorem CutAt.cut {s : List UInt8} {k a : Nat} {rows : List (List UInt8)} (h : CutAt s k a rows) (hk : k < s.length) (hb : s.getD k 0 = 47) : CutAt s (k + 1) (k + 1) (rows ++ [(s.take k).drop a]) := by
  rcases h with ⟨h1, h2, h3, h4⟩ | ⟨h1, _⟩
  · refine .inl ⟨hk, Nat.le_refl _, by rw [List.length_append]; simp; omega, ?_⟩
    have hd : s.drop k = s.getD k 0 :: s.drop (k + 1) := by rw [List.getD_eq_getElem?_getD, List.getElem?_eq_getElem hk]; exact List.drop_eq_getElem_cons hk
    rw [hd, cutAt, if_pos hb] at h4
    rw [List.append_assoc, show (s.take (k + 1)).drop (k + 1) = [] from List.drop_of_length_le (by rw [List.length_take]; omega)]
    exact h4
  · omega
theorem CutAt.go {s : List UInt8} {k a : Nat} {rows : List (List UInt8)} (h : CutAt s k a rows) (hk : k < s.length) (hb : ¬ s.getD k 0 = 47) : CutAt s (k + 1) a rows := by
  rcases h with ⟨h1, h2, h3, h4⟩ | ⟨h1, _⟩
  · refine .inl ⟨hk, by omega, by omega, ?_⟩
    have hg : s.getD k 0 = s[k] := by rw [List.getD_eq_getElem?_getD, List.getElem?_eq_getElem hk]; rfl
    have hd : s.drop k = s.getD k 0 :: s.drop (k + 1) := by rw [hg]; exact List.drop_eq_getElem_cons hk
    rw [hd, cutAt, if_neg hb] at h4
    rw [List.take_succ_eq_append_getElem hk, List.drop_append_of_le_length (by rw [List.length_take]; omega), ← hg]
    exact h4
  · omega
theorem piece_eq {s : List UInt8} {k a : Nat} : (s.take k).drop a = List.take ((k : Int).toNat - (a : Int).toNat) (List.drop (a : Int).toNat s) := by
  rw [Int.toNat_natCast, Int.toNat_natCast]
  exact List.drop_take
set_option maxRecDepth 20000 in
set_option maxHeartbeats 4000000 in
theorem a_s_ParseLevel (s : List UInt8) (hs : s.length ≤ 1000) (hok : levelOk (cutAt [] s) = true) : AC Try.prog 132 [.t (.str s)] (.tup [.agg [.fr true 9 (strsE (cutAt [] s))], .t (.bool true)]) := by
  have hLv := a_s_LevelOk (cutAt [] s)
  rw [hok] at hLv
  refine AC.go Try.func132 Try.ntmps132 fun B W hr => ?_
  repeat' (first | refine pa ?_ | (refine pb ?_ ?_ <;> intro hg) | refine po ?_ | (refine T86d1 ?_) | fail)
  refine aW.nilcell (o := 4) (i := 500) (k := 0) true 9 rfl rfl rfl rfl rfl ?_
  refine aW.loopF rfl (fun q : Nat × Nat × Nat × List (List UInt8) => [(6, .t (.int .i64 q.1)), (5, .t (.int .i64 q.2.1))]) [(0, _), (2, _), (3, _), (4, _)] (fun q : Nat × Nat × Nat × List (List UInt8) => [(4, 1, .box 39 [.hnd 500 q.2.2.1]), (500, q.2.2.1, .row true true 9 (strsE q.2.2.2))]) [(2, _, _)] (fun q : Nat × Nat × Nat × List (List UInt8) => q.1 ≤ s.length + 1 ∧ CutAt s q.1 q.2.1 q.2.2.2) (fun q : Nat × Nat × Nat × List (List UInt8) => s.length + 1 - q.1) (0, 0, 1, []) ⟨Nat.zero_le _, .inl ⟨Nat.zero_le _, Nat.le_refl _, Nat.le_refl _, rfl⟩⟩ (by (exact plei)) ?_
  rintro ⟨k, a, ep, rows⟩ hI
  obtain ⟨hk0, hcut⟩ : k ≤ s.length + 1 ∧ CutAt s k a rows := hI
  have hrl : (strsE rows).length = rows.length := strsE_len rows
  have hkr : rows.length ≤ k := by rcases hcut with h | h <;> omega
  have hak : k ≤ s.length → a ≤ k := fun h => by rcases hcut with h | h <;> omega
  dsimp only [List.cons_append, List.nil_append]
  by_cases hk : k ≤ s.length
  · have hak := hak hk
    by_cases he : k = s.length
    · subst he
      repeat' (first | refine pa ?_ | (refine pb ?_ ?_ <;> intro hg) | refine po ?_ | (refine T86d1 ?_) | fail)
      exact ⟨(s.length + 1, s.length + 1, ep + 1, _), ⟨Nat.le_refl _, hcut.end_⟩, by show s.length + 1 - (s.length + 1) < s.length + 1 - s.length; omega, by rw [strsE_push, piece_eq]; (exact ple)⟩
    · have hlt : k < s.length := by omega
      by_cases hb0 : (((s.getD ((k : Int).toNat) 0).toNat : Nat) : Int) = 47
      · have hb : s.getD k 0 = 47 := by
          rw [Int.toNat_natCast] at hb0
          exact UInt8.toNat_inj.1 (by have : (47 : UInt8).toNat = 47 := rfl; omega)
        repeat' (first | refine pa ?_ | (refine pb ?_ ?_ <;> intro hg) | refine po ?_ | (refine T86d1 ?_) | fail)
        exact ⟨(k + 1, k + 1, ep + 1, _), ⟨by show k + 1 ≤ s.length + 1; omega, hcut.cut hlt hb⟩, by show s.length + 1 - (k + 1) < s.length + 1 - k; omega, by rw [strsE_push, piece_eq]; (exact ple)⟩
      · have hb : ¬ s.getD k 0 = 47 := fun e => hb0 (by rw [Int.toNat_natCast, e]; rfl)
        repeat' (first | refine pa ?_ | (refine pb ?_ ?_ <;> intro hg) | refine po ?_ | (refine T86d1 ?_) | fail)
        exact ⟨(k + 1, a, ep, _), ⟨by show k + 1 ≤ s.length + 1; omega, hcut.go hlt hb⟩, by show s.length + 1 - (k + 1) < s.length + 1 - k; omega, by (exact ple)⟩
  · have hall : rows = cutAt [] s := by rcases hcut with h | h; omega; exact h.2.2
    subst hall
    repeat' (first | refine pa ?_ | (refine pb ?_ ?_ <;> intro hg) | (refine q4ed5 (n := 20) ?_; (first | refine qeaf1 (hLv) ?_)) | refine po ?_ | (refine T86d1 ?_) | fail)
    refine pfin ?_
    (exact pgiv)
def texts5 : List (List UInt8) := [text1, text2, text3, text4, text5]
theorem texts5_ok {j : Nat} (hj : j < 5) : (texts5.getD j default).length ≤ 1000 ∧ LevelP (cutAt [] (texts5.getD j default)) := by
  match j, hj with
  | 0, _ => exact ⟨by decide, lv1_ok⟩
  | 1, _ => exact ⟨by decide, lv2_ok⟩
  | 2, _ => exact ⟨by decide, lv3_ok⟩
  | 3, _ => exact ⟨by decide, lv4_ok⟩
  | 4, _ => exact ⟨by decide, lv5_ok⟩
set_option maxRecDepth 20000 in
set_option maxHeartbeats 4000000 in
theorem a_s_l02Levels : AC Try.prog 133 [] (.fr true 9 (strsE texts5)) := by
  refine AC.go Try.func133 Try.ntmps133 fun B W hr => ?_
  repeat' (first | refine pa ?_ | (refine pb ?_ ?_ <;> intro hg) | refine po ?_ | fail)
  refine pfin ?_
  exact rfl
set_option maxRecDepth 20000 in
set_option maxHeartbeats 4000000 in
theorem a_s_l02Level (xs : List Int) (hxl : xs.length ≤ 1048576) (i : Nat) (h : Int) : AMP Try.prog 80 [(0, 0, .box 144 [.t (.lst true 5 (codeE xs)), .t (.int .i64 i), .t (.int .i64 h)])] [.ptr 0 0 0 0] (α := Nat × Int × Lv) (fun x => [(0, 0, .box 144 [.t (.lst true 5 (codeE xs)), .t (.int .i64 x.1), .t (.int .i64 x.2.1)])]) (fun x => .agg [.fr true 9 (strsE x.2.2)]) (fun x => LevelP x.2.2) := by
  have hls := a_s_l02Levels
  have htx : texts5.length = 5 := rfl
  have hok : ∀ j, j < 5 → (texts5.getD j default).length ≤ 1000 ∧ LevelP (cutAt [] (texts5.getD j default)) := fun j hj => texts5_ok hj
  generalize texts5 = ts at hls htx hok
  have htl := strsE_len ts
  refine AMP.go Try.func80 Try.ntmps80 fun B W hr => ?_
  repeat' (first | (first | refine pc ?_ | (refine pbc ?_ ?_ <;> intro hg)) | (((first | refine pl ?_ | (refine pbl ?_ ?_ <;> intro hg))) <;> (first | (first | (refine q4ed5 (n := 20) ?_; (first | refine q03c7 (hls) ?_ | (refine q608c (m := [(0, _, _)]) (a_s_l01Below _ hxl _ _ 5 (by decide)) (fun b hb => ?_); refine ⟨_, _, _, (by first | exact Imp3.ptr rfl (by first | exact ecfc rfl | exact ef62 rfl | exact rfl) | exact Imp3.hnd rfl (by first | exact ecfc rfl | exact ef62 rfl | exact rfl) | exact Imp3.imp rfl (by first | exact Imp2.other rfl rfl rfl | exact Imp2.fr (by first | exact ecfc rfl | exact ef62 rfl) | exact Imp2.agg (by first | ((repeat' (first | exact ImpL.nil | exact ImpT.nil | (apply ImpL.other; (focus exact rfl)) | (apply ImpL.fr; (focus exact (by first | exact ecfc rfl | exact ef62 rfl))) | (apply ImpT.other; (focus exact rfl); (focus exact rfl)) | apply ImpT.agg | (apply ImpT.fr; (focus exact (by first | exact ecfc rfl | exact ef62 rfl))))); done) | fail) | exact Imp2.tup (by first | ((repeat' (first | exact ImpL.nil | exact ImpT.nil | (apply ImpL.other; (focus exact rfl)) | (apply ImpL.fr; (focus exact (by first | exact ecfc rfl | exact ef62 rfl))) | (apply ImpT.other; (focus exact rfl); (focus exact rfl)) | apply ImpT.agg | (apply ImpT.fr; (focus exact (by first | exact ecfc rfl | exact ef62 rfl))))); done) | fail))), rfl, rfl, (by first | exact .inr rfl | exact .inl ⟨rfl, rfl⟩), rfl, rfl, (by first | ((repeat' (first | exact RenR.nil | exact RenL.nil | (apply RenR.row; (focus exact rfl); (focus exact (by first | exact ecfc rfl | exact ef62 rfl | exact rfl))) | (apply RenR.box; (focus exact rfl); (focus exact (by first | exact ecfc rfl | exact ef62 rfl | exact rfl))) | (apply RenR.gone; (focus exact rfl); (focus exact (by first | exact ecfc rfl | exact ef62 rfl | exact rfl))) | (apply RenL.hnd; (focus exact rfl); (focus exact (by first | exact ecfc rfl | exact ef62 rfl | exact rfl))) | (apply RenL.ptr; (focus exact rfl); (focus exact (by first | exact ecfc rfl | exact ef62 rfl | exact rfl))) | (apply RenL.view; (focus exact rfl); (focus exact (by first | exact ecfc rfl | exact ef62 rfl | exact rfl))) | (apply RenL.other; (focus exact rfl)))); done) | fail), ?_⟩))) | refine po ?_) | (fail_if_success (show OpS _ _ _ _ _ _)))) | fail)
  have hj : b.2.2 < 5 := by omega
  obtain ⟨q1, q2⟩ := hok _ hj
  have hp := a_s_ParseLevel (ts.getD b.2.2 default) q1 (levelOk_iff.2 q2)
  repeat' (first | refine pa ?_ | (refine pb ?_ ?_ <;> intro hg) | (refine q4ed5 (n := 20) ?_; (first | (first | refine q0cb1 (hp) ?_ | refine qdd4a (hp) ?_ | refine q3c89 (hp) ?_))) | refine po ?_ | fail)
  (show DoneP _ _ _ _ _ _ _ _; apply done3; (case dd => (dsimp only; (show DoneM _ _ _ _ _ _ _; refine qb0ba ?_; first | exact .inl ⟨rfl, rfl, rfl⟩ | refine .inr ⟨rfl, ?_, (by first | exact List.nodup_nil | simp [ids2, ids1, ids0]), rfl⟩); (exact pgiv))); case pp => exact q2)
end Go.Proofs.Ytmkpgcahmbancaa
namespace Go.Proofs.Ytmkpgcahmbancaa
set_option linter.unusedSimpArgs false
set_option linter.unusedVariables false
open Go.RowKit Ab
/-- A new world of a valid level, and rows of inputs for it. -/
def PlayP (x : Wd × TS) : Prop := ∃ (l : Lv) (n : Nat) (seed : Int), LevelP l ∧ (1 ≤ n ∧ n ≤ 4) ∧ (0 ≤ seed ∧ seed ≤ 65535) ∧ x.1 = newV l n seed ∧ x.2.length ≤ 92 ∧ rowsOf n x.2
theorem a_s_l02Level_ro (xs : List Int) (hxl : xs.length ≤ 1048576) (i : Nat) (h : Int) : AMP Try.prog 80 [(0, 0, .box 144 [.t (.lst true 5 (codeE xs)), .t (.int .i64 i), .t (.int .i64 h)])] [.ptr 0 0 0 0] (α := Nat × Int × Lv) (fun x => [(0, 0, .box 144 [.t (.lst true 5 (codeE xs)), .t (.int .i64 x.1), .t (.int .i64 x.2.1)])]) (fun x => .agg [.t (.lst true 9 (strsE x.2.2))]) (fun x => LevelP x.2.2) := (a_s_l02Level xs hxl i h).ro
set_option maxRecDepth 20000 in
set_option maxHeartbeats 4000000 in
theorem a_s_DrawPlay (xs : List Int) (hxl : xs.length ≤ 1048576) : AMP Try.prog 22 [] [.t (.lst true 5 (codeE xs))] (α := Wd × TS) (fun _ => []) (fun x => .tup [.agg [.t (.lst true 9 (strsE x.1.level)), .t (.int .i64 x.1.tick), .t (.int .i64 x.1.seed), .t (ints 3 x.1.scores), .t (.lst true 114 (x.1.bodies.map bodyC))], .t (.lst false 26 (x.2.map trackC))]) PlayP := by
  refine AMP.go Try.func22 Try.ntmps22 fun B W hr => ?_
  repeat' (first | refine pa ?_ | (refine pb ?_ ?_ <;> intro hg) | (refine q4ed5 (n := 20) ?_; (first | (refine q608c (m := [(31, 7000, 0)]) (a_s_l01New _ hxl) (fun c hc => ?_); refine ⟨_, _, _, (by first | exact Imp3.ptr rfl (by first | exact ecfc rfl | exact ef62 rfl | exact rfl) | exact Imp3.hnd rfl (by first | exact ecfc rfl | exact ef62 rfl | exact rfl) | exact Imp3.imp rfl (by first | exact Imp2.other rfl rfl rfl | exact Imp2.fr (by first | exact ecfc rfl | exact ef62 rfl) | exact Imp2.agg (by first | ((repeat' (first | exact ImpL.nil | exact ImpT.nil | (apply ImpL.other; (focus exact rfl)) | (apply ImpL.fr; (focus exact (by first | exact ecfc rfl | exact ef62 rfl))) | (apply ImpT.other; (focus exact rfl); (focus exact rfl)) | apply ImpT.agg | (apply ImpT.fr; (focus exact (by first | exact ecfc rfl | exact ef62 rfl))))); done) | fail) | exact Imp2.tup (by first | ((repeat' (first | exact ImpL.nil | exact ImpT.nil | (apply ImpL.other; (focus exact rfl)) | (apply ImpL.fr; (focus exact (by first | exact ecfc rfl | exact ef62 rfl))) | (apply ImpT.other; (focus exact rfl); (focus exact rfl)) | apply ImpT.agg | (apply ImpT.fr; (focus exact (by first | exact ecfc rfl | exact ef62 rfl))))); done) | fail))), rfl, rfl, (by first | exact .inr rfl | exact .inl ⟨rfl, rfl⟩), rfl, rfl, (by first | ((repeat' (first | exact RenR.nil | exact RenL.nil | (apply RenR.row; (focus exact rfl); (focus exact (by first | exact ecfc rfl | exact ef62 rfl | exact rfl))) | (apply RenR.box; (focus exact rfl); (focus exact (by first | exact ecfc rfl | exact ef62 rfl | exact rfl))) | (apply RenR.gone; (focus exact rfl); (focus exact (by first | exact ecfc rfl | exact ef62 rfl | exact rfl))) | (apply RenL.hnd; (focus exact rfl); (focus exact (by first | exact ecfc rfl | exact ef62 rfl | exact rfl))) | (apply RenL.ptr; (focus exact rfl); (focus exact (by first | exact ecfc rfl | exact ef62 rfl | exact rfl))) | (apply RenL.view; (focus exact rfl); (focus exact (by first | exact ecfc rfl | exact ef62 rfl | exact rfl))) | (apply RenL.other; (focus exact rfl)))); done) | fail), ?_⟩) | (refine q608c (m := [(0, _, _)]) (a_s_l02Level_ro _ hxl _ _) (fun l hl => ?_); refine ⟨_, _, _, (by first | exact Imp3.ptr rfl (by first | exact ecfc rfl | exact ef62 rfl | exact rfl) | exact Imp3.hnd rfl (by first | exact ecfc rfl | exact ef62 rfl | exact rfl) | exact Imp3.imp rfl (by first | exact Imp2.other rfl rfl rfl | exact Imp2.fr (by first | exact ecfc rfl | exact ef62 rfl) | exact Imp2.agg (by first | ((repeat' (first | exact ImpL.nil | exact ImpT.nil | (apply ImpL.other; (focus exact rfl)) | (apply ImpL.fr; (focus exact (by first | exact ecfc rfl | exact ef62 rfl))) | (apply ImpT.other; (focus exact rfl); (focus exact rfl)) | apply ImpT.agg | (apply ImpT.fr; (focus exact (by first | exact ecfc rfl | exact ef62 rfl))))); done) | fail) | exact Imp2.tup (by first | ((repeat' (first | exact ImpL.nil | exact ImpT.nil | (apply ImpL.other; (focus exact rfl)) | (apply ImpL.fr; (focus exact (by first | exact ecfc rfl | exact ef62 rfl))) | (apply ImpT.other; (focus exact rfl); (focus exact rfl)) | apply ImpT.agg | (apply ImpT.fr; (focus exact (by first | exact ecfc rfl | exact ef62 rfl))))); done) | fail))), rfl, rfl, (by first | exact .inr rfl | exact .inl ⟨rfl, rfl⟩), rfl, rfl, (by first | ((repeat' (first | exact RenR.nil | exact RenL.nil | (apply RenR.row; (focus exact rfl); (focus exact (by first | exact ecfc rfl | exact ef62 rfl | exact rfl))) | (apply RenR.box; (focus exact rfl); (focus exact (by first | exact ecfc rfl | exact ef62 rfl | exact rfl))) | (apply RenR.gone; (focus exact rfl); (focus exact (by first | exact ecfc rfl | exact ef62 rfl | exact rfl))) | (apply RenL.hnd; (focus exact rfl); (focus exact (by first | exact ecfc rfl | exact ef62 rfl | exact rfl))) | (apply RenL.ptr; (focus exact rfl); (focus exact (by first | exact ecfc rfl | exact ef62 rfl | exact rfl))) | (apply RenL.view; (focus exact rfl); (focus exact (by first | exact ecfc rfl | exact ef62 rfl | exact rfl))) | (apply RenL.other; (focus exact rfl)))); done) | fail), ?_⟩))) | refine po ?_ | fail)
  (first | (refine q4ed5 (n := 20) ?_; (first | (refine q608c (m := [(0, _, _)]) (a_s_l01Below _ hxl _ _ 4 (by decide)) (fun b hb => ?_); refine ⟨_, _, _, (by first | exact Imp3.ptr rfl (by first | exact ecfc rfl | exact ef62 rfl | exact rfl) | exact Imp3.hnd rfl (by first | exact ecfc rfl | exact ef62 rfl | exact rfl) | exact Imp3.imp rfl (by first | exact Imp2.other rfl rfl rfl | exact Imp2.fr (by first | exact ecfc rfl | exact ef62 rfl) | exact Imp2.agg (by first | ((repeat' (first | exact ImpL.nil | exact ImpT.nil | (apply ImpL.other; (focus exact rfl)) | (apply ImpL.fr; (focus exact (by first | exact ecfc rfl | exact ef62 rfl))) | (apply ImpT.other; (focus exact rfl); (focus exact rfl)) | apply ImpT.agg | (apply ImpT.fr; (focus exact (by first | exact ecfc rfl | exact ef62 rfl))))); done) | fail) | exact Imp2.tup (by first | ((repeat' (first | exact ImpL.nil | exact ImpT.nil | (apply ImpL.other; (focus exact rfl)) | (apply ImpL.fr; (focus exact (by first | exact ecfc rfl | exact ef62 rfl))) | (apply ImpT.other; (focus exact rfl); (focus exact rfl)) | apply ImpT.agg | (apply ImpT.fr; (focus exact (by first | exact ecfc rfl | exact ef62 rfl))))); done) | fail))), rfl, rfl, (by first | exact .inr rfl | exact .inl ⟨rfl, rfl⟩), rfl, rfl, (by first | ((repeat' (first | exact RenR.nil | exact RenL.nil | (apply RenR.row; (focus exact rfl); (focus exact (by first | exact ecfc rfl | exact ef62 rfl | exact rfl))) | (apply RenR.box; (focus exact rfl); (focus exact (by first | exact ecfc rfl | exact ef62 rfl | exact rfl))) | (apply RenR.gone; (focus exact rfl); (focus exact (by first | exact ecfc rfl | exact ef62 rfl | exact rfl))) | (apply RenL.hnd; (focus exact rfl); (focus exact (by first | exact ecfc rfl | exact ef62 rfl | exact rfl))) | (apply RenL.ptr; (focus exact rfl); (focus exact (by first | exact ecfc rfl | exact ef62 rfl | exact rfl))) | (apply RenL.view; (focus exact rfl); (focus exact (by first | exact ecfc rfl | exact ef62 rfl | exact rfl))) | (apply RenL.other; (focus exact rfl)))); done) | fail), ?_⟩))) | refine po ?_)
  repeat' (first | refine pa ?_ | (refine pb ?_ ?_ <;> intro hg) | refine po ?_ | fail)
  obtain ⟨n, hn⟩ : ∃ n : Nat, 1 + (b.2.2 : Int) = (n : Int) := ⟨1 + b.2.2, by omega⟩
  have hn4 : 1 ≤ n ∧ n ≤ 4 := by omega
  rw [hn]
  have hnw : ∀ (sd : Nat) (v : Wd), (sd : Int) < 65536 → v = newV l.2.2 n sd → AC Try.prog 82 [.agg [.t (.lst true 9 (strsE l.2.2))], .t (.int .i64 (n : Int)), .t (.int .i64 (sd : Int))] (.tup [.agg [.fr true 9 (strsE v.level), .t (.int .i64 v.tick), .t (.int .i64 v.seed), .fr true 3 (intsE v.scores), .fr true 114 (v.bodies.map bodyC)], .t (.bool true)]) := fun sd v hs hv => by
    have hok : newOk l.2.2 (n : Int) sd := ⟨hl, by omega, by omega, by omega⟩
    have h := a_s_NewWorld l.2.2 (n : Int) sd (by have := hl.n12; omega) v (by
      rw [hv, newWV, if_pos hok, Int.toNat_natCast])
    rw [decide_eq_true hok] at h
    exact h
  refine aW.draw_k (os := [5]) (Checked.mixed Try.checked) rfl ?_
  refine aA.to (n' := 11) rfl rfl ?_
  refine pt7_ 0 ?_
  refine pt0_ 1 ?_
  refine pt0_ 2 ?_
  refine pall [3, 8] (And.intro ?_ (And.intro ?_ trivial))
  · refine pop ?_
    (first | (refine q4ed5 (n := 20) ?_; (first | (refine q608c (m := [(0, _, _)]) (a_s_l01Below _ hxl _ _ 65536 (by decide)) (fun s hs => ?_); refine ⟨_, _, _, (by first | exact Imp3.ptr rfl (by first | exact ecfc rfl | exact ef62 rfl | exact rfl) | exact Imp3.hnd rfl (by first | exact ecfc rfl | exact ef62 rfl | exact rfl) | exact Imp3.imp rfl (by first | exact Imp2.other rfl rfl rfl | exact Imp2.fr (by first | exact ecfc rfl | exact ef62 rfl) | exact Imp2.agg (by first | ((repeat' (first | exact ImpL.nil | exact ImpT.nil | (apply ImpL.other; (focus exact rfl)) | (apply ImpL.fr; (focus exact (by first | exact ecfc rfl | exact ef62 rfl))) | (apply ImpT.other; (focus exact rfl); (focus exact rfl)) | apply ImpT.agg | (apply ImpT.fr; (focus exact (by first | exact ecfc rfl | exact ef62 rfl))))); done) | fail) | exact Imp2.tup (by first | ((repeat' (first | exact ImpL.nil | exact ImpT.nil | (apply ImpL.other; (focus exact rfl)) | (apply ImpL.fr; (focus exact (by first | exact ecfc rfl | exact ef62 rfl))) | (apply ImpT.other; (focus exact rfl); (focus exact rfl)) | apply ImpT.agg | (apply ImpT.fr; (focus exact (by first | exact ecfc rfl | exact ef62 rfl))))); done) | fail))), rfl, rfl, (by first | exact .inr rfl | exact .inl ⟨rfl, rfl⟩), rfl, rfl, (by first | ((repeat' (first | exact RenR.nil | exact RenL.nil | (apply RenR.row; (focus exact rfl); (focus exact (by first | exact ecfc rfl | exact ef62 rfl | exact rfl))) | (apply RenR.box; (focus exact rfl); (focus exact (by first | exact ecfc rfl | exact ef62 rfl | exact rfl))) | (apply RenR.gone; (focus exact rfl); (focus exact (by first | exact ecfc rfl | exact ef62 rfl | exact rfl))) | (apply RenL.hnd; (focus exact rfl); (focus exact (by first | exact ecfc rfl | exact ef62 rfl | exact rfl))) | (apply RenL.ptr; (focus exact rfl); (focus exact (by first | exact ecfc rfl | exact ef62 rfl | exact rfl))) | (apply RenL.view; (focus exact rfl); (focus exact (by first | exact ecfc rfl | exact ef62 rfl | exact rfl))) | (apply RenL.other; (focus exact rfl)))); done) | fail), ?_⟩))) | refine po ?_)
    refine pall [4, 8] (And.intro ?_ (And.intro ?_ trivial))
    · refine pop ?_
      (first | (refine q4ed5 (n := 20) ?_; (first | refine q03c7 ((hnw s.2.2 _ hs rfl)) ?_)) | refine po ?_)
      refine pt0_ 5 ?_
      refine pt19_ 6 ?_
      refine pt19_ 7 ?_
      refine pall [8] (And.intro ?_ trivial)
      refine pop ?_
      refine pk3 ?_
      refine pall [9] (And.intro ?_ trivial)
      refine pop ?_
      refine pk8 ?_
      refine pt1_ 10 ?_
      refine pdone ?_
      repeat' (first | refine pa ?_ | (refine pb ?_ ?_ <;> intro hg) | refine po ?_ | fail)
      refine aW.draw_k (os := [7]) (Checked.mixed Try.checked) rfl ?_
      refine aA.to (n' := 6) rfl rfl ?_
      refine pt7_ 0 ?_
      refine pt0_ 1 ?_
      refine pt0_ 2 ?_
      refine pall [3] (And.intro ?_ trivial)
      refine pop ?_
      (first | (refine q4ed5 (n := 20) ?_; (first | (refine q608c (m := [(0, _, _)]) (a_s_l02Rows _ hxl _ _ n hn4.2) (fun y hy => ?_); refine ⟨_, _, _, (by first | exact Imp3.ptr rfl (by first | exact ecfc rfl | exact ef62 rfl | exact rfl) | exact Imp3.hnd rfl (by first | exact ecfc rfl | exact ef62 rfl | exact rfl) | exact Imp3.imp rfl (by first | exact Imp2.other rfl rfl rfl | exact Imp2.fr (by first | exact ecfc rfl | exact ef62 rfl) | exact Imp2.agg (by first | ((repeat' (first | exact ImpL.nil | exact ImpT.nil | (apply ImpL.other; (focus exact rfl)) | (apply ImpL.fr; (focus exact (by first | exact ecfc rfl | exact ef62 rfl))) | (apply ImpT.other; (focus exact rfl); (focus exact rfl)) | apply ImpT.agg | (apply ImpT.fr; (focus exact (by first | exact ecfc rfl | exact ef62 rfl))))); done) | fail) | exact Imp2.tup (by first | ((repeat' (first | exact ImpL.nil | exact ImpT.nil | (apply ImpL.other; (focus exact rfl)) | (apply ImpL.fr; (focus exact (by first | exact ecfc rfl | exact ef62 rfl))) | (apply ImpT.other; (focus exact rfl); (focus exact rfl)) | apply ImpT.agg | (apply ImpT.fr; (focus exact (by first | exact ecfc rfl | exact ef62 rfl))))); done) | fail))), rfl, rfl, (by first | exact .inr rfl | exact .inl ⟨rfl, rfl⟩), rfl, rfl, (by first | ((repeat' (first | exact RenR.nil | exact RenL.nil | (apply RenR.row; (focus exact rfl); (focus exact (by first | exact ecfc rfl | exact ef62 rfl | exact rfl))) | (apply RenR.box; (focus exact rfl); (focus exact (by first | exact ecfc rfl | exact ef62 rfl | exact rfl))) | (apply RenR.gone; (focus exact rfl); (focus exact (by first | exact ecfc rfl | exact ef62 rfl | exact rfl))) | (apply RenL.hnd; (focus exact rfl); (focus exact (by first | exact ecfc rfl | exact ef62 rfl | exact rfl))) | (apply RenL.ptr; (focus exact rfl); (focus exact (by first | exact ecfc rfl | exact ef62 rfl | exact rfl))) | (apply RenL.view; (focus exact rfl); (focus exact (by first | exact ecfc rfl | exact ef62 rfl | exact rfl))) | (apply RenL.other; (focus exact rfl)))); done) | fail), ?_⟩))) | refine po ?_)
      refine pall [4] (And.intro ?_ trivial)
      refine pop ?_
      refine pk8 ?_
      refine pt1_ 5 ?_
      refine pdone ?_
      repeat' (first | refine pa ?_ | (refine pb ?_ ?_ <;> intro hg) | refine po ?_ | fail)
      refine ⟨(newV l.2.2 n s.2.2, y.2.2), ⟨l.2.2, n, s.2.2, hl, hn4, by omega, rfl, hy.1, hy.2⟩, ?_⟩
      (show DoneM _ _ _ _ _ _ _; refine qb0ba ?_; first | exact .inl ⟨rfl, rfl, rfl⟩ | refine .inr ⟨rfl, ?_, (by first | exact List.nodup_nil | simp [ids2, ids1, ids0]), rfl⟩)
      (exact pgiv)
    · refine pop ?_
      refine pk3 ?_
      refine pall [4] (And.intro ?_ trivial)
      refine pop ?_
      (first | (refine q4ed5 (n := 20) ?_; (first | refine q03c7 ((hnw s.2.2 _ hs rfl)) ?_)) | refine po ?_)
      refine pt0_ 5 ?_
      refine pt19_ 6 ?_
      refine pt19_ 7 ?_
      refine pall [9] (And.intro ?_ trivial)
      refine pop ?_
      refine pk8 ?_
      refine pt1_ 10 ?_
      refine pdone ?_
      repeat' (first | refine pa ?_ | (refine pb ?_ ?_ <;> intro hg) | refine po ?_ | fail)
      refine aW.draw_k (os := [7]) (Checked.mixed Try.checked) rfl ?_
      refine aA.to (n' := 6) rfl rfl ?_
      refine pt7_ 0 ?_
      refine pt0_ 1 ?_
      refine pt0_ 2 ?_
      refine pall [3] (And.intro ?_ trivial)
      refine pop ?_
      (first | (refine q4ed5 (n := 20) ?_; (first | (refine q608c (m := [(0, _, _)]) (a_s_l02Rows _ hxl _ _ n hn4.2) (fun y hy => ?_); refine ⟨_, _, _, (by first | exact Imp3.ptr rfl (by first | exact ecfc rfl | exact ef62 rfl | exact rfl) | exact Imp3.hnd rfl (by first | exact ecfc rfl | exact ef62 rfl | exact rfl) | exact Imp3.imp rfl (by first | exact Imp2.other rfl rfl rfl | exact Imp2.fr (by first | exact ecfc rfl | exact ef62 rfl) | exact Imp2.agg (by first | ((repeat' (first | exact ImpL.nil | exact ImpT.nil | (apply ImpL.other; (focus exact rfl)) | (apply ImpL.fr; (focus exact (by first | exact ecfc rfl | exact ef62 rfl))) | (apply ImpT.other; (focus exact rfl); (focus exact rfl)) | apply ImpT.agg | (apply ImpT.fr; (focus exact (by first | exact ecfc rfl | exact ef62 rfl))))); done) | fail) | exact Imp2.tup (by first | ((repeat' (first | exact ImpL.nil | exact ImpT.nil | (apply ImpL.other; (focus exact rfl)) | (apply ImpL.fr; (focus exact (by first | exact ecfc rfl | exact ef62 rfl))) | (apply ImpT.other; (focus exact rfl); (focus exact rfl)) | apply ImpT.agg | (apply ImpT.fr; (focus exact (by first | exact ecfc rfl | exact ef62 rfl))))); done) | fail))), rfl, rfl, (by first | exact .inr rfl | exact .inl ⟨rfl, rfl⟩), rfl, rfl, (by first | ((repeat' (first | exact RenR.nil | exact RenL.nil | (apply RenR.row; (focus exact rfl); (focus exact (by first | exact ecfc rfl | exact ef62 rfl | exact rfl))) | (apply RenR.box; (focus exact rfl); (focus exact (by first | exact ecfc rfl | exact ef62 rfl | exact rfl))) | (apply RenR.gone; (focus exact rfl); (focus exact (by first | exact ecfc rfl | exact ef62 rfl | exact rfl))) | (apply RenL.hnd; (focus exact rfl); (focus exact (by first | exact ecfc rfl | exact ef62 rfl | exact rfl))) | (apply RenL.ptr; (focus exact rfl); (focus exact (by first | exact ecfc rfl | exact ef62 rfl | exact rfl))) | (apply RenL.view; (focus exact rfl); (focus exact (by first | exact ecfc rfl | exact ef62 rfl | exact rfl))) | (apply RenL.other; (focus exact rfl)))); done) | fail), ?_⟩))) | refine po ?_)
      refine pall [4] (And.intro ?_ trivial)
      refine pop ?_
      refine pk8 ?_
      refine pt1_ 5 ?_
      refine pdone ?_
      repeat' (first | refine pa ?_ | (refine pb ?_ ?_ <;> intro hg) | refine po ?_ | fail)
      refine ⟨(newV l.2.2 n s.2.2, y.2.2), ⟨l.2.2, n, s.2.2, hl, hn4, by omega, rfl, hy.1, hy.2⟩, ?_⟩
      (show DoneM _ _ _ _ _ _ _; refine qb0ba ?_; first | exact .inl ⟨rfl, rfl, rfl⟩ | refine .inr ⟨rfl, ?_, (by first | exact List.nodup_nil | simp [ids2, ids1, ids0]), rfl⟩)
      (exact pgiv)
  · refine pop ?_
    refine pk3 ?_
    refine pall [3] (And.intro ?_ trivial)
    refine pop ?_
    (first | (refine q4ed5 (n := 20) ?_; (first | (refine q608c (m := [(0, _, _)]) (a_s_l01Below _ hxl _ _ 65536 (by decide)) (fun s hs => ?_); refine ⟨_, _, _, (by first | exact Imp3.ptr rfl (by first | exact ecfc rfl | exact ef62 rfl | exact rfl) | exact Imp3.hnd rfl (by first | exact ecfc rfl | exact ef62 rfl | exact rfl) | exact Imp3.imp rfl (by first | exact Imp2.other rfl rfl rfl | exact Imp2.fr (by first | exact ecfc rfl | exact ef62 rfl) | exact Imp2.agg (by first | ((repeat' (first | exact ImpL.nil | exact ImpT.nil | (apply ImpL.other; (focus exact rfl)) | (apply ImpL.fr; (focus exact (by first | exact ecfc rfl | exact ef62 rfl))) | (apply ImpT.other; (focus exact rfl); (focus exact rfl)) | apply ImpT.agg | (apply ImpT.fr; (focus exact (by first | exact ecfc rfl | exact ef62 rfl))))); done) | fail) | exact Imp2.tup (by first | ((repeat' (first | exact ImpL.nil | exact ImpT.nil | (apply ImpL.other; (focus exact rfl)) | (apply ImpL.fr; (focus exact (by first | exact ecfc rfl | exact ef62 rfl))) | (apply ImpT.other; (focus exact rfl); (focus exact rfl)) | apply ImpT.agg | (apply ImpT.fr; (focus exact (by first | exact ecfc rfl | exact ef62 rfl))))); done) | fail))), rfl, rfl, (by first | exact .inr rfl | exact .inl ⟨rfl, rfl⟩), rfl, rfl, (by first | ((repeat' (first | exact RenR.nil | exact RenL.nil | (apply RenR.row; (focus exact rfl); (focus exact (by first | exact ecfc rfl | exact ef62 rfl | exact rfl))) | (apply RenR.box; (focus exact rfl); (focus exact (by first | exact ecfc rfl | exact ef62 rfl | exact rfl))) | (apply RenR.gone; (focus exact rfl); (focus exact (by first | exact ecfc rfl | exact ef62 rfl | exact rfl))) | (apply RenL.hnd; (focus exact rfl); (focus exact (by first | exact ecfc rfl | exact ef62 rfl | exact rfl))) | (apply RenL.ptr; (focus exact rfl); (focus exact (by first | exact ecfc rfl | exact ef62 rfl | exact rfl))) | (apply RenL.view; (focus exact rfl); (focus exact (by first | exact ecfc rfl | exact ef62 rfl | exact rfl))) | (apply RenL.other; (focus exact rfl)))); done) | fail), ?_⟩))) | refine po ?_)
    refine pall [4] (And.intro ?_ trivial)
    refine pop ?_
    (first | (refine q4ed5 (n := 20) ?_; (first | refine q03c7 ((hnw s.2.2 _ hs rfl)) ?_)) | refine po ?_)
    refine pt0_ 5 ?_
    refine pt19_ 6 ?_
    refine pt19_ 7 ?_
    refine pall [9] (And.intro ?_ trivial)
    refine pop ?_
    refine pk8 ?_
    refine pt1_ 10 ?_
    refine pdone ?_
    repeat' (first | refine pa ?_ | (refine pb ?_ ?_ <;> intro hg) | refine po ?_ | fail)
    refine aW.draw_k (os := [7]) (Checked.mixed Try.checked) rfl ?_
    refine aA.to (n' := 6) rfl rfl ?_
    refine pt7_ 0 ?_
    refine pt0_ 1 ?_
    refine pt0_ 2 ?_
    refine pall [3] (And.intro ?_ trivial)
    refine pop ?_
    (first | (refine q4ed5 (n := 20) ?_; (first | (refine q608c (m := [(0, _, _)]) (a_s_l02Rows _ hxl _ _ n hn4.2) (fun y hy => ?_); refine ⟨_, _, _, (by first | exact Imp3.ptr rfl (by first | exact ecfc rfl | exact ef62 rfl | exact rfl) | exact Imp3.hnd rfl (by first | exact ecfc rfl | exact ef62 rfl | exact rfl) | exact Imp3.imp rfl (by first | exact Imp2.other rfl rfl rfl | exact Imp2.fr (by first | exact ecfc rfl | exact ef62 rfl) | exact Imp2.agg (by first | ((repeat' (first | exact ImpL.nil | exact ImpT.nil | (apply ImpL.other; (focus exact rfl)) | (apply ImpL.fr; (focus exact (by first | exact ecfc rfl | exact ef62 rfl))) | (apply ImpT.other; (focus exact rfl); (focus exact rfl)) | apply ImpT.agg | (apply ImpT.fr; (focus exact (by first | exact ecfc rfl | exact ef62 rfl))))); done) | fail) | exact Imp2.tup (by first | ((repeat' (first | exact ImpL.nil | exact ImpT.nil | (apply ImpL.other; (focus exact rfl)) | (apply ImpL.fr; (focus exact (by first | exact ecfc rfl | exact ef62 rfl))) | (apply ImpT.other; (focus exact rfl); (focus exact rfl)) | apply ImpT.agg | (apply ImpT.fr; (focus exact (by first | exact ecfc rfl | exact ef62 rfl))))); done) | fail))), rfl, rfl, (by first | exact .inr rfl | exact .inl ⟨rfl, rfl⟩), rfl, rfl, (by first | ((repeat' (first | exact RenR.nil | exact RenL.nil | (apply RenR.row; (focus exact rfl); (focus exact (by first | exact ecfc rfl | exact ef62 rfl | exact rfl))) | (apply RenR.box; (focus exact rfl); (focus exact (by first | exact ecfc rfl | exact ef62 rfl | exact rfl))) | (apply RenR.gone; (focus exact rfl); (focus exact (by first | exact ecfc rfl | exact ef62 rfl | exact rfl))) | (apply RenL.hnd; (focus exact rfl); (focus exact (by first | exact ecfc rfl | exact ef62 rfl | exact rfl))) | (apply RenL.ptr; (focus exact rfl); (focus exact (by first | exact ecfc rfl | exact ef62 rfl | exact rfl))) | (apply RenL.view; (focus exact rfl); (focus exact (by first | exact ecfc rfl | exact ef62 rfl | exact rfl))) | (apply RenL.other; (focus exact rfl)))); done) | fail), ?_⟩))) | refine po ?_)
    refine pall [4] (And.intro ?_ trivial)
    refine pop ?_
    refine pk8 ?_
    refine pt1_ 5 ?_
    refine pdone ?_
    repeat' (first | refine pa ?_ | (refine pb ?_ ?_ <;> intro hg) | refine po ?_ | fail)
    refine ⟨(newV l.2.2 n s.2.2, y.2.2), ⟨l.2.2, n, s.2.2, hl, hn4, by omega, rfl, hy.1, hy.2⟩, ?_⟩
    (show DoneM _ _ _ _ _ _ _; refine qb0ba ?_; first | exact .inl ⟨rfl, rfl, rfl⟩ | refine .inr ⟨rfl, ?_, (by first | exact List.nodup_nil | simp [ids2, ids1, ids0]), rfl⟩)
    (exact pgiv)
end Go.Proofs.Ytmkpgcahmbancaa
