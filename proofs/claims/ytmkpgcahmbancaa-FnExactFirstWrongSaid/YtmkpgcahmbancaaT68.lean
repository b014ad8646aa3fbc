/- What is proved: worlds and peers that are handed to a statement, as plain data.
   Conditions: none. -/
import Derived.Test.YtmkpgcahmbancaaT66
import Derived.Test.YtmkpgcahmbancaaAbsB
namespace Go.Proofs.Ytmkpgcahmbancaa
set_option linter.unusedSimpArgs false
set_option linter.unusedVariables false
open Go.RowKit Ab
def trackT : TY := .struct (.last (.slice 3 (.int .i64)))
def levelT : TY := .struct (.last (.slice 9 .str))
def bodyT : TY := .struct (.pair (.int .i64) (.pair (.int .i64) (.pair (.int .i64) (.pair (.int .i64) (.pair (.int .i64) (.pair (.int .i64) (.pair (.int .i64) (.pair (.int .i64) (.pair (.int .i64) .unit)))))))))
def worldT : TY := .struct (.pair levelT (.pair (.int .i64) (.pair (.int .i64) (.pair (.slice 3 (.int .i64)) (.last (.slice 168 bodyT))))))
def saveT : TY := .struct (.pair (.int .i64) (.pair .str .unit))
def peerT : TY := .struct (.pair (.int .i64) (.pair (.int .i64) (.pair (.int .i64) (.pair (.int .i64) (.pair (.slice 134 trackT) (.pair worldT (.pair worldT (.pair (.slice 26 (.slice 3 (.int .i64))) (.pair (.slice 136 saveT) (.pair (.slice 3 (.int .i64)) (.pair faultT (.pair (.int .i64) (.pair (.int .i64) .unit)))))))))))))
def toLv (l : List ByteArray) : Lv := l.map fun s => s.data.toList
def toBd (b : bodyT.V) : Bd := ⟨b.1, b.2.1, b.2.2.1, b.2.2.2.1, b.2.2.2.2.1, b.2.2.2.2.2.1, b.2.2.2.2.2.2.1, b.2.2.2.2.2.2.2.1, b.2.2.2.2.2.2.2.2.1⟩
def toSv (s : saveT.V) : Sv := (s.1, s.2.1.data.toList)
theorem lv_tr (l : List ByteArray) : List.map (TY.tr .str) l = strsE (toLv l) := by
  unfold strsE toLv
  rw [List.map_map]
  rfl
theorem bd_tr (bs : List bodyT.V) : List.map bodyT.tr bs = (bs.map toBd).map bodyC := by
  rw [List.map_map]
  rfl
theorem sv_tr (xs : List saveT.V) : List.map saveT.tr xs = (xs.map toSv).map saveC := by
  rw [List.map_map]
  rfl
def toWd (w : worldT.V) : Wd := ⟨toLv w.1, w.2.1, w.2.2.1, w.2.2.2.1, w.2.2.2.2.map toBd⟩
theorem wd_tr (w : worldT.V) : worldT.tr w = [.lst true 9 (strsE (toWd w).level), .int .i64 (toWd w).tick, .int .i64 (toWd w).seed, ints 3 (toWd w).scores, .lst true 168 ((toWd w).bodies.map bodyC)] := by
  obtain ⟨l, t, s, sc, bs⟩ := w
  exact congr (congrArg (fun a b => [T.lst true 9 a, .int .i64 t, .int .i64 s, ints 3 sc, .lst true 168 b]) (lv_tr l)) (bd_tr bs)
theorem world_tr (w : worldT.V) : ∃ d : Wd, TY.arg worldT w = .agg [.t (.lst true 9 (strsE d.level)), .t (.int .i64 d.tick), .t (.int .i64 d.seed), .t (ints 3 d.scores), .t (.lst true 168 (d.bodies.map bodyC))] := by
  exact ⟨toWd w, congrArg (fun a => V.agg (List.map V.t a)) (wd_tr w)⟩
theorem peer_tr (x : peerT.V) : ∃ p : Pr, TY.arg peerT x = .agg [.t (.int .i64 p.me), .t (.int .i64 p.delay), .t (.int .i64 p.ahead), .t (.int .i64 p.seed), .t (.lst false 134 (p.tracks.map trackC)), .t (.lst true 9 (strsE p.base.level)), .t (.int .i64 p.base.tick), .t (.int .i64 p.base.seed), .t (ints 3 p.base.scores), .t (.lst true 168 (p.base.bodies.map bodyC)), .t (.lst true 9 (strsE p.now.level)), .t (.int .i64 p.now.tick), .t (.int .i64 p.now.seed), .t (ints 3 p.now.scores), .t (.lst true 168 (p.now.bodies.map bodyC)), .t (.lst false 26 (p.used.map trackC)), .t (.lst true 136 (p.saves.map saveC)), .t (ints 3 p.sums), .t (.int .i64 p.ft), .t (.int .i64 p.fp), .t (.int .i64 p.fa), .t (.int .i64 p.rolls), .t (.int .i64 p.again)] := by
  obtain ⟨me, delay, ahead, seed, ts, wb, wn, us, sv, su, ⟨ft, fp, fa, _⟩, rolls, again, _⟩ := x
  refine ⟨⟨me, delay, ahead, seed, ts, toWd wb, toWd wn, us, sv.map toSv, su, ft, fp, fa, rolls, again⟩, ?_⟩
  exact congr (congr (congrArg (fun a b c => V.agg (([T.int .i64 me, .int .i64 delay, .int .i64 ahead, .int .i64 seed, .lst false 134 (ts.map trackC)] ++ (a ++ (b ++ [T.lst false 26 (us.map trackC), .lst true 136 c, ints 3 su, .int .i64 ft, .int .i64 fp, .int .i64 fa, .int .i64 rolls, .int .i64 again]))).map V.t)) (wd_tr wb)) (wd_tr wn)) (sv_tr sv)
end Go.Proofs.Ytmkpgcahmbancaa
