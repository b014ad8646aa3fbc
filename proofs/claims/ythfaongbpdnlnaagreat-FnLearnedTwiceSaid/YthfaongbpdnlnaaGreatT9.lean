/- What is proved: differences of texts: how they are written and read, in plain terms.
   Conditions: none. -/
import Derived.Test.YthfaongbpdnlnaaGreatRows
import Derived.Great.BuildSlice
import Derived.Lib.AppendStr
import Derived.Orders
import Derived.OrdersHeld
import Derived.KernelRfl
import Derived.Laws.IdiomStrings
import Derived.Laws.Slices
import Derived.BigQuiet
import Derived.Deep.QuietTactic
import Derived.WalkArith
import Derived.Great.FillDense
import Derived.Laws.Tables
import Derived.Deep.Draws
import Derived.Deep.Slices
import Derived.Test.YthfaongbpdnlnaaGreatAbs6
namespace Go.Proofs.YthfaongbpdnlnaaGreat.Ab
set_option maxHeartbeats 1000000
set_option maxRecDepth 512
set_option linter.unusedSimpArgs false
set_option linter.unusedVariables false
open Go.RowKit
def ArrT (P:Program) (t n:Nat):Prop:=∃ e,P.underlying t=some (.array n e)∧P.cellsOf e=1
section
variable {P:Program} {B:Nat→Prop} {W:En} {st:St} {o:Oper} {KE:V→List (Nat×Nat×Ob)→Prop}
theorem Zjw {t:TypeId} {x ix:Operand} {a:Act} {w:World} {ad:Addr} {n:Int} {k:IntKind} {m:Nat} (ho:o.op=.indexAddr t x ix) (hA:ArrT P t m) (hx:a.eval x=.pointer (some ad)) (hi:a.eval ix=.int k n) (hn:0≤n∧n < m) :
  (execOp a.eval o).run P w=.ok (.value (.pointer (some (ad.add n.toNat)))) w:=by
 obtain ⟨e,h1,h2⟩:=hA
 have hsz:(sizeOf e).run P w=.ok 1 w:=by
  unfold Program.cellsOf at h2
  unfold sizeOf typeInfo
  cases hi:P.info? e with
  | none=>rw [hi] at h2;cases h2
  | some i=>rw [hi] at h2;simp at h2;simp [hi,h2]
 unfold execOp
 rw [ho]
 refine Zap ?_
 rw [hx,hi]
 simp [Instr.indexAt,Instr.sureAddr,asIntOf,run_underlying h1,hn.1,hn.2,hsz]
theorem OpS.index_arr {t:TypeId} {x ix:Operand} {i ep off m:Nat} {n:Int} {k:IntKind} (ho:o.op=.indexAddr t x ix) (hx:st.ev x=.ptr i ep 0 off) (hA:ArrT P t m) (hi:st.ev ix=.t (.int k n)) {e:Nat} {ob:Ob} (hl:look st.objs i=some (e,ob)) (he:e=ep)
  (hn:0≤n∧n < m) (hK:KE (.ptr i ep 0 (off + n.toNat)) []):OpS P B W o st KE :=
 OpS.pure_ hK fun a w pl F hs=>by
  have h1:=hs.ev x
  rw [hx] at h1
  obtain ⟨_,ep',ob',h2,h3,h4⟩:C0 P w (look st.objs) pl (Free B W.o (look st.objs) F w) (.ptr i ep 0 off) (a.eval x):=h1
  rw [hl] at h2
  cases h2
  obtain ⟨g,bb,hg,hu⟩:=h4 he.symm
  refine ⟨_,Zjw ho hA hu (hs.int_at hi).1 hn,rfl,_,_,hl,by omega,fun _=>⟨g,bb,hg,?_⟩⟩
  rw [ZaS]
  simp [Nat.add_assoc]
end
end Go.Proofs.YthfaongbpdnlnaaGreat.Ab
namespace Go.Proofs.YthfaongbpdnlnaaGreat
set_option maxHeartbeats 1000000
set_option maxRecDepth 512
set_option linter.unusedSimpArgs false
set_option linter.unusedVariables false
open Go.RowKit Ab
def ZpY:List (Nat×Ty)→Nat→Option Ty
 | [],_=>none
 | (i,y) :: r,t=>match Nat.beq i t with|true=>some y|false=>ZpY r t
def allY (P:Program):List (Nat×Ty)→Prop
 | []=>True
 | (i,y) :: r=>Zac P i=some y∧allY P r
theorem ZmJ {P:Program}:∀ {l:List (Nat×Ty)} (_:allY P l) {t:Nat} {y:Ty},ZpY l t=some y→Zac P t=some y
 | [],_,_,_,h=>by cases h
 | (i,z) :: r,hl,t,y,h=>by
  have h':(match Nat.beq i t with|true=>some z|false=>ZpY r t)=some y:=h
  cases hb:Nat.beq i t
  ·rw [hb] at h';exact ZmJ hl.2 h'
  ·rw [hb] at h';cases h';rw [← Nat.eq_of_beq_eq_true hb];exact hl.1
theorem Tryz.ti2:Zac Tryz.prog 2=some ⟨.int .i64,1,8,some [.t (.int .i64 0)]⟩:=by kernel_rfl
theorem Tryz.ti3:Zac Tryz.prog 3=some ⟨.int .i64,1,8,some [.t (.int .i64 0)]⟩:=by kernel_rfl
theorem Tryz.ti4:Zac Tryz.prog 4=some ⟨.bool,1,1,some [.t (.bool false)]⟩:=by kernel_rfl
theorem Tryz.ti5:Zac Tryz.prog 5=some ⟨.int .u8,1,1,some [.t (.int .u8 0)]⟩:=by kernel_rfl
theorem Tryz.ti9:Zac Tryz.prog 9=some ⟨.str,1,16,some [.t (.str [])]⟩:=by kernel_rfl
theorem Tryz.ti12:Zac Tryz.prog 12=some ⟨.int .u64,1,8,some [.t (.int .u64 0)]⟩:=by kernel_rfl
theorem Tryz.ti13:Zac Tryz.prog 13=some ⟨.struct [(0,1),(1,1)],2,24,some [.t (.str []),.t (.int .u64 0)]⟩:=by kernel_rfl
theorem Tryz.ti21:Zac Tryz.prog 21=some ⟨.int .i32,1,4,some [.t (.int .i32 0)]⟩:=by kernel_rfl
theorem Tryz.ti22:Zac Tryz.prog 22=some ⟨.slice 5 1 1,1,24,some [.t .nil]⟩:=by kernel_rfl
theorem Tryz.ti24:Zac Tryz.prog 24=some ⟨.slice 9 1 16,1,24,some [.t .nil]⟩:=by kernel_rfl
theorem Tryz.ti25:Zac Tryz.prog 25=some ⟨.struct [(0,1)],1,24,some [.t .nil]⟩:=by kernel_rfl
theorem Tryz.ti26:Zac Tryz.prog 26=some ⟨.struct [(0,1)],1,24,some [.t .nil]⟩:=by kernel_rfl
theorem Tryz.ti27:Zac Tryz.prog 27=some ⟨.slice 3 1 8,1,24,some [.t .nil]⟩:=by kernel_rfl
theorem Tryz.ti28:Zac Tryz.prog 28=some ⟨.slice 114 9 72,1,24,some [.t .nil]⟩:=by kernel_rfl
theorem Tryz.ti29:Zac Tryz.prog 29=some ⟨.struct [(0,1),(1,1),(2,1),(3,1),(4,1)],5,88,some [.t .nil,.t (.int .i64 0),.t (.int .i64 0),.t .nil,.t .nil]⟩:=by kernel_rfl
theorem Tryz.ti30:Zac Tryz.prog 30=some ⟨.struct [(0,1),(1,1),(2,1),(3,1),(4,1)],5,88,some [.t .nil,.t (.int .i64 0),.t (.int .i64 0),.t .nil,.t .nil]⟩:=by kernel_rfl
theorem Tryz.ti31:Zac Tryz.prog 31=some ⟨.slice 27 1 24,1,24,some [.t .nil]⟩:=by kernel_rfl
theorem Tryz.ti35:Zac Tryz.prog 35=some ⟨.slice 46 1 24,1,24,some [.t .nil]⟩:=by kernel_rfl
theorem Tryz.ti36:Zac Tryz.prog 36=some ⟨.slice 100 2 24,1,24,some [.t .nil]⟩:=by kernel_rfl
theorem Tryz.ti37:Zac Tryz.prog 37=some ⟨.struct [(0,1),(1,1),(2,1)],3,24,some [.t (.int .i64 0),.t (.int .i64 0),.t (.int .i64 0)]⟩:=by kernel_rfl
theorem Tryz.ti38:Zac Tryz.prog 38=some ⟨.struct [(0,1),(1,1),(2,1)],3,24,some [.t (.int .i64 0),.t (.int .i64 0),.t (.int .i64 0)]⟩:=by kernel_rfl
theorem Tryz.ti39:Zac Tryz.prog 39=some ⟨.struct [(0,1),(1,1),(2,1),(3,1),(4,1),(5,5),(10,5),(15,1),(16,1),(17,1),(18,3),(21,1),(22,1)],23,344,some [.t (.int .i64 0),.t (.int .i64 0),.t (.int .i64 0),.t (.int .i64 0),.t .nil,.t .nil,.t (.int .i64 0),.t (.int .i64 0),.t .nil,.t .nil,.t .nil,.t (.int .i64 0),.t (.int .i64 0),.t .nil,.t .nil,.t .nil,.t .nil,.t .nil,.t (.int .i64 0),.t (.int .i64 0),.t (.int .i64 0),.t (.int .i64 0),.t (.int .i64 0)]⟩:=by kernel_rfl
theorem Tryz.ti40:Zac Tryz.prog 40=some ⟨.struct [(0,1),(1,1),(2,1),(3,1),(4,1),(5,5),(10,5),(15,1),(16,1),(17,1),(18,3),(21,1),(22,1)],23,344,some [.t (.int .i64 0),.t (.int .i64 0),.t (.int .i64 0),.t (.int .i64 0),.t .nil,.t .nil,.t (.int .i64 0),.t (.int .i64 0),.t .nil,.t .nil,.t .nil,.t (.int .i64 0),.t (.int .i64 0),.t .nil,.t .nil,.t .nil,.t .nil,.t .nil,.t (.int .i64 0),.t (.int .i64 0),.t (.int .i64 0),.t (.int .i64 0),.t (.int .i64 0)]⟩:=by kernel_rfl
theorem Tryz.ti45:Zac Tryz.prog 45=some ⟨.struct [(0,1)],1,24,some [.t .nil]⟩:=by kernel_rfl
theorem Tryz.ti46:Zac Tryz.prog 46=some ⟨.struct [(0,1)],1,24,some [.t .nil]⟩:=by kernel_rfl
theorem Tryz.ti47:Zac Tryz.prog 47=some ⟨.struct [(0,1),(1,1),(2,1),(3,1),(4,1),(5,1),(6,1),(7,1),(8,1)],9,104,some [.t (.int .i64 0),.t (.int .i64 0),.t (.int .i64 0),.t .nil,.t .nil,.t (.int .i64 0),.t (.int .i64 0),.t (.int .i64 0),.t (.int .i64 0)]⟩:=by kernel_rfl
theorem Tryz.ti48:Zac Tryz.prog 48=some ⟨.struct [(0,1),(1,1),(2,1),(3,1),(4,1),(5,1),(6,1),(7,1),(8,1)],9,104,some [.t (.int .i64 0),.t (.int .i64 0),.t (.int .i64 0),.t .nil,.t .nil,.t (.int .i64 0),.t (.int .i64 0),.t (.int .i64 0),.t (.int .i64 0)]⟩:=by kernel_rfl
theorem Tryz.ti59:Zac Tryz.prog 59=some ⟨.slice 175 1 24,1,24,some [.t .nil]⟩:=by kernel_rfl
theorem Tryz.ti60:Zac Tryz.prog 60=some ⟨.struct [(0,1)],1,24,some [.t .nil]⟩:=by kernel_rfl
theorem Tryz.ti61:Zac Tryz.prog 61=some ⟨.slice 204 9 72,1,24,some [.t .nil]⟩:=by kernel_rfl
theorem Tryz.ti62:Zac Tryz.prog 62=some ⟨.struct [(0,1),(1,1),(2,1),(3,1),(4,1)],5,88,some [.t .nil,.t (.int .i64 0),.t (.int .i64 0),.t .nil,.t .nil]⟩:=by kernel_rfl
theorem Tryz.ti63:Zac Tryz.prog 63=some ⟨.struct [(0,1),(1,1),(2,1),(3,1),(4,1)],5,88,some [.t .nil,.t (.int .i64 0),.t (.int .i64 0),.t .nil,.t .nil]⟩:=by kernel_rfl
theorem Tryz.ti64:Zac Tryz.prog 64=some ⟨.slice 179 2 24,1,24,some [.t .nil]⟩:=by kernel_rfl
theorem Tryz.ti65:Zac Tryz.prog 65=some ⟨.struct [(0,1),(1,1),(2,1)],3,24,some [.t (.int .i64 0),.t (.int .i64 0),.t (.int .i64 0)]⟩:=by kernel_rfl
theorem Tryz.ti66:Zac Tryz.prog 66=some ⟨.struct [(0,1),(1,1),(2,1),(3,1),(4,1),(5,5),(10,5),(15,1),(16,1),(17,1),(18,3),(21,1),(22,1)],23,344,some [.t (.int .i64 0),.t (.int .i64 0),.t (.int .i64 0),.t (.int .i64 0),.t .nil,.t .nil,.t (.int .i64 0),.t (.int .i64 0),.t .nil,.t .nil,.t .nil,.t (.int .i64 0),.t (.int .i64 0),.t .nil,.t .nil,.t .nil,.t .nil,.t .nil,.t (.int .i64 0),.t (.int .i64 0),.t (.int .i64 0),.t (.int .i64 0),.t (.int .i64 0)]⟩:=by kernel_rfl
theorem Tryz.ti67:Zac Tryz.prog 67=some ⟨.struct [(0,1),(1,1),(2,1),(3,1),(4,1),(5,5),(10,5),(15,1),(16,1),(17,1),(18,3),(21,1),(22,1)],23,344,some [.t (.int .i64 0),.t (.int .i64 0),.t (.int .i64 0),.t (.int .i64 0),.t .nil,.t .nil,.t (.int .i64 0),.t (.int .i64 0),.t .nil,.t .nil,.t .nil,.t (.int .i64 0),.t (.int .i64 0),.t .nil,.t .nil,.t .nil,.t .nil,.t .nil,.t (.int .i64 0),.t (.int .i64 0),.t (.int .i64 0),.t (.int .i64 0),.t (.int .i64 0)]⟩:=by kernel_rfl
theorem Tryz.ti84:Zac Tryz.prog 84=some ⟨.struct [(0,1),(1,1),(2,1),(3,1),(4,1),(5,1),(6,1),(7,1),(8,1)],9,104,some [.t (.int .i64 0),.t (.int .i64 0),.t (.int .i64 0),.t .nil,.t .nil,.t (.int .i64 0),.t (.int .i64 0),.t (.int .i64 0),.t (.int .i64 0)]⟩:=by kernel_rfl
theorem Tryz.ti99:Zac Tryz.prog 99=some ⟨.struct [(0,1),(1,1)],2,24,some [.t (.int .i64 0),.t (.str [])]⟩:=by kernel_rfl
theorem Tryz.ti100:Zac Tryz.prog 100=some ⟨.struct [(0,1),(1,1)],2,24,some [.t (.int .i64 0),.t (.str [])]⟩:=by kernel_rfl
theorem Tryz.ti113:Zac Tryz.prog 113=some ⟨.struct [(0,1),(1,1),(2,1),(3,1),(4,1),(5,1),(6,1),(7,1),(8,1)],9,72,some [.t (.int .i64 0),.t (.int .i64 0),.t (.int .i64 0),.t (.int .i64 0),.t (.int .i64 0),.t (.int .i64 0),.t (.int .i64 0),.t (.int .i64 0),.t (.int .i64 0)]⟩:=by kernel_rfl
theorem Tryz.ti114:Zac Tryz.prog 114=some ⟨.struct [(0,1),(1,1),(2,1),(3,1),(4,1),(5,1),(6,1),(7,1),(8,1)],9,72,some [.t (.int .i64 0),.t (.int .i64 0),.t (.int .i64 0),.t (.int .i64 0),.t (.int .i64 0),.t (.int .i64 0),.t (.int .i64 0),.t (.int .i64 0),.t (.int .i64 0)]⟩:=by kernel_rfl
theorem Tryz.ti144:Zac Tryz.prog 144=some ⟨.struct [(0,1),(1,1),(2,1)],3,40,some [.t .nil,.t (.int .i64 0),.t (.int .i64 0)]⟩:=by kernel_rfl
theorem Tryz.ti145:Zac Tryz.prog 145=some ⟨.struct [(0,1),(1,1),(2,1)],3,40,some [.t .nil,.t (.int .i64 0),.t (.int .i64 0)]⟩:=by kernel_rfl
theorem Tryz.ti175:Zac Tryz.prog 175=some ⟨.struct [(0,1)],1,24,some [.t .nil]⟩:=by kernel_rfl
theorem Tryz.ti179:Zac Tryz.prog 179=some ⟨.struct [(0,1),(1,1)],2,24,some [.t (.int .i64 0),.t (.str [])]⟩:=by kernel_rfl
theorem Tryz.ti194:Zac Tryz.prog 194=some ⟨.int .u64,1,8,some [.t (.int .u64 0)]⟩:=by kernel_rfl
theorem Tryz.ti196:Zac Tryz.prog 196=some ⟨.arr,5,5,some [.t (.bool false),.t (.bool false),.t (.bool false),.t (.bool false),.t (.bool false)]⟩:=by kernel_rfl
theorem Tryz.ti198:Zac Tryz.prog 198=some ⟨.slice 4 1 1,1,24,some [.t .nil]⟩:=by kernel_rfl
theorem Tryz.ti204:Zac Tryz.prog 204=some ⟨.struct [(0,1),(1,1),(2,1),(3,1),(4,1),(5,1),(6,1),(7,1),(8,1)],9,72,some [.t (.int .i64 0),.t (.int .i64 0),.t (.int .i64 0),.t (.int .i64 0),.t (.int .i64 0),.t (.int .i64 0),.t (.int .i64 0),.t (.int .i64 0),.t (.int .i64 0)]⟩:=by kernel_rfl
theorem Tryz.ti219:Zac Tryz.prog 219=some ⟨.int .u32,1,4,some [.t (.int .u32 0)]⟩:=by kernel_rfl
def Tryz.tys:List (Nat×Ty):=[
 (2,⟨.int .i64,1,8,some [.t (.int .i64 0)]⟩),
 (3,⟨.int .i64,1,8,some [.t (.int .i64 0)]⟩),
 (4,⟨.bool,1,1,some [.t (.bool false)]⟩),
 (5,⟨.int .u8,1,1,some [.t (.int .u8 0)]⟩),
 (9,⟨.str,1,16,some [.t (.str [])]⟩),
 (12,⟨.int .u64,1,8,some [.t (.int .u64 0)]⟩),
 (13,⟨.struct [(0,1),(1,1)],2,24,some [.t (.str []),.t (.int .u64 0)]⟩),
 (21,⟨.int .i32,1,4,some [.t (.int .i32 0)]⟩),
 (22,⟨.slice 5 1 1,1,24,some [.t .nil]⟩),
 (24,⟨.slice 9 1 16,1,24,some [.t .nil]⟩),
 (25,⟨.struct [(0,1)],1,24,some [.t .nil]⟩),
 (26,⟨.struct [(0,1)],1,24,some [.t .nil]⟩),
 (27,⟨.slice 3 1 8,1,24,some [.t .nil]⟩),
 (28,⟨.slice 114 9 72,1,24,some [.t .nil]⟩),
 (29,⟨.struct [(0,1),(1,1),(2,1),(3,1),(4,1)],5,88,some [.t .nil,.t (.int .i64 0),.t (.int .i64 0),.t .nil,.t .nil]⟩),
 (30,⟨.struct [(0,1),(1,1),(2,1),(3,1),(4,1)],5,88,some [.t .nil,.t (.int .i64 0),.t (.int .i64 0),.t .nil,.t .nil]⟩),
 (31,⟨.slice 27 1 24,1,24,some [.t .nil]⟩),
 (35,⟨.slice 46 1 24,1,24,some [.t .nil]⟩),
 (36,⟨.slice 100 2 24,1,24,some [.t .nil]⟩),
 (37,⟨.struct [(0,1),(1,1),(2,1)],3,24,some [.t (.int .i64 0),.t (.int .i64 0),.t (.int .i64 0)]⟩),
 (38,⟨.struct [(0,1),(1,1),(2,1)],3,24,some [.t (.int .i64 0),.t (.int .i64 0),.t (.int .i64 0)]⟩),
 (39,⟨.struct [(0,1),(1,1),(2,1),(3,1),(4,1),(5,5),(10,5),(15,1),(16,1),(17,1),(18,3),(21,1),(22,1)],23,344,some [.t (.int .i64 0),.t (.int .i64 0),.t (.int .i64 0),.t (.int .i64 0),.t .nil,.t .nil,.t (.int .i64 0),.t (.int .i64 0),.t .nil,.t .nil,.t .nil,.t (.int .i64 0),.t (.int .i64 0),.t .nil,.t .nil,.t .nil,.t .nil,.t .nil,.t (.int .i64 0),.t (.int .i64 0),.t (.int .i64 0),.t (.int .i64 0),.t (.int .i64 0)]⟩),
 (40,⟨.struct [(0,1),(1,1),(2,1),(3,1),(4,1),(5,5),(10,5),(15,1),(16,1),(17,1),(18,3),(21,1),(22,1)],23,344,some [.t (.int .i64 0),.t (.int .i64 0),.t (.int .i64 0),.t (.int .i64 0),.t .nil,.t .nil,.t (.int .i64 0),.t (.int .i64 0),.t .nil,.t .nil,.t .nil,.t (.int .i64 0),.t (.int .i64 0),.t .nil,.t .nil,.t .nil,.t .nil,.t .nil,.t (.int .i64 0),.t (.int .i64 0),.t (.int .i64 0),.t (.int .i64 0),.t (.int .i64 0)]⟩),
 (45,⟨.struct [(0,1)],1,24,some [.t .nil]⟩),
 (46,⟨.struct [(0,1)],1,24,some [.t .nil]⟩),
 (47,⟨.struct [(0,1),(1,1),(2,1),(3,1),(4,1),(5,1),(6,1),(7,1),(8,1)],9,104,some [.t (.int .i64 0),.t (.int .i64 0),.t (.int .i64 0),.t .nil,.t .nil,.t (.int .i64 0),.t (.int .i64 0),.t (.int .i64 0),.t (.int .i64 0)]⟩),
 (48,⟨.struct [(0,1),(1,1),(2,1),(3,1),(4,1),(5,1),(6,1),(7,1),(8,1)],9,104,some [.t (.int .i64 0),.t (.int .i64 0),.t (.int .i64 0),.t .nil,.t .nil,.t (.int .i64 0),.t (.int .i64 0),.t (.int .i64 0),.t (.int .i64 0)]⟩),
 (59,⟨.slice 175 1 24,1,24,some [.t .nil]⟩),
 (60,⟨.struct [(0,1)],1,24,some [.t .nil]⟩),
 (61,⟨.slice 204 9 72,1,24,some [.t .nil]⟩),
 (62,⟨.struct [(0,1),(1,1),(2,1),(3,1),(4,1)],5,88,some [.t .nil,.t (.int .i64 0),.t (.int .i64 0),.t .nil,.t .nil]⟩),
 (63,⟨.struct [(0,1),(1,1),(2,1),(3,1),(4,1)],5,88,some [.t .nil,.t (.int .i64 0),.t (.int .i64 0),.t .nil,.t .nil]⟩),
 (64,⟨.slice 179 2 24,1,24,some [.t .nil]⟩),
 (65,⟨.struct [(0,1),(1,1),(2,1)],3,24,some [.t (.int .i64 0),.t (.int .i64 0),.t (.int .i64 0)]⟩),
 (66,⟨.struct [(0,1),(1,1),(2,1),(3,1),(4,1),(5,5),(10,5),(15,1),(16,1),(17,1),(18,3),(21,1),(22,1)],23,344,some [.t (.int .i64 0),.t (.int .i64 0),.t (.int .i64 0),.t (.int .i64 0),.t .nil,.t .nil,.t (.int .i64 0),.t (.int .i64 0),.t .nil,.t .nil,.t .nil,.t (.int .i64 0),.t (.int .i64 0),.t .nil,.t .nil,.t .nil,.t .nil,.t .nil,.t (.int .i64 0),.t (.int .i64 0),.t (.int .i64 0),.t (.int .i64 0),.t (.int .i64 0)]⟩),
 (67,⟨.struct [(0,1),(1,1),(2,1),(3,1),(4,1),(5,5),(10,5),(15,1),(16,1),(17,1),(18,3),(21,1),(22,1)],23,344,some [.t (.int .i64 0),.t (.int .i64 0),.t (.int .i64 0),.t (.int .i64 0),.t .nil,.t .nil,.t (.int .i64 0),.t (.int .i64 0),.t .nil,.t .nil,.t .nil,.t (.int .i64 0),.t (.int .i64 0),.t .nil,.t .nil,.t .nil,.t .nil,.t .nil,.t (.int .i64 0),.t (.int .i64 0),.t (.int .i64 0),.t (.int .i64 0),.t (.int .i64 0)]⟩),
 (84,⟨.struct [(0,1),(1,1),(2,1),(3,1),(4,1),(5,1),(6,1),(7,1),(8,1)],9,104,some [.t (.int .i64 0),.t (.int .i64 0),.t (.int .i64 0),.t .nil,.t .nil,.t (.int .i64 0),.t (.int .i64 0),.t (.int .i64 0),.t (.int .i64 0)]⟩),
 (99,⟨.struct [(0,1),(1,1)],2,24,some [.t (.int .i64 0),.t (.str [])]⟩),
 (100,⟨.struct [(0,1),(1,1)],2,24,some [.t (.int .i64 0),.t (.str [])]⟩),
 (113,⟨.struct [(0,1),(1,1),(2,1),(3,1),(4,1),(5,1),(6,1),(7,1),(8,1)],9,72,some [.t (.int .i64 0),.t (.int .i64 0),.t (.int .i64 0),.t (.int .i64 0),.t (.int .i64 0),.t (.int .i64 0),.t (.int .i64 0),.t (.int .i64 0),.t (.int .i64 0)]⟩),
 (114,⟨.struct [(0,1),(1,1),(2,1),(3,1),(4,1),(5,1),(6,1),(7,1),(8,1)],9,72,some [.t (.int .i64 0),.t (.int .i64 0),.t (.int .i64 0),.t (.int .i64 0),.t (.int .i64 0),.t (.int .i64 0),.t (.int .i64 0),.t (.int .i64 0),.t (.int .i64 0)]⟩),
 (144,⟨.struct [(0,1),(1,1),(2,1)],3,40,some [.t .nil,.t (.int .i64 0),.t (.int .i64 0)]⟩),
 (145,⟨.struct [(0,1),(1,1),(2,1)],3,40,some [.t .nil,.t (.int .i64 0),.t (.int .i64 0)]⟩),
 (175,⟨.struct [(0,1)],1,24,some [.t .nil]⟩),
 (179,⟨.struct [(0,1),(1,1)],2,24,some [.t (.int .i64 0),.t (.str [])]⟩),
 (194,⟨.int .u64,1,8,some [.t (.int .u64 0)]⟩),
 (196,⟨.arr,5,5,some [.t (.bool false),.t (.bool false),.t (.bool false),.t (.bool false),.t (.bool false)]⟩),
 (198,⟨.slice 4 1 1,1,24,some [.t .nil]⟩),
 (204,⟨.struct [(0,1),(1,1),(2,1),(3,1),(4,1),(5,1),(6,1),(7,1),(8,1)],9,72,some [.t (.int .i64 0),.t (.int .i64 0),.t (.int .i64 0),.t (.int .i64 0),.t (.int .i64 0),.t (.int .i64 0),.t (.int .i64 0),.t (.int .i64 0),.t (.int .i64 0)]⟩),
 (219,⟨.int .u32,1,4,some [.t (.int .u32 0)]⟩)]
theorem Tryz.ti {t:Nat} {y:Ty} (h:ZpY Tryz.tys t=some y):Zac Tryz.prog t=some y:=ZmJ (P:=Tryz.prog) (by
 refine ⟨Tryz.ti2,Tryz.ti3,Tryz.ti4,Tryz.ti5,Tryz.ti9,Tryz.ti12,Tryz.ti13,Tryz.ti21,Tryz.ti22,Tryz.ti24,Tryz.ti25,Tryz.ti26,Tryz.ti27,Tryz.ti28,Tryz.ti29,Tryz.ti30,Tryz.ti31,Tryz.ti35,Tryz.ti36,Tryz.ti37,Tryz.ti38,Tryz.ti39,Tryz.ti40,Tryz.ti45,Tryz.ti46,Tryz.ti47,Tryz.ti48,Tryz.ti59,Tryz.ti60,Tryz.ti61,Tryz.ti62,Tryz.ti63,Tryz.ti64,Tryz.ti65,Tryz.ti66,Tryz.ti67,Tryz.ti84,Tryz.ti99,Tryz.ti100,Tryz.ti113,Tryz.ti114,Tryz.ti144,Tryz.ti145,Tryz.ti175,Tryz.ti179,Tryz.ti194,Tryz.ti196,Tryz.ti198,Tryz.ti204,Tryz.ti219,trivial⟩) h
theorem Tryz.ar196:ArrT Tryz.prog 196 5:=⟨4,by kernel_rfl,by kernel_rfl⟩
def Tryz.ars:List (Nat×Nat):=[(196,5)]
def ZpX:List (Nat×Nat)→Nat→Option Nat
 | [],_=>none
 | (i,y) :: r,t=>match Nat.beq i t with|true=>some y|false=>ZpX r t
theorem ZmI {P:Program}:∀ {l:List (Nat×Nat)} (_:∀ x ∈ l,ArrT P x.1 x.2) {t n:Nat},ZpX l t=some n→ArrT P t n
 | [],_,_,_,h=>by cases h
 | (i,z) :: r,hl,t,y,h=>by
  have h':(match Nat.beq i t with|true=>some z|false=>ZpX r t)=some y:=h
  cases hb:Nat.beq i t
  ·rw [hb] at h';exact ZmI (fun x hx=>hl x (List.mem_cons_of_mem _ hx)) h'
  ·rw [hb] at h';cases h';rw [← Nat.eq_of_beq_eq_true hb];exact hl (i,z) (by simp)
theorem Tryz.arr {t n:Nat} (h:ZpX Tryz.ars t=some n):ArrT Tryz.prog t n:=ZmI (by simp [Tryz.ars,Tryz.ar196]) h
end Go.Proofs.YthfaongbpdnlnaaGreat
namespace Go.Proofs.YthfaongbpdnlnaaGreat.Ab
set_option maxHeartbeats 1000000
set_option maxRecDepth 512
set_option linter.unusedSimpArgs false
set_option linter.unusedVariables false
open Go.RowKit
theorem ZpN {w:World} {g j:Nat} {cur:Array Value} {t:TypeId} {fz:Nat×Nat} (hg:w.heap[g]?=some (.cells cur t fz)) (hfz:fz=(0,0)∨cur.size≤fz.1) (hj:j < cur.size):w.frozen? ⟨g,j,none⟩=false:=by
 obtain ⟨lo,hi⟩:=fz
 simp only [World.frozen?,hg,Bool.and_eq_false_iff,decide_eq_false_iff_not]
 rcases hfz with h|h
 ·cases h;right;omega
 ·left;simp only at h;omega
theorem ZbQ (P:Program) (g o:Nat) (t:TypeId) (fz:Nat×Nat):∀ (vs:List Value) (i:Nat) (cur:Array Value) (w:World),w.heap[g]?=some (.cells cur t fz)→(fz=(0,0)∨cur.size≤fz.1)→o + i + vs.length≤cur.size→(∀ v ∈ vs,v.oneCell'=true) →
  (storeCells ⟨g,o,none⟩ vs i).run P w=.ok () (w.setRow g (cur.toList.take (o + i)++vs++cur.toList.drop (o + i + vs.length)).toArray)
 | [],i,cur,w,hg,_,_,_=>by
  simp only [storeCells,List.append_nil,List.length_nil,Nat.add_zero,List.take_append_drop,Array.toArray_toList]
  rw [setRow_self w g cur t fz hg]
  rfl
 | v :: rest,i,cur,w,hg,hfz,hl,h1=>by
  have hi:o + i < cur.size:=by simp at hl;omega
  have hadd:(⟨g,o,none⟩:Addr).add i=⟨g,o + i,none⟩:=ZaS g o i
  have hcell:w.cell? ⟨g,o + i,none⟩=some cur[o + i]:=by simp [World.cell?,hg,hi]
  have hfro:w.frozen? ⟨g,o + i,none⟩=false:=ZpN hg hfz hi
  have hst:(store ((⟨g,o,none⟩:Addr).add i) v).run P w=.ok () (w.setRow g (cur.setIfInBounds (o + i) v)):=by
   rw [hadd,run_store P w _ v _ (h1 v (by simp)),hcell]
   simp [hfro,setCell_eq_setRow w g (o + i) cur t fz v hg]
  have ih:=ZbQ P g o t fz rest (i + 1) (cur.setIfInBounds (o + i) v) (w.setRow g (cur.setIfInBounds (o + i) v)) (setRow_heap w g cur _ t _ hg) (by simpa using hfz) (by simp at hl ⊢;omega) (fun x hx=>h1 x (by simp [hx]))
  simp only [storeCells,Sem.run_bind,hst,Result.andThen_ok,ih,setRow_setRow]
  congr 3
  have e:=list_seg_step cur.toList (o + i) v rest (by simp at hl ⊢;omega)
  simpa [Array.toList_setIfInBounds,Nat.add_assoc] using e
theorem ZgR {P:Program} (w:World) {t xt ty e:TypeId} {y yx:Ty} {es eb:Nat} {ye:Ty} {zs:List V} (hy:Zac P t=some y) (hk:y.k=.slice e es eb) (hyx:Zac P xt=some yx) (hkx:yx.k=.str∨∃ a b c,yx.k=.slice a b c) (hye:Zac P e=some ye) (hz:ye.zero=some zs) (hzl:zs.length=es)
  {v:Value} {n:Nat} {xs:List Value} (hown:ZbZ w e es v n xs) {x:Value} {m:Nat} {news:List Value} (hlen:(Builtin.lenOf x).run P w=.ok m w) (hcells:∀ k,(Builtin.firstCells es m x).run P (w.drewN k)=.ok news.toArray (w.drewN k)) (hl:news.length=m * es) (h1:∀ u ∈ news,u.oneCell'=true)
  (h63:n + m≤maxLen) (hbytes:(n + m) * eb≤140737488355328) :
  ∃ v' w',(Builtin.append_ #[t,xt] ty #[v,x]).run P w=.ok v' w'∧ZbZ w' e es v' (n + m) (xs++news)∧w.grownBy w' v.ownBlock∧(v'.ownBlock=v.ownBlock∨(v'.ownBlock=some w.heap.size∧w.heap.size < w'.heap.size)):=by
 obtain ⟨ht,hes',heb⟩:=ZaM hy hk
 obtain ⟨dx,ix,hux,_,hkx',_⟩:=Zaw hyx
 obtain ⟨de,i,hue,hi,_,hsz,hby,hzero⟩:=Zaw hye
 have hsi:i.size=es:=by rw [← hes'];simp [Program.cellsOf,hi]
 have hbi:i.bytes=eb:=by rw [← heb];simp [Program.bytesOf,hi]
 rw [hz] at hzero
 obtain ⟨z,hz1,hz2⟩:=Option.map_eq_some_iff.1 hzero.symm
 have hzs:z.cells.size=es:=by rw [← hzl,← hz2];simp
 have hlen':(xs++news).length=(n + m) * es:=by rw [List.length_append,hown.1,hl,Nat.add_mul]
 have hdx:dx=.string∨∃ e',dx=.slice e':=by
  rw [hkx'] at hkx
  cases dx<;>first|exact .inl rfl|exact .inr ⟨_,rfl⟩|(rcases hkx with h|⟨a,b,c,h⟩<;>cases h)
 have hc0:(Builtin.firstCells es m x).run P w=.ok news.toArray w:=hcells 0
 have hc1:(Builtin.firstCells es m x).run P w.drew=.ok news.toArray w.drew:=hcells 1
 have grow:∀ (base:Option Addr) (cap:Nat),v=.slice base n cap→cap < n + m→(Builtin.firstCells es n v).run P w.drew=.ok xs.toArray w.drew→∃ v' w',(Builtin.append_ #[t,xt] ty #[v,x]).run P w=.ok v' w'∧ZbZ w' e es v' (n + m) (xs++news)∧w.grownBy w' v.ownBlock∧(v'.ownBlock=v.ownBlock∨(v'.ownBlock=some w.heap.size∧w.heap.size < w'.heap.size)):=by
  intro base cap hv hg hold
  have hge:=grownCap_ge w (n + m) cap e
  have hcm:grownCap w (n + m) cap e≤maxLen:=grownCap_le_maxLen w (n + m) cap e h63
  have hnr:¬ (n + m≤cap):=by omega
  have h63':¬ (9223372036854775807 < ((n:Int) + (m:Int))):=by simp only [maxLen] at h63;omega
  have hfit:=growslice_fits (need:=n + m) (old:=cap) (bytes:=eb) hg hbytes
  have h48':¬ (281474976710656 < Builtin.nextslicecap (n + m) cap * eb):=by omega
  refine ⟨.slice (some ⟨w.heap.size,0,none⟩) (n + m) (grownCap w (n + m) cap e),w.drew.alloc (.cells (xs.toArray++news.toArray++Builtin.zeroCells z.cells (grownCap w (n + m) cap e - (n + m))) e),?_,⟨hlen',.inr ⟨w.heap.size,0,_,_,(0,0),rfl,heap_alloc_new w.drew _,.inl rfl,hge,hcm,?_,?_⟩⟩,⟨rfl,rfl,rfl,by simp,fun k hk _=>Below.heap_alloc w.drew _ k hk⟩,.inr ⟨rfl,by simp⟩⟩
  ·subst hv
   rcases hdx with rfl|⟨e',rfl⟩<;>(simp [Builtin.append_,run_underlying ht,run_underlying hux,sizeOf,typeInfo,zeroValue,hi,hz1,hsi,hbi,hlen,hnr,h63',h48',Question.forced,hc1,hold,newRow,grownCap];first|done|(congr 2;apply Array.ext';simp [List.append_assoc]))
  ·simp only [Array.size_append,List.size_toArray,size_zeroCells,hzs,hown.1,hl,← Nat.add_mul]
   rw [Nat.zero_add]
   refine Nat.le_of_eq ?_
   congr 1
   omega
  ·simp only [Array.toList_append,List.append_assoc,List.drop_zero]
   rw [← List.append_assoc,← hlen']
   exact List.take_left
 rcases hown.2 with ⟨rfl,rfl⟩|⟨g,off,cap,cur,fz,rfl,hg,hfz,hnc,hcm,hcs,htake⟩
 ·have hx:xs=[]:=List.eq_nil_of_length_eq_zero (by simpa using hown.1)
  subst hx
  by_cases hm:m=0
  ·subst hm
   have hn:news=[]:=List.eq_nil_of_length_eq_zero (by simpa using hl)
   subst hn
   refine ⟨.slice none 0 0,w,?_,ZbZ.nil _ _ _,World.grownBy.refl w _,.inl rfl⟩
   rcases hdx with rfl|⟨e',rfl⟩<;>(simp [Builtin.append_,run_underlying ht,run_underlying hux,sizeOf,typeInfo,hi,hsi,hlen,hc0])
  ·exact grow none 0 rfl (by omega) (by simp [Builtin.firstCells])
 ·by_cases hroom:n + m≤cap
  ·have hle:off + n * es + news.length≤cur.size:=by
    have:(n + m) * es≤cap * es:=Nat.mul_le_mul_right _ hroom
    rw [Nat.add_mul] at this
    rw [hl]
    omega
   have hst:=ZbQ P g (off + n * es) e fz news 0 cur w hg hfz (by simpa using hle) h1
   simp only [Nat.add_zero] at hst
   have htl:(cur.toList.take (off + n * es)).length=off + n * es:=by rw [List.length_take];simp;omega
   refine ⟨.slice (some ⟨g,off,none⟩) (n + m) cap,w.setRow g (cur.toList.take (off + n * es)++news++cur.toList.drop (off + n * es + news.length)).toArray,?_,⟨hlen',.inr ⟨g,off,cap,(cur.toList.take (off + n * es)++news++cur.toList.drop (off + n * es + news.length)).toArray,fz,rfl,setRow_heap w g cur _ e fz hg,?_,hroom,hcm,?_,?_⟩⟩,⟨rfl,rfl,rfl,by simp,fun k _ hk=>setRow_other w g _ k fun e=>hk (by rw [e];rfl)⟩,.inl rfl⟩
   ·rcases hdx with rfl|⟨e',rfl⟩<;>(simp [Builtin.append_,run_underlying ht,run_underlying hux,sizeOf,typeInfo,hi,hsi,hlen,hc0,hroom,ZaS,hst])
   ·rcases hfz with h|h
    ·exact .inl h
    ·right
     simp only [List.size_toArray,List.length_append,htl,List.length_drop,Array.length_toList]
     omega
   ·simp only [List.size_toArray,List.length_append,htl,List.length_drop,Array.length_toList]
    omega
   ·have hdt:(cur.toList.take (off + n * es)).drop off=xs:=by
     rw [← htake,List.drop_take]
     congr 1
     omega
    rw [List.toList_toArray,List.append_assoc,List.drop_append_of_le_length (by rw [htl];omega),hdt,← List.append_assoc,← hlen']
    exact List.take_left
  ·refine grow _ cap rfl (by omega) ?_
   refine run_firstCells_some (P:=P) w.drew es n _ n cap xs hown.1 fun j u hu=>?_
   rw [ZaS]
   rw [← htake,List.getElem?_take] at hu
   split at hu
   ·rw [List.getElem?_drop] at hu
    show w.cell? ⟨g,off + j,none⟩=some u
    rw [cell_of_row w g (off + j) cur e fz hg]
    simpa using hu
   ·cases hu
def cvt (lk:Nat→Option (Nat×Ob)):List V→Option (List T×List (Nat×Nat)×Bool)
 | []=>some ([],[],true)
 | .t x :: r=>match cvt lk r with
  | some (ts,ks,d)=>some (x :: ts,ks,(match x with | .lst ..=>false|_=>d))
  | none=>none
 | .hnd o ep :: r=>match lk o,cvt lk r with
  | some (ep',.row fl d' e els),some (ts,ks,d)=>if ep'=ep then some (.lst fl e els :: ts,(o,ep) :: ks,d && d') else none
  | _,_=>none
 | _=>none
section
variable {P:Program} {B:Nat→Prop} {W:En} {st:St} {a:Act} {w:World} {pl:Nat→Value} {F:Nat→Nat→Prop}
structure Cv (P:Program) (B:Nat→Prop) (W:En) (st:St) (w:World) (F:Nat→Nat→Prop) (ts:List T) (us:List Value) (ks:List (Nat×Nat)) (d:Bool):Prop where
 len:us.length=ts.length
 one:∀ u ∈ us,u.oneCell'=true
 rd:∀ (k:Nat) (x:T) (u:Value),ts[k]?=some x→us[k]?=some u→Rd P w (fun b=>Free B W.o (look st.objs) F w b∨∃ o e y,(o,e) ∈ ks∧look st.objs o=some y∧F o b) x u
 own:d=true→∃ fs:Nat→Nat→Prop,(∀ (k:Nat) (x:T) (u:Value),ts[k]?=some x→us[k]?=some u→Ow P w x u (fs k))∧(∀ k b,fs k b→∃ o e y,(o,e) ∈ ks∧look st.objs o=some y∧F o b)∧∀ k k' b,k ≠ k'→fs k b→¬ fs k' b
 live:∀ o e,(o,e) ∈ ks→∃ b,look st.objs o=some (e,b)
theorem SimW.cvt (h:SimW P B W st a w pl F):∀ {vs:List V} {us:List Value} {ts:List T} {ks:List (Nat×Nat)} {d:Bool},Pw (C0 P w (look st.objs) pl (Free B W.o (look st.objs) F w)) vs us→cvt (look st.objs) vs=some (ts,ks,d)→(ks.map (·.1)).Nodup→Cv P B W st w F ts us ks d
 | [],us,ts,ks,d,hp,hc,_=>by
  cases hc
  have:us=[]:=List.eq_nil_of_length_eq_zero hp.1
  subst this
  exact ⟨rfl,by simp,fun k x u h=>by simp at h,fun _=>⟨fun _ _=>False,fun k x u h=>by simp at h,fun _ _ h=>h.elim,fun _ _ _ _ h=>h.elim⟩,fun o e h=>by cases h⟩
 | _ :: _,[],_,_,_,hp,_,_=>by have:=hp.1;simp at this
 | v :: r,u :: us,ts,ks,d,hp,hc,hn=>by
  have hr:Pw (C0 P w (look st.objs) pl (Free B W.o (look st.objs) F w)) r us:=⟨by have:=hp.1;simpa using this,fun k x v hx hv=>hp.2 (k + 1) x v (by simpa using hx) (by simpa using hv)⟩
  have hv:=hp.2 0 v u rfl rfl
  cases v with
  | t x =>
   unfold Ab.cvt at hc
   split at hc
   ·rename_i ts' ks' d' hc'
    cases hc
    have ih:=h.cvt hr hc' hn
    have hx:Rd P w (Free B W.o (look st.objs) F w) x u:=hv
    refine ⟨by simp [ih.len],fun y hy=>?_,fun k y z hy hz=>?_,fun hd=>?_,ih.live⟩
    ·rcases List.mem_cons.1 hy with rfl|hy
     ·exact hx.one
     ·exact ih.one y hy
    ·cases k with
     | zero=>simp at hy hz;subst hy hz;exact hx.mono (fun b hb=>.inl hb) fun _ _=>rfl
     | succ k=>exact ih.rd k y z (by simpa using hy) (by simpa using hz)
    ·have hd':d'=true∧∀ fl e els,x ≠ .lst fl e els:=by
      cases x<;>first|(exact ⟨hd,fun _ _ _ h=>by cases h⟩)|cases hd
     obtain ⟨fs,g1,g2,g3⟩:=ih.own hd'.1
     refine ⟨fun k b=>match k with|0=>False|k + 1=>fs k b,fun k y z hy hz=>?_,fun k b hb=>?_,fun k k' b hne hb=>?_⟩
     ·cases k with
      | zero =>
       simp at hy hz
       subst hy hz
       cases x with
       | nil=>cases hx;exact .nil fun _ h=>h
       | lst fl e els=>exact absurd rfl (hd'.2 fl e els)
       | int=>exact .flat rfl (hx.flat rfl) fun _ h=>h
       | bool=>exact .flat rfl (hx.flat rfl) fun _ h=>h
       | str=>exact .flat rfl (hx.flat rfl) fun _ h=>h
      | succ k=>exact g1 k y z (by simpa using hy) (by simpa using hz)
     ·cases k with
      | zero=>exact hb.elim
      | succ k=>exact g2 k b hb
     ·cases k with
      | zero=>exact hb.elim
      | succ k =>
       cases k' with
       | zero=>exact fun h=>h
       | succ k'=>exact g3 k k' b (by omega) hb
   ·cases hc
  | hnd o ep =>
   unfold Ab.cvt at hc
   split at hc
   ·rename_i ep' fl d' e els ts' ks' d'' hl hc'
    split at hc
    ·rename_i he
     subst he
     cases hc
     rw [List.map_cons,List.nodup_cons] at hn
     have ih:=h.cvt hr hc' hn.2
     obtain ⟨hone,ep2,ob,h2,h3,h4⟩:C0 P w (look st.objs) pl (Free B W.o (look st.objs) F w) (.hnd o ep') u:=hv
     rw [hl] at h2
     cases h2
     have hu:=(h4 rfl).2
     obtain ⟨us',hrow⟩:=ZbX (h.objs o _ _ hl)
     refine ⟨by simp [ih.len],fun y hy=>?_,fun k y z hy hz=>?_,fun hd=>?_,fun i e' hi=>?_⟩
     ·rcases List.mem_cons.1 hy with rfl|hy
      ·exact hone
      ·exact ih.one y hy
     ·cases k with
      | zero =>
       simp at hy hz
       subst hy hz
       obtain ⟨A,c,g1,g2,g3,g4⟩:=hrow.slice
       rw [hu,g1]
       refine .lst us' g2 g3 hrow.uni hrow.flt hrow.len (fun hn=>?_) fun k x u hx hv=>(hrow.rd k x u hx hv).mono (fun b hb=>?_) fun _ _=>rfl
       ·obtain ⟨g,off,rfl,g5,_,g6⟩:=g4 hn
        exact ⟨_,rfl,.inr ⟨o,ep',_,by simp,hl,hrow.top _ g5⟩,fun k u hk=>by rw [ZaS];exact g6 k u hk⟩
       ·rcases hb with hb|hb
        ·exact .inr ⟨o,ep',_,by simp,hl,hb⟩
        ·exact .inl hb
      | succ k =>
       refine (ih.rd k y z (by simpa using hy) (by simpa using hz)).mono (fun b hb=>?_) fun _ _=>rfl
       rcases hb with hb|⟨i,e',y',h1,h2⟩
       ·exact .inl hb
       ·exact .inr ⟨i,e',y',by simp [h1],h2⟩
     ·simp only [Bool.and_eq_true] at hd
      obtain ⟨hd1,hd2⟩:=hd
      subst hd2
      obtain ⟨fs,g1,g2,g3⟩:=ih.own hd1
      have hrow':Ow P w (.lst fl e els) (pl o) (F o):=by
       rcases h.objs o _ _ hl with ⟨_,h5⟩|⟨h5,_⟩
       ·exact h5
       ·cases h5
      have hap:∀ k b,F o b→¬ fs k b:=fun k b hb hf=>by
       obtain ⟨i,e',y',h1,h2,h3⟩:=g2 k b hf
       refine h.apart o i _ _ b ?_ hl h2 hb h3
       rintro rfl
       exact hn.1 (List.mem_map.2 ⟨_,h1,rfl⟩)
      refine ⟨fun k b=>match k with|0=>F o b|k + 1=>fs k b,fun k y z hy hz=>?_,fun k b hb=>?_,fun k k' b hne hb=>?_⟩
      ·cases k with
       | zero=>simp at hy hz;subst hy hz;rw [hu];exact hrow'
       | succ k=>exact g1 k y z (by simpa using hy) (by simpa using hz)
      ·cases k with
       | zero=>exact ⟨o,ep',_,by simp,hl,hb⟩
       | succ k =>
        obtain ⟨i,e',y',h1,h2⟩:=g2 k b hb
        exact ⟨i,e',y',by simp [h1],h2⟩
      ·cases k with
       | zero =>
        cases k' with
        | zero=>omega
        | succ k'=>exact hap k' b hb
       | succ k =>
        cases k' with
        | zero=>exact fun hf=>hap k b hf hb
        | succ k'=>exact g3 k k' b (by omega) hb
     ·rcases List.mem_cons.1 hi with h5|h5
      ·cases h5;exact ⟨_,hl⟩
      ·exact ih.live i e' h5
    ·cases hc
   ·cases hc
  | _=>cases hc
end
def unflat {α:Type} (es:Nat):Nat→List α→List (List α)
 | 0,_=>[]
 | n + 1,ts=>ts.take es :: unflat es n (ts.drop es)
theorem ZmO {P:Program} {w':World} {CC:V→Value→Prop} {Fr':Nat→Prop} {v':Value} {F':Nat→Prop} {fl d:Bool} {e:TypeId} {els:List (List T)} {us:List Value} (h1:ZbZ w' e (P.cellsOf e) v' els.length us) (h2:∀ x ∈ els,x.length=P.cellsOf e) (h3:fl=true→∀ x ∈ els.flatten,x.flat=true) (h4:els.flatten.length=us.length)
  (hs:d=false→(∀ (k:Nat) (x:T) (u:Value),els.flatten[k]?=some x→us[k]?=some u→Rd P w' Fr' x u)∧∀ b,F' b↔v'.ownBlock=some b)
  (ho:d=true→∃ fs:Nat→Nat→Prop,(∀ (k:Nat) (x:T) (u:Value),els.flatten[k]?=some x→us[k]?=some u→Ow P w' x u (fs k))∧(∀ k k' b,k ≠ k'→fs k b→¬ fs k' b)∧(∀ k b,fs k b→v'.ownBlock ≠ some b)∧∀ b,F' b↔(v'.ownBlock=some b∨∃ k,fs k b)) :
  ObR P w' CC (Rd P w' Fr') v' F' (.row fl d e els):=by
 cases d with
 | false =>
  obtain ⟨g1,g2⟩:=hs rfl
  exact .inr ⟨rfl,us,h1,h2,h3,h4,g1,g2⟩
 | true =>
  obtain ⟨fs,g1,g2,g3,g4⟩:=ho rfl
  exact .inl ⟨rfl,.lst us fs h1 h2 h3 h4 g1 g2 g3 g4⟩
open Go.RowKit Go.Lib
section
variable {P:Program} {B:Nat→Prop} {W:En} {o:Oper} {st:St} {KE:V→List (Nat×Nat×Ob)→Prop}
theorem OpS.newrow {site ep e:Nat} {fl d:Bool} {els:List (List T)} {ks:List (Nat×Nat)} (hep:nep (look st.objs site)=ep) (hks:∀ x e,(x,e) ∈ ks→x ≠ site) (hu:∀ x ∈ els,x.length=P.cellsOf e) (hfl:fl=true→∀ x ∈ els.flatten,x.flat=true) (hK:KE (.hnd site ep) ((site,ep,.row fl d e els) :: ZdT ks))
  (h:∀ a w pl F,SimW P B W st a w pl F→∃ (us:List Value) (u:Value) (w':World),(execOp a.eval o).run P w=.ok (.value u) w'∧Below w.heap.size w w'∧ZbZ w' e (P.cellsOf e) u els.length us∧(∀ b,u.ownBlock=some b→w.heap.size≤b∧b < w'.heap.size)∧Cv P B W st w F els.flatten us ks d):OpS P B W o st KE:=by
 subst hep
 have hlive:∀ a w pl F,SimW P B W st a w pl F→∀ x e,(x,e) ∈ ks→∃ b,look st.objs x=some (e,b):=fun a w pl F hs=>by
  obtain ⟨us,u,w',_,_,_,_,hc⟩:=h a w pl F hs
  exact hc.live
 intro a w pl0 F0 hs0 next Q hn
 refine OpS.chg (P:=P) (B:=B) (W:=W) (o:=o) (st:=st) (KE:=KE) (ks:=ks) (i:=site) (ep:=nep (look st.objs site)) hK (fun x e hx=>⟨hks x e hx,hlive a w pl0 F0 hs0 x e hx⟩) (fun a w pl F hs=>?_) a w pl0 F0 hs0 next Q hn
 obtain ⟨us,u,w',hr,hb,hown,htop,hc⟩:=h a w pl F hs
 have hown':=hown
 have hone:u.oneCell'=true:=by obtain ⟨A,c,rfl,_⟩:=Zbm hown;rfl
 have hKlt:∀ o e y b,(o,e) ∈ ks→look st.objs o=some y→F o b→b < w.heap.size:=fun o e y b _ hl hf=>(hs.range o y b hl hf).2
 have hkeep:∀ b,b < w.heap.size→w'.heap[b]?=w.heap[b]?:=fun b hlt=>hb.block b hlt
 cases d with
 | false =>
  refine ⟨_,w',u,fun b=>u.ownBlock=some b,u,hr,.inl rfl,Below.kp hb hs.below.size,fun b hlt _=>hkeep b hlt,fun ep0 ob0 h0=>.inl (ZgQ h0),fun _=>ZeH _,fun b hb=>.inl (htop b hb),fun lk' pl' Fr' g hg e1 e2=>⟨?_,hone,_,_,e1,Nat.le_refl _,fun _=>⟨rfl,e2.symm⟩⟩⟩
  refine ZmO hown' hu hfl hc.len.symm (fun _=>⟨fun k x v hx hv=>(hc.rd k x v hx hv).mono (fun b hb=>?_) fun b hb=>?_,fun b=>Iff.rfl⟩) fun h=>by cases h
  ·rcases hb with hb|⟨i,e',y,h1,h2,h3⟩
   ·exact g.more b hb
   ·refine hg b (.inr ⟨i,y,hks i e' h1,⟨e',h1⟩,h2,h3⟩) fun ht=>?_
    have:=(htop b ht).1
    have:=hKlt i e' y b h1 h2 h3
    omega
  ·rcases hb with hb|⟨i,e',y,h1,h2,h3⟩
   ·exact hkeep b hb.2.1
   ·exact hkeep b (hKlt i e' y b h1 h2 h3)
 | true =>
  obtain ⟨fs,g1,g2,g3⟩:=hc.own rfl
  have hfs:∀ k b,fs k b→b < w.heap.size:=fun k b hf=>by
   obtain ⟨i,e',y,h1,h2,h3⟩:=g2 k b hf
   exact hKlt i e' y b h1 h2 h3
  refine ⟨_,w',u,fun b=>u.ownBlock=some b∨∃ k,fs k b,u,hr,.inl rfl,Below.kp hb hs.below.size,fun b hlt _=>hkeep b hlt,fun ep0 ob0 h0=>.inl (ZgQ h0),fun _=>ZeH _,fun b hb=>?_,fun lk' pl' Fr' g hg e1 e2=>⟨?_,hone,_,_,e1,Nat.le_refl _,fun _=>⟨rfl,e2.symm⟩⟩⟩
  ·rcases hb with hb|⟨k,hk⟩
   ·exact .inl (htop b hb)
   ·obtain ⟨i,e',y,h1,h2,h3⟩:=g2 k b hk
    exact .inr (.inr ⟨i,y,hks i e' h1,⟨e',h1⟩,h2,h3⟩)
  ·refine ZmO hown' hu hfl hc.len.symm (fun h=>by cases h) fun _=>⟨fs,fun k x v hx hv=>(g1 k x v hx hv).keep fun b hb=>hkeep b (hfs k b hb),g3,fun k b hb ht=>?_,fun b=>Iff.rfl⟩
   have:=(htop b ht).1
   have:=hfs k b hb
   omega
theorem Zgx {w:World} {F:Nat→Nat→Prop} {ts:List T} {us:List Value} (hp:Pw (Rd P w (Free B W.o (look st.objs) F w)) ts us) (hf:∀ x ∈ ts,x.flat=true) (d:Bool):Cv P B W st w F ts us [] d :=
 ⟨hp.1,fun u hu=>by
  obtain ⟨k,hk,rfl⟩:=List.getElem_of_mem hu
  have hlt:k < ts.length:=by rw [← hp.1];exact hk
  exact (hp.2 k _ _ (List.getElem?_eq_getElem hlt) (List.getElem?_eq_getElem hk)).one,fun k x u hx hu=>(hp.2 k x u hx hu).mono (fun b hb=>.inl hb) fun _ _=>rfl,
  fun _=>⟨fun _ _=>False,fun k x u hx hu=>.flat (hf _ (List.mem_of_getElem? hx)) ((hp.2 k x u hx hu).flat (hf _ (List.mem_of_getElem? hx))) fun _ h=>h,fun _ _ h=>h.elim,fun _ _ _ _ h=>h.elim⟩,fun o e h=>(by cases h)⟩
theorem ZhC {w:World} {F:Nat→Nat→Prop} {ts:List T} {us:List Value} (hp:Pw (Rd P w (Free B W.o (look st.objs) F w)) ts us):Cv P B W st w F ts us [] false :=
 ⟨hp.1,fun u hu=>by
  obtain ⟨k,hk,rfl⟩:=List.getElem_of_mem hu
  have hlt:k < ts.length:=by rw [← hp.1];exact hk
  exact (hp.2 k _ _ (List.getElem?_eq_getElem hlt) (List.getElem?_eq_getElem hk)).one,fun k x u hx hu=>(hp.2 k x u hx hu).mono (fun b hb=>.inl hb) fun _ _=>rfl,fun h=>(by cases h),fun o e h=>(by cases h)⟩
theorem OpS.buildSlice {t:TypeId} {len:Nat} {parts:Array (Nat×Operand)} {xs:List Operand} {y ye:Ty} {e es eb site ep:Nat} {zs:List V} {ts:List T} {ks:List (Nat×Nat)} {d fl:Bool} {els:List (List T)} {vs:List V}
  (ho:o.op=.buildSlice t len parts) (hd:o.dst=some site) (hparts:parts.toList=(xs.zipIdx 0).map fun p=>(p.2,p.1)) (hlen:xs.length=len) (hy:Zac P t=some y) (hk:y.k=.slice e es eb) (hye:Zac P e=some ye) (hz:ye.zero=some zs) (hzl:zs.length=es) (hes:0 < es) (hsm:len * es≤16777216)
  (hvs:xs.map st.ev=vs) (hsto:vs.all (fun v=>(ZaT v).all V.sto && decide ((ZaT v).length=es))=true) (hcv:cvt (look st.objs) (vs.flatMap ZaT)=some (ts,ks,d)) (hnd:(ks.map (·.1)).Nodup) (hks:∀ x e,(x,e) ∈ ks→x ≠ site)
  (hel:els.flatten=ts) (hell:els.length=len) (hu:∀ x ∈ els,x.length=es) (hfl:ts.all T.flat=fl) (hep:nep (look st.objs site)=ep) (hK:KE (.hnd site ep) ((site,ep,.row fl d e els) :: ZdT ks)):OpS P B W o st KE:=by
 obtain ⟨ht,hes',heb⟩:=ZaM hy hk
 have hsto':∀ v ∈ vs,(ZaT v).all V.sto=true∧(ZaT v).length=es:=fun v hv=>by
  have:=List.all_eq_true.1 hsto v hv
  rw [Bool.and_eq_true] at this
  exact ⟨this.1,of_decide_eq_true this.2⟩
 refine OpS.newrow hep hks (by rw [hes'];exact hu) (fun h=>by rw [← hfl] at h;rw [hel];exact List.all_eq_true.1 h) hK fun a w pl F hs=>?_
 obtain ⟨de,i,hue,hi,_,hsz,hby,hzero⟩:=Zaw hye
 have hsi:i.size=es:=by rw [← hes'];simp [Program.cellsOf,hi]
 rw [hz] at hzero
 obtain ⟨z,hz1,hz2⟩:=Option.map_eq_some_iff.1 hzero.symm
 have hzs:z.cells.size=es:=by rw [← hzl,← hz2];simp
 -- the values' cells
 have hcells:∀ (l:List Operand),(∀ x ∈ l,st.ev x ∈ vs)→∃ us:List Value,(l.map a.eval).flatMap (fun v=>v.cells.toList)=us∧Pw (C0 P w (look st.objs) pl (Free B W.o (look st.objs) F w)) ((l.map st.ev).flatMap ZaT) us∧∀ v ∈ l.map a.eval,v.cells.size=es:=by
  intro l
  induction l with
  | nil=>intro _;exact ⟨[],rfl,Pw.nil,by simp⟩
  | cons x l ih =>
   intro hl
   obtain ⟨us,h1,h2,h3⟩:=ih fun y hy=>hl y (by simp [hy])
   obtain ⟨g1,g2⟩:=hsto' (st.ev x) (hl x (by simp))
   obtain ⟨us',h4,h5,h6⟩:=((hs.ev x).c1 g1).cells g1
   have hlen5:us'.length=es:=by rw [h5.1,g2]
   refine ⟨us'++us,by simp only [List.map_cons,List.flatMap_cons,h1,h4],by simpa [List.map_cons,List.flatMap_cons] using h5.append h2,fun v hv=>?_⟩
   rw [List.map_cons] at hv
   rcases List.mem_cons.1 hv with rfl|hv
   ·rw [h4];simpa using hlen5
   ·exact h3 v hv
 obtain ⟨us,hu1,hu2,hu3⟩:=hcells xs fun x hx=>by rw [← hvs];exact List.mem_map_of_mem hx
 rw [hvs] at hu2
 have hc:=hs.cvt hu2 hcv hnd
 have hulen:us.length=len * es:=by
  rw [hc.len,← hel,ZaE hu,hell]
 have hpl:(parts.map fun x=>(x.1,a.eval x.2)).toList=((xs.map a.eval).zipIdx 0).map fun p=>(p.2,p.1):=by
  rw [Array.toList_map,hparts,List.map_map,List.zipIdx_map,List.map_map]
  rfl
 by_cases hl0:len=0
 ·subst hl0
  have hx0:xs=[]:=List.eq_nil_of_length_eq_zero hlen
  subst hx0
  have hus:us=[]:=List.eq_nil_of_length_eq_zero (by simpa using hulen)
  subst hus
  refine ⟨[],.slice (some ⟨w.heap.size,0,none⟩) 0 0,w.alloc (.cells #[] e),?_,Zd2 w _,?_,fun b hb=>(by cases hb;simp),by rw [hel];exact hc⟩
  ·unfold execOp
   rw [ho]
   refine Zap ?_
   have hp0:parts=#[]:=by
    have:parts.toList=[]:=hparts
    simpa using this
   subst hp0
   simp [Instr.buildSlice,run_underlying ht,sizeOf,typeInfo,hi,Instr.fill,newRow]
   congr 2
   exact Array.eq_empty_of_size_eq_zero (by simp)
  ·rw [hell]
   exact ⟨by simp,.inr ⟨w.heap.size,0,0,#[],(0,0),rfl,heap_alloc_new w _,.inl rfl,Nat.le_refl _,by simp [maxLen],by simp,by simp⟩⟩
 ·have hfill:=Great.fill_whole hes (xs.map a.eval) ((Array.range (len * i.size)).map (z.cells[· % z.cells.size]!)) hu3 (by simp [hsi,hlen])
  rw [← hpl,hu1] at hfill
  rw [← hsi] at hfill
  refine ⟨us,.slice (some ⟨w.heap.size,0,none⟩) len len,w.alloc (.cells us.toArray e),?_,Zd2 w _,?_,fun b hb=>(by cases hb;simp),by rw [hel];exact hc⟩
  ·unfold execOp
   rw [ho]
   refine Zap ?_
   exact run_buildSlice w t e len _ us.toArray i z ht hi hz1 (by rw [hsi];omega) (by rw [hsi];exact Nat.ne_of_gt (Nat.mul_pos (by omega) hes)) hfill
  ·rw [hell,hes']
   have hlm:len≤maxLen:=by
    have:len≤len * es:=Nat.le_mul_of_pos_right _ hes
    have hm:(16777216:Nat)≤maxLen:=by decide
    omega
   exact ⟨hulen,.inr ⟨w.heap.size,0,len,us.toArray,(0,0),rfl,heap_alloc_new w _,.inl rfl,Nat.le_refl _,hlm,by simp [hulen],by rw [← hulen];simp⟩⟩
def Zdo (P:Program) (B:Nat→Prop) (W:En) (st:St) (a:Act) (w:World) (F:Nat→Nat→Prop) (x:Operand) (es:Nat) (els:List (List T)) (ks:List (Nat×Nat)) (d:Bool):Prop :=
 ∃ us:List Value,(Builtin.lenOf (a.eval x)).run P w=.ok els.length w∧(∀ k,(Builtin.firstCells es els.length (a.eval x)).run P (w.drewN k)=.ok us.toArray (w.drewN k))∧els.length≤maxLen∧Cv P B W st w F els.flatten us ks d
theorem ZcO {w:World} {B:Nat→Prop} {A:Option Addr} {n c es:Nat} {us:List Value} (h:Mem w B A us) (hl:us.length=n * es) (k:Nat):(Builtin.firstCells es n (.slice A n c)).run P (w.drewN k)=.ok us.toArray (w.drewN k):=by
 by_cases hn:us=[]
 ·subst hn
  cases A with
  | none=>simp [Builtin.firstCells]
  | some ad =>
   have h0:n * es=0:=by simpa using hl.symm
   simp [Builtin.firstCells,h0,loadCells,loadCellsFrom]
 ·obtain ⟨ad,rfl,_,hc⟩:=h hn
  exact run_firstCells_some (P:=P) (w.drewN k) es n ad n c us hl hc
section
variable {a:Act} {w:World} {pl:Nat→Value} {F:Nat→Nat→Prop}
theorem SimW.src_lst (h:SimW P B W st a w pl F) {x:Operand} {fl:Bool} {e:TypeId} {els:List (List T)} (hx:st.ev x=.t (.lst fl e els)):Zdo P B W st a w F x (P.cellsOf e) els [] fl:=by
 obtain ⟨A,c,us,h1,h2,h3,h4,h5,h6,h7,h8⟩:=h.lst_at hx
 have hl:us.length=els.length * P.cellsOf e:=by rw [← h6,ZaE h4]
 refine ⟨us,by rw [h1];rfl,fun k=>by rw [h1];exact ZcO h7 hl k,Nat.le_trans h2 h3,?_⟩
 cases fl with
 | true=>exact Zgx ⟨h6.symm,h8⟩ (h5 rfl) _
 | false=>exact ZhC ⟨h6.symm,h8⟩
theorem SimW.src_str (h:SimW P B W st a w pl F) {x:Operand} {s:List UInt8} (hx:st.ev x=.t (.str s)):Zdo P B W st a w F x 1 (s.map fun c=>[.int .u8 (c.toNat:Nat)]) [] true:=by
 obtain ⟨h1,h2⟩:=h.str_at hx
 have hfl:(s.map fun c=>[T.int .u8 (c.toNat:Nat)]).flatten=s.map fun c=>T.int .u8 (c.toNat:Nat):=by
  induction s with
  | nil=>rfl
  | cons c s ih =>
   rw [List.map_cons,List.flatten_cons,List.map_cons,List.singleton_append]
   congr 1
   clear hx h1 h2 ih
   induction s with
   | nil=>rfl
   | cons c s ih=>simp [ih]
 refine ⟨strCells (bs s),by rw [h1];simp [Builtin.lenOf,Zb5],fun k=>?_,by simpa using h2,?_⟩
 ·rw [h1,List.length_map]
  have:=run_firstCells_string (P:=P) (w.drewN k) 1 (bs s)
  rw [Zb5] at this
  exact this
 ·rw [hfl]
  have hsc:strCells (bs s)=s.map fun c=>Value.int .u8 (c.toNat:Nat):=by simp [strCells,bs]
  rw [hsc]
  refine Zgx ⟨by simp,fun k x u hx hu=>?_⟩ (fun x hx=>?_) _
  ·rw [List.getElem?_map,Option.map_eq_some_iff] at hx hu
   obtain ⟨c,hc,rfl⟩:=hx
   obtain ⟨c',hc',rfl⟩:=hu
   rw [hc] at hc'
   cases hc'
   exact Rd.int (wf_u8 c)
  ·obtain ⟨c,_,rfl⟩:=List.mem_map.1 hx
   rfl
theorem SimW.src_hnd (h:SimW P B W st a w pl F) {x:Operand} {i ep:Nat} {fl d:Bool} {e:TypeId} {els:List (List T)} (hx:st.ev x=.hnd i ep) (hl:look st.objs i=some (ep,.row fl d e els)) (hf:fl=true∨d=false):Zdo P B W st a w F x (P.cellsOf e) els [] fl:=by
 obtain ⟨g1,us,hp⟩:=h.hnd_at hx hl
 obtain ⟨A,c,g2,g3,g4,g5⟩:=hp.slice
 have hlen:us.length=els.length * P.cellsOf e:=by rw [← hp.len,ZaE hp.uni]
 have hm:Mem w (fun _=>True) A us:=fun hn=>by
  obtain ⟨g,off,rfl,_,_,h6⟩:=g5 hn
  exact ⟨_,rfl,trivial,fun k u hk=>by rw [ZaS];exact h6 k u hk⟩
 refine ⟨us,by rw [g1,g2];rfl,fun k=>by rw [g1,g2];exact ZcO hm hlen k,Nat.le_trans g3 g4,?_⟩
 cases fl with
 | true=>exact Zgx ⟨hp.len.symm,fun k x u hx hu=>(hp.rd k x u hx hu).flat (hp.flt rfl _ (List.mem_of_getElem? hx))⟩ (hp.flt rfl) _
 | false =>
  have hd:d=false:=hf.resolve_left (by simp)
  exact ZhC ⟨hp.len.symm,hp.shr hd⟩
theorem SimW.src_move (h:SimW P B W st a w pl F) {x:Operand} {i ep:Nat} {fl:Bool} {e:TypeId} {els:List (List T)} (hx:st.ev x=.hnd i ep) (hl:look st.objs i=some (ep,.row fl true e els)):Zdo P B W st a w F x (P.cellsOf e) els [(i,ep)] true:=by
 obtain ⟨g1,us0,hp⟩:=h.hnd_at hx hl
 rcases h.objs i _ _ hl with ⟨_,h5⟩|⟨h5,_⟩
 ·cases h5 with
  | flat hf=>cases hf
  | lst us fs q1 q2 q3 q4 q5 q6 q7 q8 =>
   obtain ⟨A,c,g2,g3,g4,g5⟩:=Zbm q1
   have hlen:us.length=els.length * P.cellsOf e:=by rw [← q4,ZaE q2]
   have hm:Mem w (fun _=>True) A us:=fun hn=>by
    obtain ⟨g,off,rfl,_,_,h6⟩:=g5 hn
    exact ⟨_,rfl,trivial,fun k u hk=>by rw [ZaS];exact h6 k u hk⟩
   refine ⟨us,by rw [g1,g2];rfl,fun k=>by rw [g1,g2];exact ZcO hm hlen k,Nat.le_trans g3 g4,⟨q4.symm,fun u hu=>?_,fun k x u hx hu=>?_,fun _=>⟨fs,q5,fun k b hb=>⟨i,ep,_,by simp,hl,(q8 b).2 (.inr ⟨k,hb⟩)⟩,q6⟩,fun o e' ho=>?_⟩⟩
   ·obtain ⟨k,hk,rfl⟩:=List.getElem_of_mem hu
    have hlt:k < els.flatten.length:=by rw [q4];exact hk
    exact (q5 k _ _ (List.getElem?_eq_getElem hlt) (List.getElem?_eq_getElem hk)).one
   ·exact (q5 k x u hx hu).rd fun b hb=>.inr ⟨i,ep,_,by simp,hl,(q8 b).2 (.inr ⟨k,hb⟩)⟩
   ·simp at ho;obtain ⟨rfl,rfl⟩:=ho;exact ⟨_,hl⟩
 ·cases h5
end
theorem ZbZ.uniq {w:World} {e:TypeId} {size:Nat} {v:Value} {n n':Nat} {xs xs':List Value} (h:ZbZ w e size v n xs) (h':ZbZ w e size v n' xs'):xs=xs':=by
 rcases h.2 with ⟨hv1,h0⟩|⟨gg,off,cap,cur,fz,hv1,hh1,_,_,_,_,ht1⟩
 ·rcases h'.2 with ⟨hv2,h0'⟩|⟨gg',off',cap',cur',fz',hv2,_⟩
  ·have e1:=h.1;have e2:=h'.1
   rw [h0,Nat.zero_mul] at e1
   rw [h0',Nat.zero_mul] at e2
   rw [List.eq_nil_of_length_eq_zero e1,List.eq_nil_of_length_eq_zero e2]
  ·rw [hv1] at hv2;cases hv2
 ·rcases h'.2 with ⟨hv2,_⟩|⟨gg',off',cap',cur',fz',hv2,hh2,_,_,_,_,ht2⟩
  ·rw [hv1] at hv2;cases hv2
  ·rw [hv1] at hv2
   cases hv2
   rw [hh1] at hh2
   cases hh2
   rw [← ht1,← ht2]
theorem Zfw {s x:Operand} {c:Call} {t xt:TypeId} {a:Act} {w w':World} {u:Value} (ho:o.op=.call c) (h1:c.callee=.builtin .append) (h2:c.args=#[s,x]) (h3:c.argTypes=#[t,xt]) (hr:(Builtin.append_ #[t,xt] o.type #[a.eval s,a.eval x]).run P w=.ok u w'):(execOp a.eval o).run P w=.ok (.value u) w':=by
 unfold execOp
 rw [ho]
 simp [resolve,h1,h2,h3,invoke,builtin,hr]
theorem Zl2 {w w':World} {row:Option Nat} {N:Nat} (h:w.grownBy w' row) (hr:∀ g,row=some g→N≤g) (hN:N≤w.heap.size):Below N w w' :=
 ⟨h.os,h.tape,h.output,h.size,fun k hk=>h.block k (by omega) fun e=>by have:=hr k e.symm;omega⟩
def fits (n m eb:Nat):Prop:=(n + m) * eb≤140737488355328∧n + m≤9223372036854775807
theorem OpS.append_nil {s x:Operand} {c:Call} {t xt e es eb site ep:Nat} {y yx ye:Ty} {zs:List V} {els:List (List T)} {ks:List (Nat×Nat)} {d fl:Bool} (ho:o.op=.call c) (hd:o.dst=some site) (h1:c.callee=.builtin .append) (h2:c.args=#[s,x]) (h3:c.argTypes=#[t,xt])
  (hy:Zac P t=some y) (hk:y.k=.slice e es eb) (hyx:Zac P xt=some yx) (hkx:yx.k=.str∨∃ a b c,yx.k=.slice a b c) (hye:Zac P e=some ye) (hz:ye.zero=some zs) (hzl:zs.length=es) (hs:st.ev s=.t .nil)
  (hsrc:∀ a w pl F,SimW P B W st a w pl F→Zdo P B W st a w F x es els ks d) (hu:∀ a w pl F,SimW P B W st a w pl F→(∀ x ∈ els,x.length=es)∧(fl=true→∀ x ∈ els.flatten,x.flat=true)) (hks:∀ x e,(x,e) ∈ ks→x ≠ site) (hfit:fits 0 els.length eb) (hep:nep (look st.objs site)=ep)
  (hK:KE (.hnd site ep) ((site,ep,.row fl d e els) :: ZdT ks)):OpS P B W o st KE:=fun a0 w0 pl0 F0 hS0=>by
 obtain ⟨ht,hes',heb⟩:=ZaM hy hk
 obtain ⟨hu1,hu2⟩:=hu a0 w0 pl0 F0 hS0
 refine OpS.newrow (els:=els) hep hks (by rw [hes'];exact hu1) hu2 hK (fun a w pl F h=>?_) a0 w0 pl0 F0 hS0
 obtain ⟨us,q1,q2,q3,q4⟩:=hsrc a w pl F h
 have hlen:us.length=els.length * es:=by rw [q4.len,ZaE hu1]
 obtain ⟨v',w',r1,r2,r3,r4⟩:=ZgR (P:=P) w (ty:=o.type) hy hk hyx hkx hye hz hzl (ZbZ.nil w e es) q1 q2 hlen q4.one (by have:=hfit.2;simp only [maxLen];omega) hfit.1
 rw [Nat.zero_add,List.nil_append] at r2
 exact ⟨us,v',w',Zfw ho h1 h2 h3 (by rw [h.nil_at hs];exact r1),Zl2 r3 (fun g hg=>by cases hg) (Nat.le_refl _),by rw [hes'];exact r2,fun b hb=>(by rcases r4 with r4|⟨r4,r5⟩<;>rw [r4] at hb<;>cases hb;exact ⟨Nat.le_refl _,r5⟩),q4⟩
theorem OpS.append_hnd {s x:Operand} {c:Call} {t xt e e' es eb i ep:Nat} {y yx ye:Ty} {zs:List V} {els0 els:List (List T)} {ks:List (Nat×Nat)} {d0 d d' fl0 fl:Bool} (ho:o.op=.call c) (h1:c.callee=.builtin .append) (h2:c.args=#[s,x]) (h3:c.argTypes=#[t,xt])
  (hy:Zac P t=some y) (hk:y.k=.slice e es eb) (hyx:Zac P xt=some yx) (hkx:yx.k=.str∨∃ a b c,yx.k=.slice a b c) (hye:Zac P e=some ye) (hz:ye.zero=some zs) (hzl:zs.length=es) (hs:st.ev s=.hnd i ep) (hl:look st.objs i=some (ep,.row fl0 d0 e' els0)) (he:e'=e)
  (hsrc:∀ a w pl F,SimW P B W st a w pl F→Zdo P B W st a w F x es els ks d) (hu:∀ a w pl F,SimW P B W st a w pl F→(∀ x ∈ els,x.length=es)∧(fl=true→∀ x ∈ els.flatten,x.flat=true)) (hks:∀ x e,(x,e) ∈ ks→x ≠ i) (hfit:fits els0.length els.length eb) (hfl:fl=true→fl0=true) (hd':d'=true→d0=true∧d=true)
  (hK:KE (.hnd i (ep + 1)) ((i,ep + 1,.row fl d' e (els0++els)) :: ZdT ks)):OpS P B W o st KE:=fun a0 w0 pl0 F0 hS0=>by
 subst he
 obtain ⟨ht,hes',heb⟩:=ZaM hy hk
 obtain ⟨hu1,hu2⟩:=hu a0 w0 pl0 F0 hS0
 have hlive:∀ x e,(x,e) ∈ ks→∃ b,look st.objs x=some (e,b):=by
  obtain ⟨us,_,_,_,hc⟩:=hsrc a0 w0 pl0 F0 hS0
  exact hc.live
 refine OpS.chg (ks:=ks) (i:=i) (ep:=ep + 1) hK (fun x e hx=>⟨hks x e hx,hlive x e hx⟩) (fun a w pl F h=>?_) a0 w0 pl0 F0 hS0
 obtain ⟨us,q1,q2,q3,q4⟩:=hsrc a w pl F h
 obtain ⟨g1,us0,hp⟩:=h.hnd_at hs hl
 have hown:=hp.own
 rw [hes'] at hown
 have hlen:us.length=els.length * es:=by rw [q4.len,ZaE hu1]
 have hN:W.heap.size≤w.heap.size:=h.below.size
 obtain ⟨v',w',r1,r2,r3,r4⟩:=ZgR (P:=P) w (ty:=o.type) hy hk hyx hkx hye hz hzl hown q1 q2 hlen q4.one (by have:=hfit.2;simp only [maxLen];omega) hfit.1
 have hlt:∀ b,F i b→W.o b∧b < w.heap.size:=fun b hb=>h.range i _ b hl hb
 have htop:∀ b,v'.ownBlock=some b→(pl i).ownBlock=some b∨(b=w.heap.size∧w.heap.size < w'.heap.size):=fun b hb=>by
  rcases r4 with r4|⟨r4,r5⟩
  ·exact .inl (by rw [← r4];exact hb)
  ·rw [r4] at hb;cases hb;exact .inr ⟨rfl,r5⟩
 have hkeep:∀ b,b < w.heap.size→(pl i).ownBlock ≠ some b→w'.heap[b]?=w.heap[b]?:=fun b hb hne=>r3.block b hb fun e=>hne e.symm
 have hKF:∀ o e y b,(o,e) ∈ ks→look st.objs o=some y→F o b→b < w.heap.size∧¬ F i b:=fun o e y b hk hl' hf=>⟨(h.range o y b hl' hf).2,fun hi=>h.apart o i _ _ b (hks o e hk) hl' hl hf hi⟩
 have hone:v'.oneCell'=true:=by obtain ⟨A,c,rfl,_⟩:=Zbm r2;rfl
 have hfu:(els0++els).flatten=els0.flatten++els.flatten:=List.flatten_append
 have hul:∀ x ∈ els0++els,x.length=P.cellsOf e':=fun x hx=>by
  rcases List.mem_append.1 hx with hx|hx
  ·exact hp.uni x hx
  ·rw [hes'];exact hu1 x hx
 have hff:fl=true→∀ x ∈ (els0++els).flatten,x.flat=true:=fun hf x hx=>by
  rw [hfu] at hx
  rcases List.mem_append.1 hx with hx|hx
  ·exact hp.flt (hfl hf) x hx
  ·exact hu2 hf x hx
 have hll:(els0++els).flatten.length=(us0++us).length:=by rw [hfu,List.length_append,List.length_append,hp.len,q4.len]
 have hown':ZbZ w' e' (P.cellsOf e') v' (els0++els).length (us0++us):=by rw [hes',List.length_append];exact r2
 have hbel:Kp W w w':=⟨r3.os,r3.tape,r3.output,r3.size,fun k hk=>by
  by_cases hkw:k < w.heap.size
  ·exact r3.block k hkw fun e=>hk (hlt k (hp.top k e.symm)).1
  ·exact absurd (.inl (Nat.le_trans hN (Nat.le_of_not_lt hkw))) hk⟩
 have hch:∀ b,b < w.heap.size→(∀ x,look st.objs i=some x→¬ F i b)→w'.heap[b]?=w.heap[b]?:=fun b hb hf=>hkeep b hb fun ht'=>hf _ hl (hp.top b ht')
 have hsplit:∀ {Q:T→Value→Prop},(∀ (k:Nat) (x:T) (u:Value),els0.flatten[k]?=some x→us0[k]?=some u→Q x u)→(∀ (k:Nat) (x:T) (u:Value),els.flatten[k]?=some x→us[k]?=some u→Q x u) →
   ∀ (k:Nat) (x:T) (u:Value),(els0++els).flatten[k]?=some x→(us0++us)[k]?=some u→Q x u:=fun {Q} e1 e2 k x u hx hu=>by
  rw [hfu] at hx
  by_cases hk:k < els0.flatten.length
  ·rw [List.getElem?_append_left hk] at hx
   rw [List.getElem?_append_left (by rw [← hp.len];exact hk)] at hu
   exact e1 k x u hx hu
  ·rw [List.getElem?_append_right (by omega)] at hx
   rw [List.getElem?_append_right (by rw [← hp.len];omega),← hp.len] at hu
   exact e2 _ x u hx hu
 cases hdc:d' with
 | true =>
  obtain ⟨hd0,hd⟩:=hd' hdc
  subst hd0 hd
  obtain ⟨fs2,p1,p2,p3⟩:=q4.own rfl
  rcases h.objs i _ _ hl with ⟨_,h5⟩|⟨h5,_⟩
  case inr=>cases h5
  generalize hpl:pl i=vi at *
  cases h5 with
  | flat hf=>cases hf
  | lst us1 fs s1 s2 s3 s4 s5 s6 s7 s8 =>
  have hus:us1=us0:=s1.uniq hp.own
  subst hus
  have hFi:∀ k b,fs k b→F i b:=fun k b hb=>(s8 b).2 (.inr ⟨k,hb⟩)
  have hfs2:∀ k b,fs2 k b→b < w.heap.size∧¬ F i b:=fun k b hb=>by
   obtain ⟨j,e',y',k1,k2,k3⟩:=p2 k b hb
   exact hKF j e' y' b k1 k2 k3
  let fsA:Nat→Nat→Prop:=fun k=>if k < els0.flatten.length then fs k else fs2 (k - els0.flatten.length)
  have fsA1:∀ k,k < els0.flatten.length→fsA k=fs k:=fun k hk=>if_pos hk
  have fsA2:∀ k,¬ k < els0.flatten.length→fsA k=fs2 (k - els0.flatten.length):=fun k hk=>if_neg hk
  have hA:∀ k b,fsA k b→(∃ k,fs k b)∨∃ k,fs2 k b:=fun k b hb=>by
   by_cases hk:k < els0.flatten.length
   ·rw [fsA1 k hk] at hb;exact .inl ⟨k,hb⟩
   ·rw [fsA2 k hk] at hb;exact .inr ⟨_,hb⟩
  have hnt:∀ k b,fsA k b→v'.ownBlock ≠ some b:=fun k b hb ht'=>by
   rcases htop b ht' with h6|⟨h6,_⟩
   ·rcases hA k b hb with ⟨k',hf⟩|⟨k',hf⟩
    ·exact s7 k' b hf h6
    ·exact (hfs2 k' b hf).2 (hp.top b h6)
   ·subst h6
    rcases hA k _ hb with ⟨k',hf⟩|⟨k',hf⟩
    ·exact absurd (hlt _ (hFi k' _ hf)).2 (Nat.lt_irrefl _)
    ·exact absurd (hfs2 k' _ hf).1 (Nat.lt_irrefl _)
  refine ⟨_,w',v',fun b=>v'.ownBlock=some b∨∃ k,fsA k b,v',Zfw ho h1 h2 h3 (by rw [g1];exact r1),.inl rfl,hbel,hch,fun ep0 ob0 h0=>.inl (by rw [hl] at h0;cases h0;omega),fun _=>Nat.succ_pos _,fun b hb=>?_,fun lk' pl' Fr' g hg e1 e2=>⟨?_,hone,_,_,e1,Nat.le_refl _,fun _=>⟨rfl,e2.symm⟩⟩⟩
  ·rcases hb with hb|⟨k,hb⟩
   ·rcases htop b hb with h6|⟨h6,h7⟩
    ·exact .inr (.inl ⟨_,hl,hp.top b h6⟩)
    ·exact .inl (by omega)
   ·rcases hA k b hb with ⟨k',hf⟩|⟨k',hf⟩
    ·exact .inr (.inl ⟨_,hl,hFi k' b hf⟩)
    ·obtain ⟨j,e',y',k1,k2,k3⟩:=p2 k' b hf
     exact .inr (.inr ⟨j,y',hks j e' k1,⟨e',k1⟩,k2,k3⟩)
  ·refine ZmO hown' hul hff hll (fun h=>by cases h) fun _=>⟨fsA,fun k x u hx hu=>?_,fun k k' b hne hb hb'=>?_,hnt,fun b=>Iff.rfl⟩
   ·rw [hfu] at hx
    by_cases hk:k < els0.flatten.length
    ·rw [List.getElem?_append_left hk] at hx
     rw [List.getElem?_append_left (by rw [← hp.len];exact hk)] at hu
     rw [fsA1 k hk]
     exact (s5 k x u hx hu).keep fun b hb=>hkeep b (hlt b (hFi k b hb)).2 (s7 k b hb)
    ·rw [List.getElem?_append_right (by omega)] at hx
     rw [List.getElem?_append_right (by rw [← hp.len];omega),← hp.len] at hu
     rw [fsA2 k hk]
     exact (p1 _ x u hx hu).keep fun b hb=>hkeep b (hfs2 _ b hb).1 fun ht'=>(hfs2 _ b hb).2 (hp.top b ht')
   ·by_cases hk:k < els0.flatten.length
    ·rw [fsA1 k hk] at hb
     by_cases hk':k' < els0.flatten.length
     ·rw [fsA1 k' hk'] at hb';exact s6 k k' b hne hb hb'
     ·rw [fsA2 k' hk'] at hb';exact (hfs2 _ b hb').2 (hFi k b hb)
    ·rw [fsA2 k hk] at hb
     by_cases hk':k' < els0.flatten.length
     ·rw [fsA1 k' hk'] at hb';exact (hfs2 _ b hb).2 (hFi k' b hb')
     ·rw [fsA2 k' hk'] at hb';exact p3 _ _ b (by omega) hb hb'
 | false =>
  refine ⟨_,w',v',fun b=>v'.ownBlock=some b,v',Zfw ho h1 h2 h3 (by rw [g1];exact r1),.inl rfl,hbel,hch,fun ep0 ob0 h0=>.inl (by rw [hl] at h0;cases h0;omega),fun _=>Nat.succ_pos _,fun b hb=>?_,fun lk' pl' Fr' g hg e1 e2=>⟨?_,hone,_,_,e1,Nat.le_refl _,fun _=>⟨rfl,e2.symm⟩⟩⟩
  ·rcases htop b hb with h6|⟨h6,h7⟩
   ·exact .inr (.inl ⟨_,hl,hp.top b h6⟩)
   ·exact .inl (by omega)
  ·have hcv : ∀ (k : Nat) (x : T) (u : Value), els.flatten[k]? = some x → us[k]? = some u → Rd P w' Fr' x u := fun k x u hx hu => (q4.rd k x u hx hu).mono (fun b hb => by
     rcases hb with hb|⟨j,e',y',k1,k2,k3⟩
     ·exact g.more b hb
     ·have h6:=hKF j e' y' b k1 k2 k3
      refine hg b (.inr ⟨j,y',hks j e' k1,⟨e',k1⟩,k2,k3⟩) fun ht'=>?_
      rcases htop b ht' with h7|⟨h7,_⟩
      ·exact h6.2 (hp.top b h7)
      ·omega) fun b hb=>by
     rcases hb with hb|⟨j,e',y',k1,k2,k3⟩
     ·exact g.heap b hb
     ·have h6:=hKF j e' y' b k1 k2 k3
      exact hkeep b h6.1 fun ht'=>h6.2 (hp.top b ht')
   refine ZmO hown' hul hff hll (fun _=>⟨hsplit (fun k x u hx hu=>?_) hcv,fun b=>Iff.rfl⟩) fun h=>by cases h
   cases hd0:d0 with
   | false=>subst hd0;exact (hp.shr rfl k x u hx hu).mono g.more g.heap
   | true =>
    subst hd0
    rcases h.objs i _ _ hl with ⟨_,h5⟩|⟨h5,_⟩
    case inr=>cases h5
    generalize hpl:pl i=vi at *
    cases h5 with
    | flat hf=>cases hf
    | lst us1 fs s1 s2 s3 s4 s5 s6 s7 s8 =>
    have hus:us1=us0:=s1.uniq hp.own
    subst hus
    have hFi:∀ k b,fs k b→F i b:=fun k b hb=>(s8 b).2 (.inr ⟨k,hb⟩)
    have h6:Rd P w (fs k) x u:=(s5 k x u hx hu).rd fun b hb=>hb
    refine h6.mono (fun b hb=>hg b (.inl ⟨_,hl,hFi k b hb⟩) fun ht'=>?_) fun b hb=>hkeep b (hlt b (hFi k b hb)).2 (s7 k b hb)
    rcases htop b ht' with h7|⟨h7,_⟩
    ·exact s7 k b hb h7
    ·have:=(hlt b (hFi k b hb)).2
     omega
end
def Rds (B:Nat→Prop) (W:En) (os:List Nat) (st:St) (w:World) (F:Nat→Nat→Prop) (b:Nat):Prop:=Free B W.o (look st.objs) F w b∨∃ i,i ∈ os∧∃ x,look st.objs i=some x∧F i b
def OpP (P:Program) (B:Nat→Prop) (W:En) (o:Oper) (os:List Nat) (st:St) (v:V):Prop :=
 ∀ a w pl F,SimW P B W st a w pl F→∃ u,(∀ w',(∀ b,Rds B W os st w F b→w'.heap[b]?=w.heap[b]?)→(execOp a.eval o).run P w'=.ok (.value u) w')∧C2 P w (look st.objs) pl (Free B W.o (look st.objs) F w) v u
def OpQ (P:Program) (B:Nat→Prop) (W:En) (o:Oper) (os:List Nat) (st:St) (KE:V→List (Nat×Nat×Ob)→Prop):Prop:=∃ v,KE v []∧OpP P B W o os st v
section
variable {P:Program} {B:Nat→Prop} {W:En} {o:Oper} {os:List Nat} {st:St} {KE:V→List (Nat×Nat×Ob)→Prop}
theorem OpQ.k {n:Nat} (_:kindOf o.op=n) (h:OpQ P B W o os st KE):OpQ P B W o os st KE:=h
theorem OpQ.pure_ {v:V} (hK:KE v []) (h:∀ a w pl F,SimW P B W st a w pl F→∃ u,(∀ w',(execOp a.eval o).run P w'=.ok (.value u) w')∧C2 P w (look st.objs) pl (Free B W.o (look st.objs) F w) v u):OpQ P B W o os st KE:=⟨v,hK,fun a w pl F hs=>by
 obtain ⟨u,h1,h2⟩:=h a w pl F hs
 exact ⟨u,fun w' _=>h1 w',h2⟩⟩
theorem OpQ.move {x:Operand} (ho:o.op=.move x∨o.op=.assign x) (hK:KE (st.ev x) []):OpQ P B W o os st KE :=
 OpQ.pure_ hK fun a w pl F hs=>⟨a.eval x,fun _=>by rcases ho with ho|ho<;>(unfold execOp;rw [ho];rfl),hs.ev x⟩
theorem OpQ.mv {x:Operand} {v:V} (ho:o.op=.move x∨o.op=.assign x) (hx:st.ev x=v) (hK:KE v []):OpQ P B W o os st KE:=OpQ.move ho (by rw [hx];exact hK)
theorem OpQ.pick {c x y:Operand} {t:Bool} (ho:o.op=.pick c x y) (hc:st.ev c=.t (.bool t)) (hK:KE (if t then st.ev x else st.ev y) []):OpQ P B W o os st KE :=
 OpQ.pure_ hK fun a w pl F hs=>by
  have h:=hs.ev c
  rw [hc] at h
  cases h':a.eval c<;>rw [h'] at h<;>cases h
  refine ⟨if t then a.eval x else a.eval y,fun _=>by unfold execOp;rw [ho];simp [h',asBool],?_⟩
  cases t
  ·exact hs.ev y
  ·exact hs.ev x
theorem OpQ.pick_t {c x y:Operand} {t:Bool} {v:V} (ho:o.op=.pick c x y) (hc:st.ev c=.t (.bool t)) (ht:t=true) (hx:st.ev x=v) (hK:KE v []):OpQ P B W o os st KE:=OpQ.pick ho hc (by rw [if_pos ht,hx];exact hK)
theorem OpQ.pick_f {c x y:Operand} {t:Bool} {v:V} (ho:o.op=.pick c x y) (hc:st.ev c=.t (.bool t)) (ht:t=false) (hx:st.ev y=v) (hK:KE v []):OpQ P B W o os st KE:=OpQ.pick ho hc (by rw [if_neg (by simp [ht]),hx];exact hK)
theorem OpQ.field_ptr {s:TypeId} {x:Operand} {f fo n i ep k off:Nat} {y:Ty} (ho:o.op=.fieldAddr s x f) (hx:st.ev x=.ptr i ep k off) (hy:Zac P s=some y) (hf:ZhE y f=some (fo,n))
  {e:Nat} {ob:Ob} (hl:look st.objs i=some (e,ob)) (he:e=ep) (hK:KE (.ptr i ep k (off + fo)) []):OpQ P B W o os st KE :=
 OpQ.pure_ hK fun a w pl F hs=>by
  have h1:=hs.ev x
  rw [hx] at h1
  obtain ⟨_,ep',ob',h2,h3,h4⟩:C0 P w (look st.objs) pl (Free B W.o (look st.objs) F w) (.ptr i ep k off) (a.eval x):=h1
  rw [hl] at h2
  cases h2
  obtain ⟨g,bb,hg,hu⟩:=h4 he.symm
  refine ⟨_,fun _=>ZcN ho hy hf hu,rfl,_,_,hl,by omega,fun _=>⟨g,bb,hg,?_⟩⟩
  rw [ZaS]
  simp [Nat.add_assoc]
theorem OpQ.field_rptr {s:TypeId} {x:Operand} {f fo n off:Nat} {cs:List T} {y:Ty} (ho:o.op=.fieldAddr s x f) (hx:st.ev x=.rptr cs off) (hy:Zac P s=some y) (hf:ZhE y f=some (fo,n)) (hK:KE (.rptr cs (off + fo)) []):OpQ P B W o os st KE :=
 OpQ.pure_ hK fun a w pl F hs=>by
  have h1:=hs.ev x
  rw [hx] at h1
  obtain ⟨ad,h2,h3⟩:C0 P w (look st.objs) pl (Free B W.o (look st.objs) F w) (.rptr cs off) (a.eval x):=h1
  refine ⟨_,fun _=>ZcN ho hy hf h2,_,rfl,fun j z hz=>?_⟩
  obtain ⟨h4,u,h5,h6⟩:=h3 (fo + j) z (by rw [← Nat.add_assoc];exact hz)
  exact ⟨by rw [Za0];exact h4,u,by rw [Zc7];exact h5,h6⟩
theorem OpQ.index_lst {t:TypeId} {x ix:Operand} {fl:Bool} {els:List (List T)} {n:Int} {k:IntKind} {e es eb e':Nat} {y:Ty} (ho:o.op=.indexAddr t x ix) (hx:st.ev x=.t (.lst fl e' els)) (hi:st.ev ix=.t (.int k n)) (hy:Zac P t=some y) (hk:y.k=.slice e es eb) (hes:es ≠ 0) (he:e'=e)
  (hn:0≤n∧n < els.length) (hK:KE (.rptr (els.getD n.toNat []) 0) []):OpQ P B W o os st KE :=
 OpQ.pure_ hK fun a w pl F hs=>by
  subst he
  obtain ⟨A,c,us,h1,h2,h3,h4,h5,h6,h7,h8⟩:=hs.lst_at hx
  have hes':P.cellsOf e'=es:=(ZaM hy hk).2.1
  have hnn:n.toNat < els.length:=by omega
  have hne:us ≠ []:=fun e=>by
   have:=ZaE h4
   rw [h6,e,hes',List.length_nil] at this
   have:=Nat.mul_pos (show 0 < els.length by omega) (Nat.pos_of_ne_zero hes)
   omega
  obtain ⟨ad,rfl,hb,hc⟩:=h7 hne
  refine ⟨_,fun _=>ZbR ho hy hk hes h1 (hs.int_at hi).1 hn,_,rfl,fun j z hz=>?_⟩
  have hjl:j < es:=by
   have h9:=(List.getElem?_eq_some_iff.1 hz).1
   rw [Nat.zero_add,h4 _ (ZbT hnn),hes'] at h9
   exact h9
  have hx':=(Zb0 (s:=es) (fun x hx=>(h4 x hx).trans hes') hnn hjl).trans (by simpa using hz)
  have hlt:n.toNat * es + j < us.length:=by rw [← h6];exact (List.getElem?_eq_some_iff.1 hx').1
  exact ⟨by rw [Za0];exact hb,_,by rw [Zc7];exact hc _ _ (List.getElem?_eq_getElem hlt),h8 _ _ _ hx' (List.getElem?_eq_getElem hlt)⟩
theorem OpQ.index_hnd {t:TypeId} {x ix:Operand} {i ep:Nat} {fl d:Bool} {els:List (List T)} {n:Int} {k:IntKind} {e es eb e':Nat} {y:Ty} (ho:o.op=.indexAddr t x ix) (hx:st.ev x=.hnd i ep) (hl:look st.objs i=some (ep,.row fl d e' els)) (hi:st.ev ix=.t (.int k n)) (hy:Zac P t=some y) (hk:y.k=.slice e es eb) (hes:es ≠ 0) (he:e'=e)
  (hn:0≤n∧n < els.length) (hK:KE (.ptr i ep n.toNat 0) []):OpQ P B W o os st KE :=
 OpQ.pure_ hK fun a w pl F hs=>by
  subst he
  obtain ⟨h1,us,hp⟩:=hs.hnd_at hx hl
  have hes':P.cellsOf e'=es:=(ZaM hy hk).2.1
  have hnn:n.toNat < els.length:=by omega
  have h0:0 < (els.getD n.toNat []).length:=by rw [hp.uni _ (ZbT hnn)];omega
  obtain ⟨g,bb,c,u,h2,h3,_⟩:=hp.cell (j:=0) hnn (List.getElem?_eq_getElem h0)
  refine ⟨_,fun _=>ZbR ho hy hk hes (h1.trans h2) (hs.int_at hi).1 hn,rfl,_,_,hl,Nat.le_refl _,fun _=>⟨g,bb,by rw [h2];rfl,?_⟩⟩
  rw [ZaS]
  simp [esz,hes']
theorem OpQ.index_at {t:TypeId} {x ix:Operand} {fl:Bool} {els:List (List T)} {n:Int} {k:IntKind} {e es eb e' m:Nat} {y:Ty} {cs:List T} (ho:o.op=.indexAddr t x ix) (hx:st.ev x=.t (.lst fl e' els)) (hi:st.ev ix=.t (.int k n)) (hy:Zac P t=some y) (hk:y.k=.slice e es eb) (hes:es ≠ 0) (he:e'=e)
  (hm:n=(m:Int)) (hc:els[m]?=some cs) (hK:KE (.rptr cs 0) []):OpQ P B W o os st KE:=by
 have hlt:m < els.length:=(List.getElem?_eq_some_iff.1 hc).1
 refine OpQ.index_lst ho hx hi hy hk hes he (by omega) ?_
 have:els.getD n.toNat []=cs:=by rw [hm,Int.toNat_natCast,List.getD_eq_getElem?_getD,hc];rfl
 rw [this]
 exact hK
theorem OpQ.index_row {t:TypeId} {x ix:Operand} {i ep:Nat} {fl d:Bool} {els:List (List T)} {n:Int} {k:IntKind} {e es eb e' m:Nat} {y:Ty} (ho:o.op=.indexAddr t x ix) (hx:st.ev x=.hnd i ep) (hl:look st.objs i=some (ep,.row fl d e' els)) (hi:st.ev ix=.t (.int k n)) (hy:Zac P t=some y) (hk:y.k=.slice e es eb) (hes:es ≠ 0) (he:e'=e)
  (hm:n=(m:Int)) (hlt:m < els.length) (hK:KE (.ptr i ep m 0) []):OpQ P B W o os st KE:=by
 refine OpQ.index_hnd ho hx hl hi hy hk hes he (by omega) ?_
 rw [hm,Int.toNat_natCast]
 exact hK
theorem OpQ.len_lst {x:Operand} {t:TypeId} {c:Call} {fl:Bool} {e':Nat} {els:List (List T)} {e es eb:Nat} {y:Ty} (ho:o.op=.call c) (h1:c.callee=.builtin .len) (h2:c.args=#[x]) (h3:c.argTypes=#[t]) (hy:Zac P t=some y) (hk:y.k=.slice e es eb) (hx:st.ev x=.t (.lst fl e' els)) {m:Nat} (hm:els.length=m) (hK:KE (.t (.int .i64 m)) []):OpQ P B W o os st KE :=
 OpQ.pure_ hK fun a w pl F hs=>by
  subst hm
  obtain ⟨A,c,us,g1,g2,g3,_⟩:=hs.lst_at hx
  exact ⟨_,fun _=>Zdz ho h1 h2 h3 hy hk g1,Rd.int (ZeU (Nat.le_trans g2 g3))⟩
theorem OpQ.len_hnd {x:Operand} {t:TypeId} {c:Call} {i ep:Nat} {fl d:Bool} {e':Nat} {els:List (List T)} {e es eb:Nat} {y:Ty} (ho:o.op=.call c) (h1:c.callee=.builtin .len) (h2:c.args=#[x]) (h3:c.argTypes=#[t]) (hy:Zac P t=some y) (hk:y.k=.slice e es eb) (hx:st.ev x=.hnd i ep) (hl:look st.objs i=some (ep,.row fl d e' els)) {m:Nat} (hm:els.length=m) (hK:KE (.t (.int .i64 m)) []):OpQ P B W o os st KE :=
 OpQ.pure_ hK fun a w pl F hs=>by
  subst hm
  obtain ⟨g1,us,hp⟩:=hs.hnd_at hx hl
  obtain ⟨A,c,g2,g3,g4,_⟩:=hp.slice
  exact ⟨_,fun _=>Zdz ho h1 h2 h3 hy hk (g1.trans g2),Rd.int (ZeU (Nat.le_trans g3 g4))⟩
theorem OpQ.index_str {t:TypeId} {x ix:Operand} {s:List UInt8} {n:Int} {k:IntKind} {y:Ty} (ho:o.op=.index t x ix) (hx:st.ev x=.t (.str s)) (hi:st.ev ix=.t (.int k n)) (hy:Zac P t=some y) (hk:y.k=.str) (hn:0≤n∧n < s.length) (hK:KE (.t (.int .u8 ((s.getD n.toNat 0).toNat:Nat))) []):OpQ P B W o os st KE :=
 OpQ.pure_ hK fun a w pl F hs=>by
  obtain ⟨d,i,g1,_,g2,_⟩:=Zaw hy
  have g3:d=.string:=by rw [hk] at g2;cases d<;>simp [kdOf] at g2 ⊢
  subst g3
  obtain ⟨g4,g5⟩:=hs.str_at hx
  obtain ⟨g6,_⟩:=hs.int_at hi
  have hlt:n.toNat < s.length:=by omega
  refine ⟨.int .u8 ((s.getD n.toNat 0).toNat:Nat),fun _=>?_,Rd.int ?_⟩
  ·unfold execOp
   rw [ho]
   refine Zap ?_
   rw [g4,g6]
   have hq:(bs s)[n.toNat]?=some (s.getD n.toNat 0):=by
    rw [getElem?_pos (bs s) n.toNat (by rw [Zb5];exact hlt)]
    simp [bs,ByteArray.getElem_eq_getElem_data,List.getD_eq_getElem?_getD,hlt]
   simp [Instr.index,asIntOf,run_underlying g1,hn.1,hq]
  ·exact wf_u8 _
theorem OpQ.extract {x:Operand} {i:Nat} {vs:List V} {v:V} (ho:o.op=.extract x i) (hx:st.ev x=.tup vs) (hv:vs[i]?=some v) (hK:KE v []):OpQ P B W o os st KE :=
 OpQ.pure_ hK fun a w pl F hs=>by
  have h1:=hs.ev x
  rw [hx] at h1
  obtain ⟨us,h2,h3,h4⟩:=h1
  have hlt:i < us.length:=by rw [h3];exact (List.getElem?_eq_some_iff.1 hv).1
  refine ⟨us[i],fun _=>?_,(h4 i v _ hv (List.getElem?_eq_getElem hlt)).c2⟩
  unfold execOp
  rw [ho]
  simp [Instr.extract,h2,hlt]
theorem OpQ.not_ {x:Operand} {t:TypeId} {b:Bool} (ho:o.op=.unOp .not t x) (hx:st.ev x=.t (.bool b)) (hK:KE (.t (.bool (!b))) []):OpQ P B W o os st KE :=
 OpQ.pure_ hK fun a w pl F hs=>⟨.bool (!b),fun _=>by unfold execOp;rw [ho];simp [hs.bool_at hx,Op.unary],Rd.bool⟩
theorem OpQ.cmp {op:BinOp} {t t':TypeId} {x y:Operand} {k:IntKind} {m n:Int} {b:Bool} (ho:o.op=.binOp op t x y t') (hx:st.ev x=.t (.int k m)) (hy:st.ev y=.t (.int k n)) (hb:cmpV op m n=some b) (hK:KE (.t (.bool b)) []):OpQ P B W o os st KE :=
 OpQ.pure_ hK fun a w pl F hs=>by
  refine ⟨.bool b,fun _=>?_,Rd.bool⟩
  unfold execOp
  rw [ho]
  refine Zap ?_
  rw [(hs.int_at hx).1,(hs.int_at hy).1]
  cases op<;>simp only [cmpV,Option.some.injEq,reduceCtorEq] at hb<;>subst hb<;>simp [eqGuard,binOp,Op.intCmp]<;>rfl
theorem OpQ.arith {op:BinOp} {t t':TypeId} {x y:Operand} {k:IntKind} {m n r:Int} (ho:o.op=.binOp op t x y t') (hx:st.ev x=.t (.int k m)) (hy:st.ev y=.t (.int k n)) (hb:arV op k m n=some r) (hK:KE (.t (.int k r)) []):OpQ P B W o os st KE :=
 OpQ.pure_ hK fun a w pl F hs=>by
  refine ⟨.int k r,fun _=>?_,?_⟩
  ·unfold execOp
   rw [ho]
   refine Zap ?_
   rw [(hs.int_at hx).1,(hs.int_at hy).1]
   cases op<;>simp only [arV,Option.some.injEq,reduceCtorEq] at hb<;>subst hb<;>simp [eqGuard,binOp,Op.intArith,Op.intBits]
  ·refine Rd.int ?_
   cases op<;>simp only [arV,Option.some.injEq,reduceCtorEq] at hb<;>subst hb<;>exact wf_wrap _ _
theorem OpQ.arith_i {op:BinOp} {t t':TypeId} {x y:Operand} {m n r:Int} (ho:o.op=.binOp op t x y t') (hx:st.ev x=.t (.int .i64 m)) (hy:st.ev y=.t (.int .i64 n)) (hb:arI op m n=some r) (hr:-9223372036854775808≤r∧r≤9223372036854775807) (hK:KE (.t (.int .i64 r)) []):OpQ P B W o os st KE:=by
 refine OpQ.arith (r:=r) ho hx hy ?_ hK
 cases op<;>simp only [arI,Option.some.injEq,reduceCtorEq] at hb<;>subst hb<;>simp only [arV]<;>rw [wrap_i64 hr]
theorem OpQ.quo_i {t t':TypeId} {x y:Operand} {m n:Int} (ho:o.op=.binOp .quo t x y t') (hx:st.ev x=.t (.int .i64 m)) (hy:st.ev y=.t (.int .i64 n)) (hn:0 < n) (hm:0≤m) (hK:KE (.t (.int .i64 (m / n))) []):OpQ P B W o os st KE:=by
 refine OpQ.pure_ hK fun a w pl F hs=>?_
 have h1:m.tdiv n=m / n:=Int.tdiv_eq_ediv_of_nonneg hm
 obtain ⟨h2,h3⟩:=hs.int_at hx
 have hb:=bounds_i64 h3
 have h4:m / n≤m:=Int.ediv_le_self _ hm
 have h5:0≤m / n:=Int.ediv_nonneg hm (by omega)
 refine ⟨.int .i64 (m / n),fun _=>?_,Rd.int (WalkArith.wf_i64 (by omega))⟩
 unfold execOp
 rw [ho]
 refine Zap ?_
 rw [h2,(hs.int_at hy).1]
 have hn0:n ≠ 0:=by omega
 simp [eqGuard,binOp,Op.intDiv,hn0,h1,wrap_i64 (show -9223372036854775808≤m / n∧m / n≤9223372036854775807 by omega)]
theorem OpQ.rem {t t':TypeId} {x y:Operand} {k:IntKind} {m n:Int} (ho:o.op=.binOp .rem t x y t') (hx:st.ev x=.t (.int k m)) (hy:st.ev y=.t (.int k n)) (hn:n ≠ 0) (hK:KE (.t (.int k (m.tmod n))) []):OpQ P B W o os st KE :=
 OpQ.pure_ hK fun a w pl F hs=>by
  refine ⟨_,fun _=>?_,Rd.int (Zpr (hs.int_at hx).2)⟩
  unfold execOp
  rw [ho]
  refine Zap ?_
  rw [(hs.int_at hx).1,(hs.int_at hy).1]
  simp [eqGuard,binOp,Op.intDiv,hn]
theorem OpQ.cmp_bool {op:BinOp} {t t':TypeId} {x y:Operand} {m n b:Bool} {z:Ty} (ho:o.op=.binOp op t x y t') (hz:Zac P t=some z) (hk:z.k=.bool) (hx:st.ev x=.t (.bool m)) (hy:st.ev y=.t (.bool n)) (hb:(match op with | .eql=>some (m == n) | .neq=>some (!(m == n))|_=>none)=some b) (hK:KE (.t (.bool b)) []):OpQ P B W o os st KE :=
 OpQ.pure_ hK fun a w pl F hs=>by
  obtain ⟨d,i,g1,_,g2,_⟩:=Zaw hz
  have g3:d=.bool:=by rw [hk] at g2;cases d<;>simp [kdOf] at g2 ⊢
  subst g3
  refine ⟨.bool b,fun _=>?_,Rd.bool⟩
  unfold execOp
  rw [ho]
  refine Zap ?_
  rw [hs.bool_at hx,hs.bool_at hy]
  cases op<;>simp only [Option.some.injEq,reduceCtorEq] at hb<;>subst hb<;>simp [eqGuard,run_eql_bool _ t m n g1,run_neq_bool _ t m n g1]
theorem OpQ.cmp_str {op:BinOp} {t t':TypeId} {x y:Operand} {m n:List UInt8} {b:Bool} (ho:o.op=.binOp op t x y t') (hx:st.ev x=.t (.str m)) (hy:st.ev y=.t (.str n)) (hb:cmpS op m n=some b) (hK:KE (.t (.bool b)) []):OpQ P B W o os st KE :=
 OpQ.pure_ hK fun a w pl F hs=>by
  refine ⟨.bool b,fun _=>?_,Rd.bool⟩
  unfold execOp
  rw [ho]
  refine Zap ?_
  rw [(hs.str_at hx).1,(hs.str_at hy).1]
  have hbe:∀ (p q:List UInt8),(p == q)=decide (p=q):=fun p q=>by by_cases h:p=q<;>simp [h]
  cases op<;>simp only [cmpS,Option.some.injEq,reduceCtorEq] at hb<;>subst hb<;>simp [eqGuard,binOp,Op.stringOp,Zkf,hbe]<;>rfl
theorem q684f {x:Operand} {i ep n off:Nat} {ob:Ob} (hK:KE (.ptr i ep n off) []) (ho:o.op=.nilCheck x:=by exact rfl) (hx:st.ev x=.ptr i ep n off:=by exact rfl) (hl:look st.objs i=some (ep,ob):=by exact rfl):OpQ P B W o os st KE:=
 OpQ.pure_ hK fun a w pl F hs=>by
  have h1:=hs.ev x
  rw [hx] at h1
  have h1':=h1
  obtain ⟨_,ep',ob,h2,h3,h4⟩:C0 P w (look st.objs) pl (Free B W.o (look st.objs) F w) (.ptr i ep n off) (a.eval x):=h1
  rw [hl] at h2
  cases h2
  obtain ⟨g,bb,hg,hu⟩:=h4 rfl
  refine ⟨a.eval x,fun _=>?_,h1'⟩
  unfold execOp
  rw [ho]
  simp [hu]
end
def QN (P:Program) (B:Nat→Prop) (W:En) (K:St→Prop):Exit→Act→World→Prop
 | .normal,a,w=>∃ st',Sim P B W st' a w∧K st'
 | _,_,_=>False
def Zor:List Nat→List (Nat×Nat×Ob)→Bool
 | [],_=>true
 | o :: r,upd=>match (upd.map (·.1)).contains o with|true=>false|false=>Zor r upd
def offB (os:List Nat) (upd:List (Nat×Nat×Ob)) (p:Prop):Prop:=match Zor os upd with|true=>p|false=>False
theorem Zmu:∀ {os:List Nat} {upd:List (Nat×Nat×Ob)},Zor os upd=true→∀ i ∈ os,∀ e ob,(i,e,ob) ∉ upd
 | [],_,_,i,hi=>by cases hi
 | o :: r,upd,h,i,hi=>by
  unfold Zor at h
  cases hc:(upd.map (·.1)).contains o with
  | true=>rw [hc] at h;cases h
  | false =>
   rw [hc] at h
   rcases List.mem_cons.1 hi with rfl|hi
   ·intro e ob hm
    have:(upd.map (·.1)).contains i=true:=List.contains_iff_mem.2 (List.mem_map.2 ⟨_,hm,rfl⟩)
    rw [this] at hc
    cases hc
   ·exact Zmu h i hi
theorem ZoP {os:List Nat} {upd:List (Nat×Nat×Ob)} {p:Prop} (h:offB os upd p):(∀ i ∈ os,∀ e ob,(i,e,ob) ∉ upd)∧p:=by
 unfold offB at h
 cases hc:Zor os upd with
 | true=>rw [hc] at h;exact ⟨Zmu hc,h⟩
 | false=>rw [hc] at h;exact h.elim
def SX (X:Nat→Prop) (w0 w:World):Prop:=∀ b,X b→w.heap[b]?=w0.heap[b]?
def XOk (B:Nat→Prop) (W:En) (os:List Nat) (st:St) (X:Nat→Prop) (w0 w:World) (F:Nat→Nat→Prop):Prop:=∀ b,X b→Rds B W os st w F b∧w.heap[b]?=w0.heap[b]?
theorem XOk.sx {B:Nat→Prop} {W:En} {os:List Nat} {st:St} {X:Nat→Prop} {w0 w:World} {F:Nat→Nat→Prop} (h:XOk B W os st X w0 w F):SX X w0 w:=fun b hb=>(h b hb).2
def aA (P:Program) (B:Nat→Prop) (W:En) (ops:Array Oper) (os:List Nat) (n:Nat) (ls:Array Bool) (K:St→Prop) (st:St):Prop :=
 ∀ w0 X a w pl F,SimW P B W st a w pl F→XOk B W os st X w0 w F→wpAnyH P .any ops (QN P B W K) (SX X w0) n ls a w
def aO (P:Program) (B:Nat→Prop) (W:En) (ops:Array Oper) (os:List Nat) (n:Nat) (ls:Array Bool) (K:St→Prop) (st:St) (i:Nat):Prop :=
 ∀ w0 X a w pl F,SimW P B W st a w pl F→XOk B W os st X w0 w F→wpOp P ops (QN P B W K) i (fun a' w'=>SX X w0 w'∧wpAnyH P .any ops (QN P B W K) (SX X w0) n (ls.setIfInBounds i true) a' w') a w
def aOs (P:Program) (B:Nat→Prop) (W:En) (ops:Array Oper) (os:List Nat) (n:Nat) (ls:Array Bool) (K:St→Prop) (st:St):List Nat→Prop
 | []=>True
 | i :: r=>aO P B W ops os n ls K st i∧aOs P B W ops os n ls K st r
section
variable {P:Program} {B:Nat→Prop} {W:En} {ops:Array Oper} {K:St→Prop} {st:St} {o:Oper} {os:List Nat} {n i:Nat} {ls:Array Bool}
theorem aOs_at:∀ {rs:List Nat},aOs P B W ops os n ls K st rs→∀ i ∈ rs,aO P B W ops os n ls K st i
 | [],_,i,h=>by cases h
 | j :: r,h,i,hi=>by
  rcases List.mem_cons.1 hi with rfl|hi
  ·exact h.1
  ·exact aOs_at h.2 i hi
theorem Zpp (st:St) (upd:List (Nat×Nat×Ob)) (d:Option Nat) (v:V) {i:Nat} (hi:∀ e ob,(i,e,ob) ∉ upd):look ((st.upds upd).put d v).objs i=look st.objs i:=by
 rw [Ze4]
 exact Zcu upd st.objs i hi
theorem XOk.keeps {X:Nat→Prop} {w0 w w':World} {F F':Nat→Nat→Prop} {upd:List (Nat×Nat×Ob)} {d:Option Nat} {v:V} (h:XOk B W os st X w0 w F) (hk:Keeps B W st.objs ((st.upds upd).put d v).objs upd w w' F F') (hd:∀ i ∈ os,∀ e ob,(i,e,ob) ∉ upd):XOk B W os ((st.upds upd).put d v) X w0 w' F':=fun b hb=>by
 obtain ⟨h1,h2⟩:=h b hb
 rcases h1 with h1|⟨i,hi,x,hx,hf⟩
 ·exact ⟨.inl (hk.free b h1),(hk.heap b h1).trans h2⟩
 ·have h3:=hk.own i x b hx (hd i hi) hf
  exact ⟨.inr ⟨i,hi,x,by rw [Zpp st upd d v (hd i hi)];exact hx,h3.1⟩,h3.2.trans h2⟩
theorem XOk.put {X:Nat→Prop} {w0 w:World} {F:Nat→Nat→Prop} {d:Option Nat} {v:V} (h:XOk B W os st X w0 w F):XOk B W os (st.put d v) X w0 w F:=fun b hb=>by
 obtain ⟨h1,h2⟩:=h b hb
 refine ⟨?_,h2⟩
 unfold Rds at h1 ⊢
 rw [Ze4]
 exact h1
theorem SimW.undefW {a:Act} {w:World} {pl:Nat→Value} {F:Nat→Nat→Prop} (hs:SimW P B W st a w pl F) (d:Option Tmp):SimW P B W (st.put d (.lit undef)) (a.put d undef) w pl F:=hs.put (v:=.lit undef) rfl d
theorem Zh6 {S S':World→Prop} {Q:Exit→Act→World→Prop} (hS:∀ w,S' w→S w):∀ {n:Nat} {ls:Array Bool} {a:Act} {w:World},wpAnyH P .any ops Q S' n ls a w→wpAnyH P .any ops Q S n ls a w
 | 0,_,_,_,h=>h
 | n + 1,ls,a,w,h=>⟨h.1,fun i hi=>wpOp_mono (fun a w h=>⟨hS w h.1,Zh6 hS h.2⟩) (h.2 i hi)⟩
theorem aA.done {st':St} (hr:Region.ready .any ops ls=[]) (h0:st=st') (h:K st'):aA P B W ops os n ls K st:=fun w0 X a w pl F hs hX=>wpAnyH_done hr ⟨st,⟨pl,F,hs⟩,h0▸h⟩ n
theorem aA.all {rs:List Nat} {j:Nat} {r:List Nat} (hr:Region.ready .any ops ls=rs) (he:rs=j :: r) (h:aOs P B W ops os n ls K st rs):aA P B W ops os (n + 1) ls K st:=fun w0 X a w pl F hs hX =>
 wpAnyH_all hr (by rw [he];simp) fun i hi=>aOs_at h i hi w0 X a w pl F hs hX
theorem aO.op {d:Option Tmp} (hi:ops[i]?=some o) (hg:o.guard=none) (hd:o.dst=d) (h:OpS P B W o st fun v upd=>offB os upd (aA P B W ops os n (ls.setIfInBounds i true) K ((st.upds upd).put d v))):aO P B W ops os n ls K st i:=fun w0 X a w pl F hs hX=>by
 subst hd
 unfold wpOp
 rw [hi]
 simp only []
 rw [if_pos (by simp [Region.wanted,hg])]
 refine .inl (h a w pl F hs _ _ fun v upd a' w' pl' F' hs' hkp hk=>?_)
 obtain ⟨h1,h2⟩:=ZoP hk
 have hX':=hX.keeps hkp h1
 exact ⟨hX'.sx,h2 w0 X a' w' pl' F' hs' hX'⟩
theorem pU14 {X:Prop} (r:X:=by first|exact e1b4 rfl|exact e334 rfl):X:=r
theorem qab5a {j d:Nat} {want b:Bool} {dd:Option Tmp} (h:OpS P B W o st fun v upd=>offB os upd (aA P B W ops os n (ls.setIfInBounds i true) K ((st.upds upd).put dd v))) (hi:ops[i]?=some o:=by exact rfl) (hg:o.guard=some (j,want):=by exact rfl) (hdd:o.dst=dd:=by exact pU14) (hd:(ops[j]?).bind (·.dst)=some d:=by exact rfl) (hv:st.ev (.tmp d)=.t (.bool b):=by exact rfl) (hb:b=want:=by exact pU0):aO P B W ops os n ls K st i:=fun w0 X a w pl F hs hX=>by
 subst hdd
 have hy:=Zgn ⟨pl,F,hs⟩ hd hv
 unfold wpOp
 rw [hi]
 simp only []
 rw [if_pos (by simp [Region.wanted,hg,hy,hb])]
 refine .inl (h a w pl F hs _ _ fun v upd a' w' pl' F' hs' hkp hk=>?_)
 obtain ⟨h1,h2⟩:=ZoP hk
 have hX':=hX.keeps hkp h1
 exact ⟨hX'.sx,h2 w0 X a' w' pl' F' hs' hX'⟩
theorem q2f38 {j d:Nat} {want b:Bool} {dd:Option Tmp} (h:aA P B W ops os n (ls.setIfInBounds i true) K (st.put dd (.lit undef))) (hi:ops[i]?=some o:=by exact rfl) (hg:o.guard=some (j,want):=by exact rfl) (hdd:o.dst=dd:=by exact pU14) (hd:(ops[j]?).bind (·.dst)=some d:=by exact rfl) (hv:st.ev (.tmp d)=.t (.bool b):=by exact rfl) (hb:b=!want:=by exact pU0):aO P B W ops os n ls K st i:=fun w0 X a w pl F hs hX=>by
 subst hdd
 have hy:=Zgn ⟨pl,F,hs⟩ hd hv
 unfold wpOp
 rw [hi]
 simp only []
 rw [if_neg (by subst hb;cases want<;>simp [Region.wanted,hg,hy])]
 exact ⟨hX.sx,h w0 X _ _ pl F (hs.undefW _) hX.put⟩
theorem aA.take_ {d:Option Tmp} (hi:ops[i]?=some o) (hs:Region.noSelect ops=true) (hf:Region.free .any ops ls i=true) (hr:(Region.ready .any ops ls).contains i=true) (hw:∀ a w,Sim P B W st a w→Region.wanted o (yielded ops a.tmps)=true) (hd:o.dst=d)
  (h:OpQ P B W o os st fun v upd=>aA P B W ops os n (ls.setIfInBounds i true) K ((st.upds upd).put d v)):aA P B W ops os (n + 1) ls K st:=fun w0 X a w pl F hsim hX=>by
 subst hd
 obtain ⟨v,hk,hp⟩:=h
 obtain ⟨u,hu,hc⟩:=hp a w pl F hsim
 refine Zh6 (S':=SX (Rds B W os st w F) w) (fun w' h' b hb=>(h' b (hX b hb).1).trans (hX b hb).2) ?_
 refine wpAnyH_take (v:=u) hi hs hf hr (fun c a w hq=>hq) (.inl ⟨hw a w ⟨pl,F,hsim⟩,fun w' hw'=>hu w' hw'⟩) (fun b _=>rfl) ?_
 exact hk w _ _ _ pl F (hsim.put hc _) (XOk.put fun b hb=>⟨hb,rfl⟩)
theorem aA.take {d:Option Tmp} (hi:ops[i]?=some o) (hs:Region.noSelect ops=true) (hf:Region.free .any ops ls i=true) (hr:(Region.ready .any ops ls).contains i=true) (hg:o.guard=none) (hd:o.dst=d)
  (h:OpQ P B W o os st fun v upd=>aA P B W ops os n (ls.setIfInBounds i true) K ((st.upds upd).put d v)):aA P B W ops os (n + 1) ls K st :=
 aA.take_ hi hs hf hr (fun a w _=>by simp [Region.wanted,hg]) hd h
theorem aA.t_yes {j d:Nat} {want b:Bool} {dd:Option Tmp} (hi:ops[i]?=some o) (hs:Region.noSelect ops=true) (hf:Region.free .any ops ls i=true) (hr:(Region.ready .any ops ls).contains i=true) (hg:o.guard=some (j,want)) (hdd:o.dst=dd) (hd:(ops[j]?).bind (·.dst)=some d) (hv:st.ev (.tmp d)=.t (.bool b)) (hb:b=want)
  (h:OpQ P B W o os st fun v upd=>aA P B W ops os n (ls.setIfInBounds i true) K ((st.upds upd).put dd v)):aA P B W ops os (n + 1) ls K st :=
 aA.take_ hi hs hf hr (fun a w hsim=>by have hy:=Zgn hsim hd hv;simp [Region.wanted,hg,hy,hb]) hdd h
theorem aA.t_n {dd:Option Tmp} (hi:ops[i]?=some o) (hs:Region.noSelect ops=true) (hf:Region.free .any ops ls i=true) (hr:(Region.ready .any ops ls).contains i=true) (hw:∀ a w,Sim P B W st a w→Region.wanted o (yielded ops a.tmps)=false) (hdd:o.dst=dd)
  (h:aA P B W ops os n (ls.setIfInBounds i true) K (st.put dd (.lit undef))):aA P B W ops os (n + 1) ls K st:=fun w0 X a w pl F hsim hX=>by
 subst hdd
 exact wpAnyH_take (v:=undef) hi hs hf hr (fun c a w hq=>hq) (.inr ⟨hw a w ⟨pl,F,hsim⟩,rfl⟩) hX.sx (h w0 X _ _ pl F (hsim.undefW _) hX.put)
theorem aA.t_no {j d:Nat} {want b:Bool} {dd:Option Tmp} (hi:ops[i]?=some o) (hs:Region.noSelect ops=true) (hf:Region.free .any ops ls i=true) (hr:(Region.ready .any ops ls).contains i=true) (hg:o.guard=some (j,want)) (hdd:o.dst=dd) (hd:(ops[j]?).bind (·.dst)=some d) (hv:st.ev (.tmp d)=.t (.bool b)) (hb:b=!want)
  (h:aA P B W ops os n (ls.setIfInBounds i true) K (st.put dd (.lit undef))):aA P B W ops os (n + 1) ls K st :=
 aA.t_n hi hs hf hr (fun a w hsim=>by have hy:=Zgn hsim hd hv;subst hb;cases want<;>simp [Region.wanted,hg,hy]) hdd h
theorem aA.t_not {j d:Nat} {want:Bool} {dd:Option Tmp} (hi:ops[i]?=some o) (hs:Region.noSelect ops=true) (hf:Region.free .any ops ls i=true) (hr:(Region.ready .any ops ls).contains i=true) (hg:o.guard=some (j,want)) (hdd:o.dst=dd) (hd:(ops[j]?).bind (·.dst)=some d) (hv:st.ev (.tmp d)=.lit undef)
  (h:aA P B W ops os n (ls.setIfInBounds i true) K (st.put dd (.lit undef))):aA P B W ops os (n + 1) ls K st :=
 aA.t_n hi hs hf hr (fun a w hsim=>by have hy:=Zia hsim hd hv;simp [Region.wanted,hg,hy]) hdd h
theorem aA.t_d {j d:Nat} {want:Bool} {p:Prop} [Decidable p] {dd:Option Tmp} (hi:ops[i]?=some o) (hg:o.guard=some (j,want)) (hdd:o.dst=dd) (hd:(ops[j]?).bind (·.dst)=some d) (hv:st.ev (.tmp d)=.t (.bool (decide p)))
  (h1:p→aA P B W ops os n ls K st) (h2:¬ p→aA P B W ops os n ls K st):aA P B W ops os n ls K st:=by
 by_cases hp:p
 ·exact h1 hp
 ·exact h2 hp
theorem aA.t_2 {j d:Nat} {want b:Bool} {dd:Option Tmp} (hi:ops[i]?=some o) (hg:o.guard=some (j,want)) (hdd:o.dst=dd) (hd:(ops[j]?).bind (·.dst)=some d) (hv:st.ev (.tmp d)=.t (.bool b))
  (h1:b=true→aA P B W ops os n ls K st) (h2:b=false→aA P B W ops os n ls K st):aA P B W ops os n ls K st:=by
 cases b
 ·exact h2 rfl
 ·exact h1 rfl
end
def leU (r:List (Nat×V)):List (Nat×V)→List Nat→Prop
 | [],_=>True
 | (i,v) :: r',seen=>(match seen.elem i with|true=>True|false=>Zcm r i=v)∧leU r r' (i :: seen)
theorem leU_at {r:List (Nat×V)}:∀ {r':List (Nat×V)} {seen:List Nat},leU r r' seen→∀ i,i ∉ seen→Zcm r' i=.junk∨∃ v,(i,v) ∈ r'∧Zcm r' i=v∧Zcm r i=v
 | [],_,_,i,_=>.inl rfl
 | (j,v) :: r',seen,h,i,hi=>by
  rw [ZcH]
  by_cases hj:j=i
  ·subst hj
   rw [if_pos rfl]
   have h1:=h.1
   have h2:seen.elem j=false:=by simpa using hi
   rw [h2] at h1
   exact .inr ⟨v,by simp,rfl,h1⟩
  ·rw [if_neg hj]
   rcases leU_at h.2 i (by simp only [List.mem_cons,not_or];exact ⟨fun e=>hj e.symm,hi⟩) with h1|⟨v',h1,h2⟩
   ·exact .inl h1
   ·exact .inr ⟨v',by simp [h1],h2⟩
def leOU (objs:List (Nat×Nat×Ob)):List (Nat×Nat×Ob)→List Nat→Prop
 | [],_=>True
 | (o,e,b) :: r,seen=>(match seen.elem o with|true=>True|false=>look objs o=some (e,b))∧leOU objs r (o :: seen)
theorem ZoI {objs:List (Nat×Nat×Ob)}:∀ {l:List (Nat×Nat×Ob)} {seen:List Nat},leOU objs l seen→∀ o x,o ∉ seen→look l o=some x→look objs o=some x
 | [],_,_,o,x,_,h=>by cases h
 | (i,e,b) :: r,seen,hl,o,x,ho,h=>by
  rw [ZaB] at h
  split at h
  ·rename_i hi
   subst hi
   have h1:=hl.1
   have h2:seen.elem i=false:=by simpa using ho
   rw [h2] at h1
   rw [← h];exact h1
  ·rename_i hi
   exact ZoI hl.2 o x (by simp only [List.mem_cons,not_or];exact ⟨fun e=>hi e.symm,ho⟩) h
theorem ZiF {st':St} (hc:Zfu st'=true) (o:Nat) (h:o ∈ st'.tmps.flatMap (fun p=>ids2 p.2)∨∃ i e ob,look st'.objs i=some (e,ob)∧o ∈ ZgB ob):∃ x,look st'.objs o=some x:=by
 have hm:o ∈ Zoz st':=by
  rcases h with h|⟨i,e,ob,h1,h2⟩
  ·exact List.mem_append_left _ h
  ·exact List.mem_append_right _ (List.mem_flatMap.2 ⟨_,Zbw h1,h2⟩)
 exact Zct (List.all_eq_true.1 hc o hm)
theorem Le.ofU {st st':St} (hn:st'.n=st.n) (ht:leU st.tmps st'.tmps []) (ho:leOU st.objs st'.objs []) (hc:Zfu st'=true):Le st st' :=
 ⟨hn,fun i=>leU_at ht i (by simp),fun o x h=>ZoI ho o x (by simp) h,ZiF hc⟩
theorem ZkH:∀ (r:List (Nat×V)) (i:Nat),Zcm r i=.junk∨(i,Zcm r i) ∈ r
 | [],i=>.inl rfl
 | (j,v) :: r,i=>by
  rw [ZcH]
  by_cases hj:j=i
  ·subst hj;rw [if_pos rfl];exact .inr (by simp)
  ·rw [if_neg hj]
   rcases ZkH r i with h|h
   ·exact .inl h
   ·exact .inr (by simp [h])
theorem ZaJ {st st':St} (h0:st=st':=by exact rfl) (hc:Zfu st'=true:=by exact rfl):Le st st':=by
 subst h0
 exact ⟨rfl,fun i=>(ZkH st.tmps i).imp id fun h=>⟨_,h,rfl,rfl⟩,fun _ _ h=>h,ZiF hc⟩
theorem LetsOut.mono_ {Q Q':Exit→Act→World→Prop} (hq:∀ e a w,Q e a w→Q' e a w):LetsOut Q→LetsOut Q':=fun ⟨a,w,h⟩=>⟨a,w,hq _ _ _ h⟩
theorem Oper.wp_monoQ {P:Program} {o:Oper} {a:Act} {w:World} {K:Act→World→Prop} {Q Q':Exit→Act→World→Prop} (hq:∀ e a w,Q e a w→Q' e a w)
  (hh:o.wp P a w K Q):o.wp P a w K Q':=by
 unfold Oper.wp at *
 generalize (execOp a.eval o).run P w=r at *
 cases r with
 | ok n w' =>
  cases n<;>simp only [Oper.upon] at hh ⊢ <;>
   first
    | exact hh
    | exact Calls.mono hh (fun e w'' he=>by cases e<;>first|exact (LetsOut.mono_ hq he)|exact hq _ _ _ he|exact he)
 | halt x w'=>cases x<;>simp only [Oper.upon] at hh ⊢<;>first|exact hq _ _ _ hh|exact hh
theorem Zn0 {P:Program} {ops:Array Oper} {i:Nat} {K:Act→World→Prop} {a:Act} {w:World} {Q Q':Exit→Act→World→Prop} (hq:∀ e a w,Q e a w→Q' e a w)
  (hh:wpOp P ops Q i K a w):wpOp P ops Q' i K a w:=by
 unfold wpOp at *
 split
 ·simpa [*] using hh
 ·rename_i o ho
  simp only [ho] at hh
  split
  ·rename_i hw
   simp only [hw,if_true] at hh
   rcases hh with hh|⟨h1,h2⟩
   ·exact .inl (Oper.wp_monoQ hq hh)
   ·exact .inr ⟨h1,LetsOut.mono_ hq h2⟩
  ·rename_i hw;simp only [hw] at hh;exact hh
theorem ZiY {P:Program} {ops:Array Oper} {md:Region.Mode} {Q Q':Exit→Act→World→Prop} (hq:∀ e a w,Q e a w→Q' e a w):∀ {n:Nat} {ls:Array Bool} {a:Act} {w:World},wpAny P md ops Q n ls a w→wpAny P md ops Q' n ls a w
 | 0,ls,a,w,h=>⟨h.1,hq _ _ _ h.2⟩
 | n + 1,ls,a,w,h=>⟨fun h0=>hq _ _ _ (h.1 h0),fun i hi=>Zn0 hq (wpOp_mono (fun a w h=>ZiY hq h) (h.2 i hi))⟩
section
variable {P:Program} {B:Nat→Prop} {W:En} {Q:Exit→St→Prop} {st:St}
theorem Sim.drawn {a:Act} {w:World} (hs:Sim P B W st a w):Sim P B W st a { w with drawn:=w.drawn + 1 }:=by
 obtain ⟨pl,F,hs⟩:=hs
 exact ⟨pl,F,hs.below_ ⟨rfl,rfl,rfl,Nat.le_refl _,fun _ _=>rfl⟩⟩
theorem aA.start {ops:Array Oper} {n:Nat} {ls:Array Bool} {K:St→Prop} {os:List Nat} (h:aA P B W ops os n ls K st) {a:Act} {w:World} (hs:Sim P B W st a w):wpAny P .any ops (QN P B W K) n ls a w:=by
 obtain ⟨pl,F,hs⟩:=hs
 exact wpAny_of_held _ _ _ _ (h w (fun _=>False) a w pl F hs fun b hb=>hb.elim)
theorem aW.draw {os:List Nat} {id n:Nat} {l:List Oper} {st':St} (hm:P.follows .mixedOrders=true) (hsz:l.toArray.size=n) (h:aA P B W l.toArray os n (Array.replicate n false) (fun s=>Le s st') st) (hn:Q .normal st'):aW P B W (.region id l.toArray true) Q st:=fun a w hs =>
 wp_region_any hm (by
  subst hsz
  refine ZiY ?_ (h.start hs.drawn)
  intro e a w hq
  cases e with
  | normal =>
   obtain ⟨s,h1,h2⟩:=hq
   exact ⟨st',h1.weak h2,hn⟩
  | _=>exact hq.elim)
end
theorem notT {b:Bool} (h:b=false):(!b)=true:=by rw [h];rfl
theorem notF {b:Bool} (h:b=true):(!b)=false:=by rw [h];rfl
theorem ZpS {P:Program} {t:TypeId} {y:Ty} {k:IntKind} (h:Zac P t=some y) (hk:y.k=.int k):P.underlying t=some (.int k):=by
 obtain ⟨d,i,hd,hi,hk',_⟩:=Zaw h
 rw [hk'] at hk
 cases d<;>simp [kdOf] at hk
 subst hk;exact hd
theorem str_t {P:Program} {t:TypeId} {y:Ty} (h:Zac P t=some y) (hk:y.k=.str):P.underlying t=some .string:=by
 obtain ⟨d,i,hd,hi,hk',_⟩:=Zaw h
 rw [hk'] at hk
 cases d<;>simp [kdOf] at hk
 exact hd
theorem some_t {P:Program} {t:TypeId} {y:Ty} (h:Zac P t=some y):∃ d,P.underlying t=some d:=by
 obtain ⟨d,i,hd,_⟩:=Zaw h
 exact ⟨d,hd⟩
section
variable {P:Program} {B:Nat→Prop} {W:En} {o:Oper} {os:List Nat} {st:St} {KE:V→List (Nat×Nat×Ob)→Prop}
theorem ZcR {src dst:TypeId} {x:Operand} {a:Act} {w w':World} {u:Value} (ho:o.op=.convert src dst x) (h:(convert src dst (a.eval x)).run P w=.ok u w'):(execOp a.eval o).run P w=.ok (.value u) w':=by
 unfold execOp
 rw [ho]
 exact Zap h
theorem ZjL {src dst:TypeId} {k k':IntKind} {n:Int} {ys yd:Ty} (hs:Zac P src=some ys) (hd:Zac P dst=some yd) (hk:yd.k=.int k') (w:World):(convert src dst (.int k n)).run P w=.ok (.int k' (k'.wrap n)) w:=by
 obtain ⟨d,hd'⟩:=some_t hs
 simp [convert,run_underlying hd',run_underlying (ZpS hd hk),Conv.intToInt]
theorem OpQ.conv_int {src dst:TypeId} {x:Operand} {k k':IntKind} {n:Int} {ys yd:Ty} (ho:o.op=.convert src dst x) (hx:st.ev x=.t (.int k n)) (hs:Zac P src=some ys) (hd:Zac P dst=some yd) (hk:yd.k=.int k') (hK:KE (.t (.int k' (k'.wrap n))) []):OpQ P B W o os st KE :=
 OpQ.pure_ hK fun a w pl F h=>⟨_,fun w'=>ZcR ho (by rw [(h.int_at hx).1];exact ZjL hs hd hk w'),Rd.int (wf_wrap _ _)⟩
theorem OpQ.s (h:OpQ P B W o [] st KE):OpS P B W o st KE:=by
 obtain ⟨v,hK,h⟩:=h
 exact OpS.pure_ hK fun a w pl F hs=>by
  obtain ⟨u,h1,h2⟩:=h a w pl F hs
  exact ⟨u,h1 w fun _ _=>rfl,h2⟩
theorem OpS.conv_int {src dst:TypeId} {x:Operand} {k k':IntKind} {n:Int} {ys yd:Ty} (ho:o.op=.convert src dst x) (hx:st.ev x=.t (.int k n)) (hs:Zac P src=some ys) (hd:Zac P dst=some yd) (hk:yd.k=.int k') (hK:KE (.t (.int k' (k'.wrap n))) []):OpS P B W o st KE :=
 (OpQ.conv_int ho hx hs hd hk hK).s
def Zao (s:List UInt8):List (List T):=s.map fun c=>[.int .u8 (c.toNat:Nat)]
theorem Zhy {s:List UInt8}:∀ x ∈ (Zao s).flatten,x.flat=true:=by
 intro x hx
 obtain ⟨l,hl,hx⟩:=List.mem_flatten.1 hx
 obtain ⟨c,_,rfl⟩:=List.mem_map.1 hl
 cases List.mem_singleton.1 hx;rfl
theorem Zfm:∀ (s:List UInt8),(Zao s).flatten=s.map fun c=>.int .u8 (c.toNat:Nat)
 | []=>rfl
 | c :: s=>by
  show [T.int .u8 _]++(Zao s).flatten=_
  rw [Zfm s];rfl
theorem pU17 {X:Prop} (r:X:=by first|exact ecfc rfl|exact ef62 rfl):X:=r
theorem q0db4 {src dst:TypeId} {x:Operand} {s:List UInt8} {ys yd ye:Ty} {e eb site ep:Nat} (hK:KE (.hnd site ep) [(site,ep,.row true true e (Zao s))]) (ho:o.op=.convert src dst x:=by exact rfl) (hdst:o.dst=some site:=by exact rfl) (hx:st.ev x=.t (.str s):=by exact rfl) (hs:Zac P src=some ys:=by exact Tryz.ti rfl) (hks:ys.k=.str:=by exact rfl) (hd:Zac P dst=some yd:=by exact Tryz.ti rfl) (hk:yd.k=.slice e 1 eb:=by exact rfl) (he:Zac P e=some ye:=by exact Tryz.ti rfl) (hke:ye.k=.int .u8:=by exact rfl) (hep:nep (look st.objs site)=ep:=by exact pU17):OpS P B W o st KE:=by
 obtain ⟨h1,h2,h3⟩:=ZaM hd hk
 refine OpS.newrow (ks:=[]) (els:=Zao s) hep (fun x e h=>by cases h) (fun y hy=>?_) (fun _=>Zhy) hK fun a w pl F h=>?_
 ·obtain ⟨c,_,rfl⟩:=List.mem_map.1 hy;rw [h2];rfl
 ·obtain ⟨g1,g2⟩:=h.str_at hx
  have hr:=run_bytes_of_string w src dst e (bs s) (str_t hs hks) h1 (ZpS he hke)
  have hge:=grownCap_ge w (bs s).size 0 e
  have hlm:=grownCap_le_maxLen w (bs s).size 0 e (by rw [Zb5];exact g2)
  rw [Zb5] at hge hlm hr
  have hlen:(Zao s).length=s.length:=List.length_map _
  have hsz:(bytesRow (bs s) (grownCap w s.length 0 e)).size=grownCap w s.length 0 e:=by
   simp [bytesRow,bs,ByteArray.size];omega
  refine ⟨s.map fun c=>.int .u8 (c.toNat:Nat),_,_,ZcR ho (by rw [g1];exact hr),?_,?_,fun b hb=>?_,?_⟩
  ·exact ⟨rfl,rfl,rfl,by show w.heap.size≤(w.heap.push _).size;simp,fun k hk=>by
    show (w.heap.push _)[k]?=_
    rw [Array.getElem?_push,if_neg (by omega)]⟩
  ·rw [hlen,h2]
   refine ⟨by simp,.inr ⟨w.heap.size,0,grownCap w s.length 0 e,bytesRow (bs s) (grownCap w s.length 0 e),((bytesRow (bs s) (grownCap w s.length 0 e)).size,(bytesRow (bs s) (grownCap w s.length 0 e)).size + 1),rfl,?_,.inr (Nat.le_refl _),hge,hlm,by rw [hsz];simp,?_⟩⟩
   ·show (w.heap.push _)[w.heap.size]?=_
    simp
   ·simp [bytesRow,bs]
  ·cases hb
   exact ⟨Nat.le_refl _,by show w.heap.size < (w.heap.push _).size;simp⟩
  ·refine Zgx ?_ Zhy true
   rw [Zfm]
   refine ⟨by simp,fun k c u hc hu=>?_⟩
   rw [List.getElem?_map,Option.map_eq_some_iff] at hc hu
   obtain ⟨b,hb,rfl⟩:=hc
   obtain ⟨b',hb',rfl⟩:=hu
   rw [hb] at hb'
   cases hb'
   exact Rd.int (wf_u8 b)
def byteOf:List T→UInt8
 | [.int _ n]=>UInt8.ofNat n.toNat
 | _=>0
def isByte:List T→Bool
 | [.int k _]=>(match k with | .u8=>true|_=>false)
 | _=>false
theorem ZhI {x:List T} (h:isByte x=true):∃ n,x=[.int .u8 n]:=by
 unfold isByte at h
 split at h
 ·rename_i k n
  cases k<;>first|exact ⟨n,rfl⟩|cases h
 ·cases h
theorem ZlX {n:Int} (h:(Lit.int .u8 n).wf=true):((UInt8.ofNat n.toNat).toNat:Int)=n:=by
 simp only [Lit.wf,IntKind.min,IntKind.max,IntKind.signed,IntKind.bits] at h
 simp at h
 simp
 omega
theorem ZeN {src dst:TypeId} {ys yd ye:Ty} {e eb:Nat} (hs:Zac P src=some ys) (hks:ys.k=.slice e 1 eb) (hd:Zac P dst=some yd) (hk:yd.k=.str) (he:Zac P e=some ye) (hke:ye.k=.int .u8) {w:World} {A:Option Addr} {c:Nat} {l:List UInt8}
  (hc:l ≠ []→∃ ad,A=some ad∧∀ j (hj:j < l.length),w.cell? (ad.add j)=some (.int .u8 (l[j].toNat:Int))):(convert src dst (.slice A l.length c)).run P w=.ok (.string (bs l)) w:=by
 obtain ⟨h1,h2,h3⟩:=ZaM hs hks
 by_cases hn:l=[]
 ·subst hn
  show (convert src dst (.slice A 0 c)).run P w=_
  rw [run_convert_bytes_string w src dst e A 0 c h1 (ZpS he hke) (str_t hd hk)]
  cases A with
  | none=>simp [Conv.bytesToString,bs];rfl
  | some ad=>simp [Conv.bytesToString,bs,loadCells];rfl
 ·obtain ⟨ad,e1,hc2⟩:=hc hn
  subst e1
  exact run_convert_bytes_back w src dst e ad c l h1 (ZpS he hke) (str_t hd hk) hc2
theorem Zl1 {l:List (List T)} (h:∀ x ∈ l,isByte x=true) (j:Nat) (hj:j < l.length):∃ n,l.flatten[j]?=some (.int .u8 n)∧l.getD j []=[.int .u8 n]:=by
 have hu:∀ x ∈ l,x.length=1:=fun x hx=>by obtain ⟨n,rfl⟩:=ZhI (h x hx);rfl
 obtain ⟨n,hn⟩:=ZhI (h _ (ZbT hj))
 have:=Zb0 hu hj (Nat.zero_lt_one)
 rw [Nat.mul_one,Nat.add_zero,hn] at this
 exact ⟨n,this,hn⟩
theorem ZiG {P:Program} {w:World} {B:Nat→Prop} {els:List (List T)} {us:List Value} {A:Option Addr} (hb:∀ x ∈ els,isByte x=true) (hl:els.flatten.length=us.length) (hm:us ≠ []→∃ ad,A=some ad∧∀ k u,us[k]?=some u→w.cell? (ad.add k)=some u) (hr:∀ (k:Nat) (x:T) (u:Value),els.flatten[k]?=some x→us[k]?=some u→Rd P w B x u) :
  els.map byteOf ≠ []→∃ ad,A=some ad∧∀ j (hj:j < (els.map byteOf).length),w.cell? (ad.add j)=some (.int .u8 ((els.map byteOf)[j].toNat:Int)):=fun hn=>by
 have hu1:∀ x ∈ els,x.length=1:=fun x hx=>by obtain ⟨n,rfl⟩:=ZhI (hb x hx);rfl
 have hlen:us.length=els.length:=by rw [← hl,ZaE hu1,Nat.mul_one]
 have hpos:0 < els.length:=List.length_pos_iff.2 fun e=>hn (by rw [e];rfl)
 obtain ⟨ad,rfl,hc⟩:=hm fun e=>by rw [e] at hlen;simp at hlen;omega
 refine ⟨ad,rfl,fun j hj=>?_⟩
 have hj':j < els.length:=by simpa using hj
 obtain ⟨n,h1,h2⟩:=Zl1 hb j hj'
 have hju:j < us.length:=by omega
 have h3:=hr j _ _ h1 (List.getElem?_eq_getElem hju)
 rw [hc j _ (List.getElem?_eq_getElem hju)]
 have h4:els[j]=[.int .u8 n]:=by rw [← h2,List.getD_eq_getElem?_getD,List.getElem?_eq_getElem hj'];rfl
 generalize us[j]=u at h3
 cases h3 with
 | int hw =>
  rw [List.getElem_map,h4]
  show some (Value.int .u8 n)=some (.int .u8 ((UInt8.ofNat n.toNat).toNat:Int))
  rw [ZlX hw]
theorem Zf0 {s:List UInt8}:∀ x ∈ Zao s,isByte x=true:=by
 intro x hx
 obtain ⟨c,_,rfl⟩:=List.mem_map.1 hx
 rfl
theorem ZoF {els:List (List T)} {n:Nat} {c:List T} (h:∀ x ∈ els,isByte x=true) (hc:isByte c=true):∀ x ∈ els.set n c,isByte x=true:=by
 intro x hx
 rcases List.mem_or_eq_of_mem_set hx with hx|rfl
 ·exact h x hx
 ·exact hc
theorem Zfx {a b:List (List T)} (ha:∀ x ∈ a,isByte x=true) (hb:∀ x ∈ b,isByte x=true):∀ x ∈ a++b,isByte x=true:=by
 intro x hx
 rcases List.mem_append.1 hx with hx|hx
 ·exact ha x hx
 ·exact hb x hx
theorem Zjz {c:List T} (hc:isByte c=true):∀ x ∈ [c],isByte x=true:=by
 intro x hx
 rw [List.mem_singleton.1 hx]
 exact hc
theorem ZhG:∀ x ∈ ([]:List (List T)),isByte x=true:=fun x hx=>by cases hx
theorem ZmF {c:List T} {r:List (List T)} (hc:isByte c=true) (hr:∀ x ∈ r,isByte x=true):∀ x ∈ c :: r,isByte x=true:=by
 intro x hx
 rcases List.mem_cons.1 hx with rfl|hx
 ·exact hc
 ·exact hr x hx
theorem ZhH {b:List UInt8}:∀ x ∈ b.map (fun c=>[T.int .u8 (c.toNat:Nat)]),isByte x=true:=Zf0
theorem Zbf:∀ (s:List UInt8),(Zao s).map byteOf=s
 | []=>rfl
 | c :: r=>by
  show byteOf [T.int .u8 (c.toNat:Nat)] :: (Zao r).map byteOf=_
  rw [Zbf r]
  simp [byteOf]
theorem Zgw (b:List UInt8):(b.map fun c=>[T.int .u8 (c.toNat:Nat)]).map byteOf=b:=Zbf b
theorem Zc8 {s:List UInt8}:(Zao s).length=s.length:=List.length_map _
theorem qf8cf {src dst:TypeId} {x:Operand} {i ep:Nat} {fl d:Bool} {els:List (List T)} {ys yd ye:Ty} {e e' eb:Nat} (hK:KE (.t (.str (els.map byteOf))) []) (ho:o.op=.convert src dst x:=by exact rfl) (hx:st.ev x=.hnd i ep:=by exact rfl) (hl:look st.objs i=some (ep,.row fl d e' els):=by exact rfl) (hs:Zac P src=some ys:=by exact Tryz.ti rfl) (hks:ys.k=.slice e 1 eb:=by exact rfl) (hd:Zac P dst=some yd:=by exact Tryz.ti rfl) (hk:yd.k=.str:=by exact rfl) (he:Zac P e=some ye:=by exact Tryz.ti rfl) (hke:ye.k=.int .u8:=by exact rfl) (hb:∀ x ∈ els,isByte x=true:=by first|((repeat' (first|exact Zf0|exact ZhH|exact ZhG|refine ZoF ?_ rfl|assumption|refine Zfx ?_ ?_|exact Zjz rfl|refine ZmF rfl ?_));done)|fail):OpS P B W o st KE:=
 OpS.pure_ hK fun a w pl F h=>by
  obtain ⟨g1,us,hp⟩:=h.hnd_at hx hl
  obtain ⟨A,c,g2,g3,g4,g5⟩:=hp.slice
  have hlen:(els.map byteOf).length=els.length:=List.length_map _
  refine ⟨.string (bs (els.map byteOf)),ZcR ho ?_,Rd.str (by rw [hlen];omega)⟩
  rw [g1,g2,← hlen]
  refine ZeN hs hks hd hk he hke (ZiG hb hp.len (fun hn=>?_) hp.rd)
  obtain ⟨g,off,rfl,_,_,h6⟩:=g5 hn
  exact ⟨_,rfl,fun k u hu=>by rw [ZaS];exact h6 k u hu⟩
theorem Zby {α:Type} (cs vs:List α) (off k:Nat) (h:off + vs.length≤cs.length):(setRange cs off vs)[k]?=if off≤k∧k < off + vs.length then vs[k - off]? else cs[k]?:=by
 unfold setRange
 by_cases h1:k < off
 ·rw [if_neg (by omega),List.getElem?_append_left (by simp;omega),List.getElem?_append_left (by simp;omega),List.getElem?_take,if_pos h1]
 ·by_cases h2:k < off + vs.length
  ·rw [if_pos ⟨by omega,h2⟩,List.getElem?_append_left (by simp;omega),List.getElem?_append_right (by simp;omega)]
   congr 1
   simp;omega
  ·rw [if_neg (by omega),List.getElem?_append_right (by simp;omega),List.getElem?_drop]
   congr 1
   simp;omega
theorem ZaL {α:Type} (cs vs:List α) (off:Nat) (h:off + vs.length≤cs.length):(setRange cs off vs).length=cs.length:=by
 unfold setRange;simp;omega
theorem Zge {α:Type} (cs vs:List α) (off n:Nat) (h:off + vs.length≤n) (hn:n≤cs.length):(setRange cs off vs).take n=setRange (cs.take n) off vs:=by
 apply List.ext_getElem?
 intro k
 rw [Zby _ _ _ _ (by simp;omega),List.getElem?_take,Zby _ _ _ _ (by omega),List.getElem?_take]
 by_cases hk:k < n
 ·simp [hk]
 ·rw [if_neg hk,if_neg hk,if_neg (by omega)]
theorem Zd4 {α:Type} {s:Nat}:∀ {els:List (List α)} (_:∀ x ∈ els,x.length=s) {n:Nat} (_:n < els.length) {off:Nat} {ts:List α} (_:off + ts.length≤s),(els.set n (setRange (els.getD n []) off ts)).flatten=setRange els.flatten (n * s + off) ts
 | [],_,n,hn,_,_,_=>by simp at hn
 | x :: els,hu,0,_,off,ts,ho=>by
  have hx:=hu x (by simp)
  simp only [List.set_cons_zero,List.flatten_cons,List.getD_cons_zero,Nat.zero_mul,Nat.zero_add]
  unfold setRange
  rw [List.take_append_of_le_length (by omega),List.drop_append_of_le_length (by omega),List.append_assoc (x.take off++ts)]
 | x :: els,hu,n + 1,hn,off,ts,ho=>by
  have hx:=hu x (by simp)
  have ih:=Zd4 (els:=els) (fun y hy=>hu y (by simp [hy])) (n:=n) (by simpa using hn) ho
  simp only [List.set_cons_succ,List.flatten_cons,List.getD_cons_succ]
  rw [ih]
  unfold setRange
  have e1:(n + 1) * s + off=x.length + (n * s + off):=by rw [Nat.add_mul,hx];omega
  rw [e1,List.take_length_add_append,Nat.add_assoc x.length,List.drop_length_add_append]
  simp
def Zov:List V→Option (List T)
 | []=>some []
 | .t x :: r=>match x.flat with|true=>(match Zov r with|some ts=>some (x :: ts)|none=>none)|false=>none
 | _=>none
theorem getD_map {α:Type} [Inhabited α] {f:α→List T} {xs:List α} {m:Nat} (h:m < xs.length):(xs.map f).getD m []=f (xs.getD m default):=by simp [h]
theorem Zmz:∀ {vs:List V} {ts:List T},Zov vs=some ts→vs=ts.map .t∧∀ x ∈ ts,x.flat=true
 | [],ts,h=>by cases h;exact ⟨rfl,fun _ h=>by cases h⟩
 | v :: r,ts,h=>by
  cases v with
  | t x =>
   simp only [Zov] at h
   split at h
   ·rename_i hf
    split at h
    ·rename_i ts' hr
     cases h
     obtain ⟨h1,h2⟩:=Zmz hr
     refine ⟨by rw [h1];rfl,fun y hy=>?_⟩
     rcases List.mem_cons.1 hy with rfl|hy
     ·exact hf
     ·exact h2 y hy
    ·cases h
   ·cases h
  | _=>cases h
theorem Zgd {α:Type} (cs:List α) (b q:Nat) (vs:List α) (h:b + q≤cs.length):(setRange cs (b + q) vs).drop b=setRange (cs.drop b) q vs:=by
 unfold setRange
 rw [List.append_assoc,List.drop_append_of_le_length (by rw [List.length_take];omega),List.drop_take,Nat.add_sub_cancel_left,List.drop_drop,Nat.add_assoc,List.append_assoc]
theorem OpS.store_elem {ty:TypeId} {x z:Operand} {i ep n off:Nat} {fl d:Bool} {e:TypeId} {els:List (List T)} {y:Ty} {v:V} {ts cs:List T} (ho:o.op=.store ty x z) (hx:st.ev x=.ptr i ep n off) (hl:look st.objs i=some (ep,.row fl d e els)) (hy:Zac P ty=some y)
  (hz:st.ev z=v) (hs:(ZaT v).all V.sto=true) (hts:Zov (ZaT v)=some ts) (hn:(ZaT v).length=y.size) (hlt:n < els.length) (hc:els.getD n []=cs) {ye:Ty} (hye:Zac P e=some ye) (hle:Nat.ble (off + ts.length) ye.size=true) (hpos:Nat.beq y.size 0=false) (hK:KE (.lit undef) [(i,ep,.row fl d e (els.set n (setRange cs off ts)))]):OpS P B W o st KE:=by
 subst hz hc
 have hle:off + ts.length≤P.cellsOf e:=by rw [ZeD hye];exact Nat.le_of_ble_eq_true hle
 have hpos:y.size ≠ 0:=Nat.ne_of_beq_eq_false hpos
 obtain ⟨hv,hf⟩:=Zmz hts
 refine OpS.chg (ks:=[]) hK (fun x e h=>by cases h) fun a w pl F h=>?_
 have h1:=h.ev x
 rw [hx] at h1
 obtain ⟨_,ep',ob,h2,h3,h4⟩:C0 P w (look st.objs) pl (Free B W.o (look st.objs) F w) (.ptr i ep n off) (a.eval x):=h1
 rw [hl] at h2
 cases h2
 obtain ⟨g,bb,hg,hu⟩:=h4 rfl
 have hob:=h.objs i _ _ hl
 obtain ⟨us0,hp⟩:=ZbX hob
 have huni:=hp.uni
 have hnL:n * P.cellsOf e + P.cellsOf e≤els.length * P.cellsOf e:=by rw [← Nat.succ_mul];exact Nat.mul_le_mul_right _ hlt
 obtain ⟨vs,hv1,hv2,hv3⟩:=((h.ev z).c1 hs).cells hs
 have hlen:vs.length=ts.length:=by rw [hv2.1,hv,List.length_map]
 have htl:ts.length=y.size:=by rw [← hn,hv,List.length_map]
 have hvr:∀ (k:Nat) (x:T) (u:Value),ts[k]?=some x→vs[k]?=some u→Rd P w (fun _=>False) x u:=fun k x u hx hu=>by
  have:=hv2.2 k (.t x) u (by rw [hv,List.getElem?_map,hx];rfl) hu
  exact Rd.flat this (hf x (List.mem_of_getElem? hx))
 -- the row's block
 have key:∀ us,ZbZ w e (P.cellsOf e) (pl i) els.length us→∃ cap cur fz,pl i=.slice (some ⟨g,bb,none⟩) els.length cap∧w.heap[g]?=some (.cells cur e fz)∧(fz=(0,0)∨cur.size≤fz.1)∧els.length≤cap∧cap≤maxLen∧bb + cap * P.cellsOf e≤cur.size∧(cur.toList.drop bb).take (els.length * P.cellsOf e)=us:=fun us ho=>by
  rcases ho.2 with ⟨_,h0⟩|⟨g',off',cap,cur,fz,e1,rest⟩
  ·omega
  ·rw [e1] at hg
   simp only [blk,Option.some.injEq,Prod.mk.injEq] at hg
   obtain ⟨rfl,rfl⟩:=hg
   exact ⟨cap,cur,fz,e1,rest⟩
 obtain ⟨cap,cur,fz,k1,k3,k4,k5,k6,k7,k8⟩:=key us0 hp.own
 have hcap:bb + els.length * P.cellsOf e≤cur.size:=Nat.le_trans (Nat.add_le_add_left (Nat.mul_le_mul_right _ k5) _) k7
 have hrun:=ZbQ P g (bb + (n * P.cellsOf e + off)) e fz vs 0 cur w k3 k4 (by omega) hv3
 have hcur:(cur.toList.take (bb + (n * P.cellsOf e + off) + 0)++vs++cur.toList.drop (bb + (n * P.cellsOf e + off) + 0 + vs.length))=setRange cur.toList (bb + (n * P.cellsOf e + off)) vs:=rfl
 rw [hcur] at hrun
 have htop:(pl i).ownBlock=some g:=by rw [k1];rfl
 have hFg:F i g:=hp.top g htop
 have k2:W.o g:=(h.range i _ g hl hFg).1
 have hown:∀ us,ZbZ w e (P.cellsOf e) (pl i) els.length us→ZbZ (w.setRow g (setRange cur.toList (bb + (n * P.cellsOf e + off)) vs).toArray) e (P.cellsOf e) (pl i) (els.set n (setRange (els.getD n []) off ts)).length (setRange us (n * P.cellsOf e + off) vs):=fun us ho=>by
  rw [List.length_set]
  have hus:us=us0:=ho.uniq hp.own
  subst hus
  refine ⟨by rw [ZaL _ _ _ (by rw [ho.1];omega)];exact ho.1,.inr ⟨g,bb,cap,_,fz,k1,setRow_heap w g cur _ e fz k3,?_,k5,k6,?_,?_⟩⟩
  ·rcases k4 with k4|k4
   ·exact .inl k4
   ·exact .inr (by rw [List.size_toArray,ZaL _ _ _ (by simp;omega)];simpa using k4)
  ·rw [List.size_toArray,ZaL _ _ _ (by simp;omega)];simpa using k7
  ·rw [List.toList_toArray,Zgd _ _ _ _ (by simp;omega),Zge _ _ _ _ (by omega) (by simp;omega),k8]
 have huni':∀ x ∈ els.set n (setRange (els.getD n []) off ts),x.length=P.cellsOf e:=fun x hx=>by
  rcases List.mem_or_eq_of_mem_set hx with hx|rfl
  ·exact huni x hx
  ·have h0:=huni _ (ZbT hlt)
   rw [ZaL _ _ _ (by omega)];exact h0
 have hfl':=Zd4 huni hlt hle
 have hL:els.flatten.length=els.length * P.cellsOf e:=ZaE huni
 have hflt:fl=true→∀ x ∈ (els.set n (setRange (els.getD n []) off ts)).flatten,x.flat=true:=fun hfl x hx=>by
  rw [hfl'] at hx
  unfold setRange at hx
  rcases List.mem_append.1 hx with hx|hx
  ·rcases List.mem_append.1 hx with hx|hx
   ·exact hp.flt hfl x (List.mem_of_mem_take hx)
   ·exact hf x hx
  ·exact hp.flt hfl x (List.mem_of_mem_drop hx)
 have hmain:∃ F':Nat→Prop,(∀ b,F' b→F i b)∧∀ (lk':Nat→Option (Nat×Ob)) (pl':Nat→Value) (Fr':Nat→Prop),Goes P w (w.setRow g (setRange cur.toList (bb + (n * P.cellsOf e + off)) vs).toArray) (look st.objs) lk' pl pl' (Free B W.o (look st.objs) F w) Fr' →
   ObR P (w.setRow g (setRange cur.toList (bb + (n * P.cellsOf e + off)) vs).toArray) (C0 P (w.setRow g (setRange cur.toList (bb + (n * P.cellsOf e + off)) vs).toArray) lk' pl' Fr') (Rd P (w.setRow g (setRange cur.toList (bb + (n * P.cellsOf e + off)) vs).toArray) Fr') (pl i) F' (.row fl d e (els.set n (setRange (els.getD n []) off ts))):=by
  rcases hob with ⟨hd,hob⟩|⟨hd,us,h1,h2,h3,h4,h5,h6⟩
  ·cases hob with
   | flat hf=>cases hf
   | lst us fs h1 h2 h3 h4 h5 h6 h7 h8 =>
    have hul:us.length=els.length * P.cellsOf e:=h1.1
    refine ⟨fun b=>(pl i).ownBlock=some b∨∃ k,fs k b∧¬ (n * P.cellsOf e + off≤k∧k < n * P.cellsOf e + off + vs.length),fun b hb=>(h8 b).2 (hb.imp id fun ⟨k,h,_⟩=>⟨k,h⟩),fun lk' pl' Fr' gg=>?_⟩
    refine .inl ⟨hd,.lst (setRange us (n * P.cellsOf e + off) vs) (fun k b=>fs k b∧¬ (n * P.cellsOf e + off≤k∧k < n * P.cellsOf e + off + vs.length)) (hown us h1) huni' hflt (by rw [hfl',ZaL _ _ _ (by omega),ZaL _ _ _ (by omega)];exact h4) (fun k x u hx hu=>?_) (fun k k' b hne hk hk'=>h6 k k' b hne hk.1 hk'.1) (fun k b hk=>h7 k b hk.1) fun b=>Iff.rfl⟩
    rw [hfl',Zby _ _ _ _ (by omega)] at hx
    rw [Zby _ _ _ _ (by omega)] at hu
    by_cases hk:n * P.cellsOf e + off≤k∧k < n * P.cellsOf e + off + vs.length
    ·rw [if_pos (by rw [← hlen];exact hk)] at hx
     rw [if_pos hk] at hu
     exact .flat (hf x (List.mem_of_getElem? hx)) ((hvr _ x u hx hu).flat (hf x (List.mem_of_getElem? hx))) fun b hb=>hb.2 hk
    ·rw [if_neg (by rw [← hlen];exact hk)] at hx
     rw [if_neg hk] at hu
     have e1:(fun b=>fs k b∧¬ (n * P.cellsOf e + off≤k∧k < n * P.cellsOf e + off + vs.length))=fs k:=funext fun b=>propext ⟨fun h=>h.1,fun h=>⟨h,hk⟩⟩
     show Ow P _ x u (fun b=>fs k b∧¬ (n * P.cellsOf e + off≤k∧k < n * P.cellsOf e + off + vs.length))
     rw [e1]
     refine (h5 k x u hx hu).keep fun b hb=>setRow_other w g _ b fun e=>?_
     exact h7 k b hb (e▸htop)
  ·have hul:us.length=els.length * P.cellsOf e:=h1.1
   refine ⟨F i,fun _ h=>h,fun lk' pl' Fr' gg=>.inr ⟨hd,setRange us (n * P.cellsOf e + off) vs,hown us h1,huni',hflt,by rw [hfl',ZaL _ _ _ (by omega),ZaL _ _ _ (by omega)];exact h4,fun k x u hx hu=>?_,h6⟩⟩
   rw [hfl',Zby _ _ _ _ (by omega)] at hx
   rw [Zby _ _ _ _ (by omega)] at hu
   by_cases hk:n * P.cellsOf e + off≤k∧k < n * P.cellsOf e + off + vs.length
   ·rw [if_pos (by rw [← hlen];exact hk)] at hx
    rw [if_pos hk] at hu
    exact (hvr _ x u hx hu).flat (hf x (List.mem_of_getElem? hx))
   ·rw [if_neg (by rw [← hlen];exact hk)] at hx
    rw [if_neg hk] at hu
    exact (h5 k x u hx hu).mono gg.more gg.heap
 obtain ⟨F',hF1,hF2⟩:=hmain
 refine ⟨_,_,pl i,F',undef,ZgA ho hy hu (by rw [hv1];simp;omega) (by rw [hv1];exact hrun),.inr ⟨rfl,rfl⟩,below_setRow k2 _,fun b hb hf=>setRow_other w g _ b fun e=>hf _ hl (e▸hFg),fun ep0 ob0 h0=>?_,fun h0=>(by rw [hl] at h0;cases h0),fun b hb=>.inr (.inl ⟨_,hl,hF1 b hb⟩),fun lk' pl' Fr' gg _ _ _=>⟨hF2 lk' pl' Fr' gg,rfl⟩⟩
 rw [hl] at h0;cases h0;exact .inr ⟨rfl,rfl,rfl,rfl⟩
end
def MSet (objs:List (Nat×Nat×Ob)) (F:Nat→Nat→Prop) (b:Nat):Prop:=∃ o x,look objs o=some x∧F o b
structure Env0 (P:Program) (w:World) (B:Nat→Prop) (objs:List (Nat×Nat×Ob)) (pl:Nat→Value) (F:Nat→Nat→Prop):Prop where
 obs:∀ o ep ob,look objs o=some (ep,ob)→ObR P w (C0 P w (look objs) pl (Free B (fun _=>False) (look objs) F w)) (Rd P w (Free B (fun _=>False) (look objs) F w)) (pl o) (F o) ob
 range:∀ o x b,look objs o=some x→F o b→b < w.heap.size
 apart:∀ o o' x x' b,o ≠ o'→look objs o=some x→look objs o'=some x'→F o b→¬ F o' b
def FrM (B O:Nat→Prop) (w':World) (lk:Nat→Option (Nat×Ob)) (F':Nat→Nat→Prop) (FF:Nat→Nat→Nat→Prop) (b:Nat):Prop :=
 (B b∨O b)∧b < w'.heap.size∧(∀ o x,lk o=some x→¬ F' o b)∧∀ j k,¬ FF j k b
def Zcs:V→Bool
 | .hnd .. | .ptr .. | .view ..=>true
 | _=>false
def R2m (P:Program) (w:World) (lk:Nat→Option (Nat×Ob)) (pl:Nat→Value) (Fr:Nat→Prop) (FF:Nat→Nat→Nat→Prop) (r:V) (u:Value):Prop:=if Zcs r=true then C0 P w lk pl Fr r u else R2 P w Fr FF r u
structure MEnd (P:Program) (B O:Nat→Prop) (w':World) (objs objs':List (Nat×Nat×Ob)) (pl pl':Nat→Value) (F':Nat→Nat→Prop) (FF:Nat→Nat→Nat→Prop) (r:V) (u:Value):Prop where
 lks:∀ o ob,look objs o=some (0,ob)→∃ ep' ob',look objs' o=some (ep',ob')∧(0 < ep'∨(0=ep'∧pl' o=pl o∧ob'.isRow=ob.isRow∧esz P ob'=esz P ob))
 obs:∀ o ep ob,look objs' o=some (ep,ob)→ObR P w' (C0 P w' (look objs') pl' (FrM B O w' (look objs') F' FF)) (Rd P w' (FrM B O w' (look objs') F' FF)) (pl' o) (F' o) ob
 res:R2m P w' (look objs') pl' (FrM B O w' (look objs') F' FF) FF r u
 range:∀ o x b,look objs' o=some x→F' o b→O b∧b < w'.heap.size
 rangeF:∀ j k b,FF j k b→O b∧b < w'.heap.size
 apart:∀ o o' x x' b,o ≠ o'→look objs' o=some x→look objs' o'=some x'→F' o b→¬ F' o' b
 apartF:∀ j k j' k' b,(j ≠ j'∨k ≠ k')→FF j k b→¬ FF j' k' b
 apartM:∀ o x j k b,look objs' o=some x→FF j k b→¬ F' o b
def AMP (P:Program) (f:FuncId) (objs:List (Nat×Nat×Ob)) (aS:List V) {α:Type} (O:α→List (Nat×Nat×Ob)) (R:α→V) (Post:α→Prop):Prop:=Enters P f∧(objs.all fun x=>Nat.beq x.2.1 0)=true ∧
 ∀ (w:World) (B:Nat→Prop) (args:List Value) (pl:Nat→Value) (F:Nat→Nat→Prop),(∀ b,B b→b < w.heap.size)→Env0 P w B objs pl F→Pw (C1 P w (look objs) pl (Free B (fun _=>False) (look objs) F w)) aS args →
  Calls P f args.toArray w fun e w'=>∃ x u pl' F' FF,Post x∧e=.returned u∧Kp ⟨w,MSet objs F,objs,pl⟩ w w'∧MEnd P B (En.o ⟨w,MSet objs F,objs,pl⟩) w' objs (O x) pl pl' F' FF (R x) u
def AM (P:Program) (f:FuncId) (objs:List (Nat×Nat×Ob)) (aS:List V) (objs':List (Nat×Nat×Ob)) (r:V):Prop:=AMP P f objs aS (α:=Unit) (fun _=>objs') (fun _=>r) fun _=>True
def idsL (objs:List (Nat×Nat×Ob)):List Nat:=objs.map (·.1)
def Zbu (P:Program) (rl:List ResultVar) (objs objs':List (Nat×Nat×Ob)) (r:V) (e:Exit) (st:St):Prop:=(e=.normal∨e=.ret)∧∃ v,resV P st rl=some v∧(∀ vs,resL P st rl=some vs→vs.all Zkb=true) ∧
 ((Zcs r=true∧v=r∧((ids0 r).all fun o=>(idsL objs').contains o)=true)∨(Zcs r=false∧Giv2 (look st.objs) v r∧(ids2 v).Nodup∧((ids2 v).all fun o=>!(idsL objs').contains o)=true)) ∧
 leO st.objs objs'∧((objs'.flatMap fun p=>ZgB p.2.2).all fun o=>(idsL objs').contains o)=true∧((idsL objs).all fun o=>(idsL objs').contains o)=true
def Zsp (P:Program) (rl:List ResultVar) (objs:List (Nat×Nat×Ob)) {α:Type} (O:α→List (Nat×Nat×Ob)) (R:α→V) (Post:α→Prop) (e:Exit) (st:St):Prop:=∃ x,Post x∧Zbu P rl objs (O x) (R x) e st
theorem ZjC:∀ {l:List (Nat×Nat×Ob)} {o:Nat} {x:Nat×Ob},look l o=some x→o ∈ idsL l:=fun h=>List.mem_map.2 ⟨_,Zbw h,rfl⟩
theorem Zpy {objs:List (Nat×Nat×Ob)} (h:(objs.all fun x=>Nat.beq x.2.1 0)=true) {o ep:Nat} {ob:Ob} (hl:look objs o=some (ep,ob)):ep=0 :=
 Nat.eq_of_beq_eq_true (List.all_eq_true.1 h _ (Zbw hl))
section
variable {P:Program}
theorem Zbu.intro {rl:List ResultVar} {objs objs':List (Nat×Nat×Ob)} {r v:V} {e:Exit} {st:St} {vs:List V} (he:e=.normal∨e=.ret) (hL:resL P st rl=some vs) (hb:vs.all Zkb=true) (hv:vOf vs=v)
  (ho:leO st.objs objs') (h2:((objs'.flatMap fun p=>ZgB p.2.2).all fun o=>(idsL objs').contains o)=true) (h3:((idsL objs).all fun o=>(idsL objs').contains o)=true)
  (hg:(Zcs r=true∧v=r∧((ids0 r).all fun o=>(idsL objs').contains o)=true)∨(Zcs r=false∧Giv2 (look st.objs) v r∧(ids2 v).Nodup∧((ids2 v).all fun o=>!(idsL objs').contains o)=true)):Zbu P rl objs objs' r e st:=by
 refine ⟨he,v,?_,fun vs' h=>(by rw [hL] at h;cases h;exact hb),hg,ho,h2,h3⟩
 unfold resV
 rw [hL]
 subst hv
 match vs with
 | []=>rfl
 | [v]=>rfl
 | _ :: _ :: _=>rfl
theorem AMP.body {f:FuncId} {fn:Func} {c:Code} {aS:List V} {objs:List (Nat×Nat×Ob)} {α:Type} {O:α→List (Nat×Nat×Ob)} {R:α→V} {Post:α→Prop} (hf:P.funcs[f]?=some fn) (hb:fn.body=some c) (hn:(fn.name == "runtime.NumGoroutine")=false) {rl:List ResultVar} (hrl:fn.results=rl.toArray) {n:Nat} (hnt:fn.ntmps=n) (hnn:aS.length≤n) (h0:(objs.all fun x=>Nat.beq x.2.1 0)=true)
  (h:∀ B (W:En),(∃ pl Fr us,Pw (C1 P W.toWorld (look objs) pl Fr) aS us)→aW P B W c (Zsp P rl objs O R Post) ⟨n,argT 0 aS,objs⟩):AMP P f objs aS O R Post:=by
 refine ⟨⟨fn,hf,by rw [hb];rfl,hn⟩,h0,fun w B args pl F hB hE hargs=>?_⟩
 refine calls_of_wp hf hb ?_
 have hfree:∀ b,Free B (fun _=>False) (look objs) F w b→Free B (En.o ⟨w,MSet objs F,objs,pl⟩) (look objs) F w b:=fun b hb=>⟨hb.1.imp id False.elim,hb.2⟩
 have hs:Sim P B ⟨w,MSet objs F,objs,pl⟩ ⟨n,argT 0 aS,objs⟩ { tmps:=args.toArray++Array.replicate (fn.ntmps - args.toArray.size) undef,defers:=[] } w:=by
  refine ⟨pl,F,hB,?_,rfl,Kp.refl _ _,fun i hv=>?_,fun o ep ob ho=>?_,fun o x b ho hb=>⟨.inr ⟨o,x,ho,hb⟩,hE.range o x b ho hb⟩,hE.apart,fun o ob0 h0 ep ob ho=>?_⟩
  ·simp [hargs.1,hnt];omega
  ·show C2 _ _ _ _ _ (Zcm (argT 0 aS) i) ((args.toArray++Array.replicate (fn.ntmps - args.toArray.size) undef).getD i undef)
   rw [ZhK]
   by_cases hi:i < aS.length
   ·obtain ⟨u,hu,hc⟩:=hargs.at_ (List.getElem?_eq_getElem hi)
    have e:(args.toArray++Array.replicate (fn.ntmps - args.toArray.size) undef).getD i undef=u:=by
     rw [Array.getD_eq_getD_getElem?,Array.getElem?_append_left (by simp [hargs.1,hi])]
     simp [hu]
    rw [e,Nat.sub_zero,List.getElem?_eq_getElem hi]
    exact (hc.weak hfree fun o _=>rfl).c2
   ·rw [List.getElem?_eq_none (by omega)]
    split<;>trivial
  ·exact (hE.obs o ep ob ho).goes (fun _ _=>rfl) (fun x u hc=>hc.weak hfree fun o _=>rfl) (fun x u hr=>hr.mono hfree fun _ _=>rfl)
  ·have h1:look objs o=some (0,ob0):=h0
   have h2:look objs o=some (ep,ob):=ho
   rw [h1] at h2
   cases h2
   exact .inr ⟨rfl,rfl,rfl⟩
 refine wp_mono (h B ⟨w,MSet objs F,objs,pl⟩ ⟨pl,_,args,hargs⟩ _ _ hs) ?_
 rintro e a' w' ⟨st',⟨pl',F',hs'⟩,x,hx,he,v,h1,h4,h2,h5,h7,h8⟩
 obtain ⟨u,g1,g2⟩:=hs'.rV hrl h1 h4
 have hsub:∀ o y,look (O x) o=some y→look st'.objs o=some y:=ZoJ h5
 have hE':Kp ⟨w,MSet objs F,objs,pl⟩ w w'∧∃ FF,MEnd P B (En.o ⟨w,MSet objs F,objs,pl⟩) w' objs (O x) pl pl' F' FF (R x) u:=by
  have key:∀ FF:Nat→Nat→Nat→Prop,(∀ j k b,FF j k b→∃ o x,look st'.objs o=some x∧F' o b)→(∀ j k b,FF j k b→En.o ⟨w,MSet objs F,objs,pl⟩ b∧b < w'.heap.size)→(∀ j k j' k' b,(j ≠ j'∨k ≠ k')→FF j k b→¬ FF j' k' b) →
    (∀ o y j k b,look (O x) o=some y→FF j k b→¬ F' o b)→R2m P w' (look (O x)) pl' (FrM B (En.o ⟨w,MSet objs F,objs,pl⟩) w' (look (O x)) F' FF) FF (R x) u→MEnd P B (En.o ⟨w,MSet objs F,objs,pl⟩) w' objs (O x) pl pl' F' FF (R x) u:=fun FF k5 k2 k3 k4 hres=>by
   have hFr:∀ b,Free B (En.o ⟨w,MSet objs F,objs,pl⟩) (look st'.objs) F' w' b→FrM B (En.o ⟨w,MSet objs F,objs,pl⟩) w' (look (O x)) F' FF b:=fun b hb=>by
    refine ⟨hb.1,hb.2.1,fun o y ho=>hb.2.2 o y (hsub o y ho),fun j k hf=>?_⟩
    obtain ⟨o,y,hx,hF⟩:=k5 j k b hf
    exact hb.2.2 o y hx hF
   refine ⟨fun o ob ho=>?_,fun o ep ob ho=>?_,hres,fun o y b ho hb=>hs'.range o y b (hsub o y ho) hb,k2,fun o o' y y' b hne ho ho'=>hs'.apart o o' y y' b hne (hsub o y ho) (hsub o' y' ho'),k3,k4⟩
   ·have hm:=List.contains_iff_mem.1 (List.all_eq_true.1 h8 o (ZjC ho))
    obtain ⟨⟨ep',ob'⟩,hx⟩:=Zct (List.contains_iff_mem.2 hm)
    refine ⟨ep',ob',hx,?_⟩
    rcases hs'.hist o ob ho ep' ob' (hsub o _ hx) with h9|h9
    ·exact .inl h9
    ·exact (Nat.eq_zero_or_pos ep').elim (fun h=>.inr ⟨h.symm,h9⟩) .inl
   ·refine (hs'.objs o ep ob (hsub o _ ho)).goes_weak (fun y u hx hc=>hc.weak hFr fun i hi=>?_) (fun y u hr=>hr.mono hFr fun _ _=>rfl)
    have hm:i ∈ (O x).flatMap fun p=>ZgB p.2.2:=List.mem_flatMap.2 ⟨_,Zbw ho,hx i hi⟩
    obtain ⟨y,hy⟩:=Zct (List.all_eq_true.1 h7 i hm)
    rw [hy,hsub i y hy]
  refine ⟨hs'.below,?_⟩
  rcases h2 with ⟨q1,q2,q3⟩|⟨q1,q2,q3,q4⟩
  ·subst q2
   have hfr:∀ b,Free B (En.o ⟨w,MSet objs F,objs,pl⟩) (look st'.objs) F' w' b→FrM B (En.o ⟨w,MSet objs F,objs,pl⟩) w' (look (O x)) F' (fun _ _ _=>False) b:=fun b hb=>⟨hb.1,hb.2.1,fun o y ho=>hb.2.2 o y (hsub o y ho),fun _ _ h=>h⟩
   refine ⟨fun _ _ _=>False,key _ (fun _ _ _ h=>h.elim) (fun _ _ _ h=>h.elim) (fun _ _ _ _ _ _ h=>h.elim) (fun _ _ _ _ _ _ h=>h.elim) ?_⟩
   unfold R2m
   rw [if_pos q1]
   have g3:C0 P w' (look st'.objs) pl' (Free B (En.o ⟨w,MSet objs F,objs,pl⟩) (look st'.objs) F' w') (R x) u:=by
    revert q1 g2
    cases R x<;>first|(intro _ h;exact h)|(intro h;cases h)
   refine g3.weak hfr fun o ho=>?_
   obtain ⟨y,hy⟩:=Zct (List.all_eq_true.1 q3 o ho)
   rw [hy,hsub o y hy]
  ·have hnot:∀ o,o ∈ ids2 v→¬ ∃ y,look (O x) o=some y:=fun o ho ⟨y,hy⟩=>by
    have:=List.all_eq_true.1 q4 o ho
    have h9:(idsL (O x)).contains o=true:=List.contains_iff_mem.2 (ZjC hy)
    rw [h9] at this
    cases this
   obtain ⟨FF,k1,k2,k3,k4,k5⟩:=hs'.giv_x g2 q2 q3 (X:=fun o=>∃ y,look (O x) o=some y) hnot
   have e1:(fun b=>(B b∨En.o ⟨w,MSet objs F,objs,pl⟩ b)∧b < w'.heap.size∧(∀ o y,(∃ y,look (O x) o=some y)→look st'.objs o=some y→¬ F' o b)∧∀ j k,¬ FF j k b)=FrM B (En.o ⟨w,MSet objs F,objs,pl⟩) w' (look (O x)) F' FF:=by
    funext b
    refine propext ⟨fun h=>⟨h.1,h.2.1,fun o y ho=>h.2.2.1 o y ⟨y,ho⟩ (hsub o y ho),h.2.2.2⟩,fun h=>⟨h.1,h.2.1,fun o z ⟨y,hy⟩ _=>h.2.2.1 o y hy,h.2.2.2⟩⟩
   refine ⟨FF,key FF k5 k2 k3 (fun o y j k b ho hb=>k4 o y j k b ⟨y,ho⟩ (hsub o y ho) hb) ?_⟩
   unfold R2m
   rw [if_neg (by rw [q1];decide),← e1]
   exact k1
 obtain ⟨hK',FF,hM⟩:=hE'
 rcases he with rfl|rfl
 ·exact ⟨hs'.defers,u,g1,x,u,pl',F',FF,hx,rfl,hK',hM⟩
 ·exact ⟨hs'.defers,u,g1,x,u,pl',F',FF,hx,rfl,hK',hM⟩
theorem AM.body {f:FuncId} {fn:Func} {c:Code} {aS:List V} {objs objs':List (Nat×Nat×Ob)} {r:V} (hf:P.funcs[f]?=some fn) (hb:fn.body=some c) (hn:(fn.name == "runtime.NumGoroutine")=false) {rl:List ResultVar} (hrl:fn.results=rl.toArray) {n:Nat} (hnt:fn.ntmps=n) (hnn:aS.length≤n) (h0:(objs.all fun x=>Nat.beq x.2.1 0)=true)
  (h:∀ B (W:En),(∃ pl Fr us,Pw (C1 P W.toWorld (look objs) pl Fr) aS us)→aW P B W c (Zbu P rl objs objs' r) ⟨n,argT 0 aS,objs⟩):AM P f objs aS objs' r :=
 AMP.body hf hb hn hrl hnt hnn h0 fun B W hr=>(h B W hr).mono fun e st hd=>⟨(),trivial,hd⟩
def ren (m:List (Nat×Nat×Nat)) (o:Nat):Nat×Nat:=match m with|[]=>(o,0)|(i,j,d) :: r=>match Nat.beq i o with|true=>(j,d)|false=>ren r o
def ZfA (m:List (Nat×Nat×Nat)):V→V
 | .hnd o ep=>.hnd (ren m o).1 ((ren m o).2 + ep)
 | .ptr o ep i off=>.ptr (ren m o).1 ((ren m o).2 + ep) i off
 | .view o ep i n=>.view (ren m o).1 ((ren m o).2 + ep) i n
 | v=>v
def ZgE (m:List (Nat×Nat×Nat)):List V→List V
 | []=>[]
 | v :: r=>ZfA m v :: ZgE m r
theorem ZjH (m:List (Nat×Nat×Nat)):∀ (cs:List V) (k:Nat),(ZgE m cs)[k]?=(cs[k]?).map (ZfA m)
 | [],k=>by simp [ZgE]
 | v :: r,0=>by simp [ZgE]
 | v :: r,k + 1=>by simp [ZgE,ZjH m r k]
theorem ZhV (m:List (Nat×Nat×Nat)):∀ (cs:List V),(ZgE m cs).length=cs.length
 | []=>rfl
 | v :: r=>by simp [ZgE,ZhV m r]
def Zeb (m:List (Nat×Nat×Nat)):Ob→Ob
 | .box ty cs=>.box ty (ZgE m cs)
 | .hole e els q x=>.hole e els q (ZfA m x)
 | .row fl d e els=>.row fl d e els
 | .gone=>.gone
theorem ZbP (m:List (Nat×Nat×Nat)) (ob:Ob):(Zeb m ob).isRow=ob.isRow∧esz P (Zeb m ob)=esz P ob:=by cases ob<;>exact ⟨rfl,rfl⟩
def renO (m:List (Nat×Nat×Nat)):List (Nat×Nat×Ob)→List (Nat×Nat×Ob)
 | []=>[]
 | (o,e,b) :: r=>((ren m o).1,(ren m o).2 + e,Zeb m b) :: renO m r
theorem Zf2 {m:List (Nat×Nat×Nat)}:∀ {l:List (Nat×Nat×Ob)} {i e:Nat} {b:Ob},(i,e,b) ∈ renO m l↔∃ o e0 b0,(o,e0,b0) ∈ l∧i=(ren m o).1∧e=(ren m o).2 + e0∧b=Zeb m b0
 | [],i,e,b=>by simp [renO]
 | (o,e0,b0) :: r,i,e,b=>by
  unfold renO
  rw [List.mem_cons,Zf2]
  constructor
  ·rintro (h|⟨o',e',b',h,h'⟩)
   ·cases h;exact ⟨o,e0,b0,by simp,rfl,rfl,rfl⟩
   ·exact ⟨o',e',b',by simp [h],h'⟩
  ·rintro ⟨o',e',b',h,rfl,rfl,rfl⟩
   rcases List.mem_cons.1 h with h|h
   ·cases h;exact .inl rfl
   ·exact .inr ⟨o',e',b',h,rfl,rfl,rfl⟩
section
variable {w w':World} {m:List (Nat×Nat×Nat)} {lk lk' lkc:Nat→Option (Nat×Ob)} {pl pl' plc:Nat→Value} {Fr Fr':Nat→Prop}
theorem C0.renm {v:V} {u:Value} (hl:∀ o ep ob,lkc o=some (ep,ob)→lk (ren m o).1=some ((ren m o).2 + ep,Zeb m ob)∧pl (ren m o).1=plc o) (hT:∀ y,v=.t y→Rd P w Fr' y u→Rd P w Fr y u) (hR:∀ cs off,v=.rptr cs off→∀ b,Fr' b→Fr b)
  (h:C0 P w lkc plc Fr' v u):C0 P w lk pl Fr (ZfA m v) u:=by
 cases v with
 | t x=>exact hT x rfl h
 | hnd o ep =>
  obtain ⟨h1,ep',ob,h2,h3,h4⟩:=h
  obtain ⟨g1,g2⟩:=hl o ep' ob h2
  refine ⟨h1,_,_,g1,by omega,fun e=>?_⟩
  obtain ⟨h5,h6⟩:=h4 (by omega)
  exact ⟨(ZbP (P:=P) m ob).1.trans h5,h6.trans g2.symm⟩
 | ptr o ep i off =>
  obtain ⟨h1,ep',ob,h2,h3,h4⟩:=h
  obtain ⟨g1,g2⟩:=hl o ep' ob h2
  refine ⟨h1,_,_,g1,by omega,fun e=>?_⟩
  obtain ⟨g,b,h5,h6⟩:=h4 (by omega)
  exact ⟨g,b,by rw [g2];exact h5,by rw [(ZbP m ob).2];exact h6⟩
 | view o ep i n =>
  obtain ⟨h1,ep',ob,h2,h3,h4⟩:=h
  obtain ⟨g1,g2⟩:=hl o ep' ob h2
  refine ⟨h1,_,_,g1,by omega,fun e=>?_⟩
  obtain ⟨h5,A,c,h6,h7,h8,h9⟩:=h4 (by omega)
  refine ⟨(ZbP (P:=P) m ob).1.trans h5,A,c,h6,h7,h8,fun hn=>?_⟩
  obtain ⟨g,b,h10,h11⟩:=h9 hn
  exact ⟨g,b,by rw [g2];exact h10,by rw [(ZbP m ob).2];exact h11⟩
 | rptr cs off =>
  obtain ⟨ad,h1,h2⟩:=h
  refine ⟨ad,h1,fun j x hx=>?_⟩
  obtain ⟨h3,y,h4,h5⟩:=h2 j x hx
  exact ⟨hR _ _ rfl _ h3,y,h4,h5.mono (hR _ _ rfl) fun _ _=>rfl⟩
 | lit=>exact h
 | junk=>trivial
 | agg=>exact h
 | tup=>exact h
 | fr=>exact h
theorem C0.unren {v:V} {u:Value} (hl:∀ o,o ∈ ids0 v→∃ ob,lkc o=some (0,ob)∧lk (ren m o).1=some ((ren m o).2,Zeb m ob)∧pl (ren m o).1=plc o) (hF:∀ b,Fr b→Fr' b)
  (h:C0 P w lk pl Fr (ZfA m v) u):C0 P w lkc plc Fr' v u:=by
 cases v with
 | t x=>exact Rd.mono h hF fun _ _=>rfl
 | hnd o ep =>
  obtain ⟨h1,ep',ob',h2,h3,h4⟩:=h
  obtain ⟨ob,g1,g2,g3⟩:=hl o (by simp [ids0])
  rw [g2] at h2
  cases h2
  refine ⟨h1,_,_,g1,by omega,fun e=>?_⟩
  obtain ⟨h5,h6⟩:=h4 (by omega)
  exact ⟨(ZbP (P:=P) m ob).1.symm.trans h5,h6.trans g3⟩
 | ptr o ep i off =>
  obtain ⟨h1,ep',ob',h2,h3,h4⟩:=h
  obtain ⟨ob,g1,g2,g3⟩:=hl o (by simp [ids0])
  rw [g2] at h2
  cases h2
  refine ⟨h1,_,_,g1,by omega,fun e=>?_⟩
  obtain ⟨g,b,h5,h6⟩:=h4 (by omega)
  exact ⟨g,b,by rw [← g3];exact h5,by rw [(ZbP m ob).2] at h6;exact h6⟩
 | view o ep i n =>
  obtain ⟨h1,ep',ob',h2,h3,h4⟩:=h
  obtain ⟨ob,g1,g2,g3⟩:=hl o (by simp [ids0])
  rw [g2] at h2
  cases h2
  refine ⟨h1,_,_,g1,by omega,fun e=>?_⟩
  obtain ⟨h5,A,c,h6,h7,h8,h9⟩:=h4 (by omega)
  refine ⟨(ZbP (P:=P) m ob).1.symm.trans h5,A,c,h6,h7,h8,fun hn=>?_⟩
  obtain ⟨g,b,h10,h11⟩:=h9 hn
  exact ⟨g,b,by rw [← g3];exact h10,by rw [(ZbP m ob).2] at h11;exact h11⟩
 | rptr cs off =>
  obtain ⟨ad,h1,h2⟩:=h
  refine ⟨ad,h1,fun j x hx=>?_⟩
  obtain ⟨h3,y,h4,h5⟩:=h2 j x hx
  exact ⟨hF _ h3,y,h4,h5.mono hF fun _ _=>rfl⟩
 | lit=>exact h
 | junk=>trivial
 | agg=>exact h
 | tup=>exact h
 | fr=>exact h
theorem ObR.unren {Rr Rr':T→Value→Prop} {CC CC':V→Value→Prop} {v:Value} {F:Nat→Prop} {ob:Ob} (hC:∀ x u,(∀ i,i ∈ ids0 x→i ∈ ZgB ob)→CC (ZfA m x) u→CC' x u) (hR:∀ x u,Rr x u→Rr' x u)
  (h:ObR P w CC Rr v F (Zeb m ob)):ObR P w CC' Rr' v F ob:=by
 cases ob with
 | box ty cs =>
  obtain ⟨g,us,h1,h2,h3,h4,h5⟩:=h
  refine ⟨g,us,h1,h2,h3,by rw [h4,ZhV],fun k x u hx hu=>hC _ _ (fun i hi=>List.mem_flatMap.2 ⟨x,List.mem_of_getElem? hx,hi⟩) (h5 k _ u (by rw [ZjH,hx];rfl) hu)⟩
 | row fl d e els =>
  rcases h with ⟨hd,h⟩|⟨hd,us,h1,h2,h3,h4,h5,h6⟩
  ·exact .inl ⟨hd,h⟩
  ·exact .inr ⟨hd,us,h1,h2,h3,h4,fun k x u hx hu=>hR _ _ (h5 k x u hx hu),h6⟩
 | hole e els q x =>
  obtain ⟨us,fs,h1,h2,h3,h4,h5,h6⟩:=h
  exact ⟨us,fs,h1,h2,h3,h4,fun u hu=>hC _ _ (fun i hi=>hi) (h5 u hu),h6⟩
 | gone=>exact h
theorem ObR.renm {Rr Rr':T→Value→Prop} {CC CC':V→Value→Prop} {v:Value} {F:Nat→Prop} {ob:Ob} (hC:∀ x u,(match ob with | .box _ cs=>x ∈ cs | .hole _ _ _ y=>x=y|_=>False)→CC x u→CC' (ZfA m x) u) (hR:(match ob with | .row _ d _ _=>d=false|_=>False)→∀ x u,Rr x u→Rr' x u)
  (h:ObR P w CC Rr v F ob):ObR P w CC' Rr' v F (Zeb m ob):=by
 cases ob with
 | box ty cs =>
  obtain ⟨g,us,h1,h2,h3,h4,h5⟩:=h
  refine ⟨g,us,h1,h2,h3,by rw [h4,ZhV],fun k x u hx hu=>?_⟩
  rw [ZjH,Option.map_eq_some_iff] at hx
  obtain ⟨y,hy,rfl⟩:=hx
  exact hC y u (List.mem_of_getElem? hy) (h5 k y u hy hu)
 | row fl d e els =>
  rcases h with ⟨hd,h⟩|⟨hd,us,h1,h2,h3,h4,h5,h6⟩
  ·exact .inl ⟨hd,h⟩
  ·exact .inr ⟨hd,us,h1,h2,h3,h4,fun k x u hx hu=>hR hd _ _ (h5 k x u hx hu),h6⟩
 | hole e els q x =>
  obtain ⟨us,fs,h1,h2,h3,h4,h5,h6⟩:=h
  exact ⟨us,fs,h1,h2,h3,h4,fun u hu=>hC _ _ rfl (h5 u hu),h6⟩
 | gone=>exact h
end
end
section
variable {P:Program} {B:Nat→Prop} {W:En} {o:Oper} {os:List Nat} {st:St} {KE:V→List (Nat×Nat×Ob)→Prop}
def bnd (st:St) (x:Option Operand) (dflt:Int):Option Int :=
 match x with
 | none=>some dflt
 | some x=>match st.ev x with | .t (.int _ n)=>some n|_=>none
theorem SimW.bnd {a:Act} {w:World} {pl:Nat→Value} {F:Nat→Nat→Prop} (h:SimW P B W st a w pl F) {x:Option Operand} {d n:Int} (hb:bnd st x d=some n):(x=none∧n=d)∨∃ k,x.map a.eval=some (.int k n):=by
 cases x with
 | none=>cases hb;exact .inl ⟨rfl,rfl⟩
 | some x =>
  simp only [Ab.bnd] at hb
  split at hb
  ·rename_i k m hx
   cases hb
   exact .inr ⟨k,by rw [Option.map_some,(h.int_at hx).1]⟩
  ·cases hb
theorem ZiU {w:World} {isS:Bool} {len cap:Nat} {lo hi:Option Value} {l h:Int} (hl:(lo=none∧l=0)∨∃ k,lo=some (.int k l)) (hh:(hi=none∧h=len)∨∃ k,hi=some (.int k h)) (h0:0≤l) (h1:l≤h) (h2:h≤cap) :
  (Instr.sliceBounds isS len cap lo hi none).run P w=.ok (l.toNat,h.toNat,cap) w:=by
 have eh:(h.toNat:Int)=h:=Int.toNat_of_nonneg (by omega)
 have b1:∀ (k:IntKind) (code:BoundsCode),(Instr.sliceBound (.int k h) cap code).run P w=.ok h.toNat w:=fun k code=>run_sliceBound w k h cap code (by omega) h2
 have b2:∀ (k:IntKind) (code:BoundsCode),(Instr.sliceBound (.int k l) h.toNat code).run P w=.ok l.toNat w:=fun k code=>run_sliceBound w k l h.toNat code h0 (by omega)
 have b3:∀ (k:IntKind) (code:BoundsCode),(Instr.sliceBound (.int k l) len code).run P w=.ok l.toNat w∨¬ h=len:=fun k code=>by
  by_cases e:h=len
  ·exact .inl (run_sliceBound w k l len code h0 (by omega))
  ·exact .inr e
 rcases hl with ⟨rfl,rfl⟩|⟨kl,rfl⟩<;>rcases hh with ⟨rfl,rfl⟩|⟨kh,rfl⟩
 ·simp [Instr.sliceBounds]
 ·cases isS<;>simp [Instr.sliceBounds,b1]
 ·have b4:∀ (code:BoundsCode),(Instr.sliceBound (.int kl l) len code).run P w=.ok l.toNat w:=fun code=>(b3 kl code).resolve_right (by simp)
  simp [Instr.sliceBounds,b4]
 ·cases isS<;>simp [Instr.sliceBounds,b1,b2]
theorem ZdP {t:TypeId} {x:Operand} {lo hi:Option Operand} {a:Act} {w:World} {pl:Nat→Value} {F:Nat→Nat→Prop} (h:SimW P B W st a w pl F) {e es eb:Nat} {y:Ty} (ho:o.op=.slice t x lo hi none) (hy:Zac P t=some y) (hk:y.k=.slice e es eb) (hes:es ≠ 0) {A:Option Addr} {n c:Nat} (hx:a.eval x=.slice A n c) {l hh:Int} (hl:bnd st lo 0=some l) (hh':bnd st hi n=some hh)
  (h0:0≤l) (h1:l≤hh) (h2:hh≤c) (w':World):(execOp a.eval o).run P w'=.ok (.value (sliced A l.toNat hh.toNat c es)) w':=by
 obtain ⟨g1,g2,g3⟩:=ZaM hy hk
 have hel:P.elem t=e:=by simp [Program.elem,g1]
 have ht:P.underlying t=some (.slice (P.elem t)):=by rw [hel];exact g1
 have hsz:(sizeOf (P.elem t)).run P w'=.ok es w':=by
  rw [hel]
  subst g2
  unfold Program.cellsOf at hes ⊢
  unfold sizeOf typeInfo
  cases hi:P.info? e with
  | none=>rw [hi] at hes;exact absurd rfl hes
  | some i=>simp [hi]
 unfold execOp
 rw [ho]
 refine Zap ?_
 have hb:=ZiU (P:=P) (w:=w') (isS:=true) (len:=n) (cap:=c) (lo:=lo.map a.eval) (hi:=hi.map a.eval) ((h.bnd hl).imp (fun q=>⟨by rw [q.1];rfl,q.2⟩) id) ((h.bnd hh').imp (fun q=>⟨by rw [q.1];rfl,q.2⟩) id) h0 h1 h2
 rw [hx,run_sliceAt_slice w' t _ _ _ _ ht]
 show (Instr.slice t (.slice A n c) (lo.map a.eval) (hi.map a.eval) none).run P w'=_
 rw [run_slice_any w' t A n c ht,hb,Result.andThen_ok,hsz,Result.andThen_ok]
theorem Zjt {α β:Type} (f:α→β) (xs:List α) (a b:Nat):((xs.map f).drop a).take b=((xs.drop a).take b).map f:=by rw [← List.map_drop,← List.map_take]
theorem Zgg (A:Option Addr) (l h c es:Nat):sliced A l h c es=.slice (if c=l then A else A.map (·.add (l * es))) (h - l) (c - l):=rfl
theorem OpQ.slice_lst {t:TypeId} {x:Operand} {lo hi:Option Operand} {fl:Bool} {e es eb e':Nat} {els:List (List T)} {y:Ty} {l h:Int} (ho:o.op=.slice t x lo hi none) (hx:st.ev x=.t (.lst fl e' els)) (hy:Zac P t=some y) (hk:y.k=.slice e es eb) (hes:es ≠ 0) (he:e'=e)
  {n:Nat} (hn0:els.length=n) (hl:bnd st lo 0=some l) (hh:bnd st hi n=some h) (h0:0≤l∧l≤h∧h≤n) {els2:List (List T)} (h2:(els.drop l.toNat).take (h.toNat - l.toNat)=els2) (hK:KE (.t (.lst fl e' els2)) []):OpQ P B W o os st KE :=
 OpQ.pure_ hK fun a w pl F hs=>by
  subst he hn0 h2
  obtain ⟨A,c,us,h1,h2,h3,h4,h5,h6,h7,h8⟩:=hs.lst_at hx
  have hes':P.cellsOf e'=es:=(ZaM hy hk).2.1
  refine ⟨_,ZdP hs ho hy hk hes h1 hl hh h0.1 h0.2.1 (by omega),?_⟩
  generalize hln:l.toNat=ln
  generalize hhn:h.toNat=hn
  have b1:ln≤hn:=by omega
  have b2:hn≤els.length:=by omega
  have hnl:((els.drop ln).take (hn - ln)).length=hn - ln:=by rw [List.length_take,List.length_drop];omega
  have hcut:=ZcF h4 ln (hn - ln)
  have hsub:∀ (k:Nat) (x:T),((els.drop ln).take (hn - ln)).flatten[k]?=some x→els.flatten[ln * P.cellsOf e' + k]?=some x:=fun k x hx=>by
   rw [hcut,List.getElem?_take] at hx
   split at hx
   ·rw [List.getElem?_drop] at hx;exact hx
   ·cases hx
  have hsubu:∀ (k:Nat) (u:Value),((us.drop (ln * P.cellsOf e')).take ((hn - ln) * P.cellsOf e'))[k]?=some u→us[ln * P.cellsOf e' + k]?=some u:=fun k u hx=>by
   rw [List.getElem?_take] at hx
   split at hx
   ·rw [List.getElem?_drop] at hx;exact hx
   ·cases hx
  rw [Zgg]
  show Rd P w (Free B W.o (look st.objs) F w) (.lst fl e' ((els.drop ln).take (hn - ln))) (.slice _ (hn - ln) (c - ln))
  have hgoal:Rd P w (Free B W.o (look st.objs) F w) (.lst fl e' ((els.drop ln).take (hn - ln))) (.slice (if c=ln then A else A.map (·.add (ln * es))) ((els.drop ln).take (hn - ln)).length (c - ln)):=?_
  ·rwa [hnl] at hgoal
  refine .lst ((us.drop (ln * P.cellsOf e')).take ((hn - ln) * P.cellsOf e')) (by rw [hnl];omega) (Nat.le_trans (Nat.sub_le _ _) h3) (fun x hx=>h4 x (List.mem_of_mem_drop (List.mem_of_mem_take hx))) (fun hf x hx=>?_) ?_ (fun hne=>?_) fun k x u hx hv=>h8 _ x u (hsub k x hx) (hsubu k u hv)
  ·obtain ⟨k,hk,rfl⟩:=List.getElem_of_mem hx
   exact h5 hf _ (List.mem_of_getElem? (hsub k _ (List.getElem?_eq_getElem hk)))
  ·rw [hcut,List.length_take,List.length_drop,List.length_take,List.length_drop,h6]
  ·have hn0:0 < hn - ln:=Nat.pos_of_ne_zero fun e=>hne (by rw [e];simp)
   have husn:us ≠ []:=fun e=>hne (by rw [e];simp)
   obtain ⟨ad,rfl,g5,g6⟩:=h7 husn
   have hcn:c ≠ ln:=by omega
   rw [if_neg hcn]
   refine ⟨_,rfl,by rw [Za0];exact g5,fun k u hk=>?_⟩
   rw [Zc7,← hes']
   exact g6 _ u (hsubu k u hk)
theorem OpQ.slice_str {t:TypeId} {x:Operand} {lo hi:Option Operand} {s:List UInt8} {y:Ty} {l h:Int} (ho:o.op=.slice t x lo hi none) (hx:st.ev x=.t (.str s)) (hy:Zac P t=some y) (hk:y.k=.str)
  (hl:bnd st lo 0=some l) (hh:bnd st hi s.length=some h) (h0:0≤l∧l≤h∧h≤s.length) (hK:KE (.t (.str ((s.drop l.toNat).take (h.toNat - l.toNat)))) []):OpQ P B W o os st KE :=
 OpQ.pure_ hK fun a w pl F hs=>by
  obtain ⟨d,i,g1,_,g2,_⟩:=Zaw hy
  have g3:d=.string:=by rw [hk] at g2;cases d<;>simp [kdOf] at g2 ⊢
  subst g3
  obtain ⟨g4,g5⟩:=hs.str_at hx
  refine ⟨.string (bs ((s.drop l.toNat).take (h.toNat - l.toNat))),fun w'=>?_,Rd.str (by rw [List.length_take,List.length_drop];omega)⟩
  unfold execOp
  rw [ho]
  refine Zap ?_
  have hb:=ZiU (P:=P) (w:=w') (isS:=false) (len:=s.length) (cap:=s.length) (lo:=lo.map a.eval) (hi:=hi.map a.eval) ((hs.bnd hl).imp (fun q=>⟨by rw [q.1];rfl,q.2⟩) id) ((hs.bnd hh).imp (fun q=>⟨by rw [q.1];rfl,q.2⟩) id) h0.1 h0.2.1 (by omega)
  rw [g4,run_sliceAt_string w' t _ _ _ _ g1]
  show (Instr.slice t (.string (bs s)) (lo.map a.eval) (hi.map a.eval) none).run P w'=_
  simp only [Instr.slice,Sem.run_bind,run_underlying g1,Result.andThen_ok]
  simp only [Option.isSome_none,Bool.false_eq_true,if_false,Zb5,Sem.run_bind,hb,Result.andThen_ok,Sem.run_pure]
  congr 2
  apply ByteArray.ext
  rw [ByteArray.data_extract]
  apply Array.ext'
  simp [bs,List.extract]
theorem OpQ.slice_hnd {t:TypeId} {x:Operand} {lo hi:Option Operand} {i ep:Nat} {fl d:Bool} {e es eb e':Nat} {els:List (List T)} {y:Ty} {l h:Int} (ho:o.op=.slice t x lo hi none) (hx:st.ev x=.hnd i ep) (hlk:look st.objs i=some (ep,.row fl d e' els)) (hy:Zac P t=some y) (hk:y.k=.slice e es eb) (hes:es ≠ 0) (he:e'=e)
  {n:Nat} (hn0:els.length=n) (hl:bnd st lo 0=some l) (hh:bnd st hi n=some h) (h0:0≤l∧l≤h∧h≤n) (hK:KE (.view i ep l.toNat (h.toNat - l.toNat)) []):OpQ P B W o os st KE :=
 OpQ.pure_ hK fun a w pl F hs=>by
  subst he hn0
  obtain ⟨g1,us,hp⟩:=hs.hnd_at hx hlk
  obtain ⟨A,c,g2,g3,g4,g5⟩:=hp.slice
  have hes':P.cellsOf e'=es:=(ZaM hy hk).2.1
  refine ⟨_,ZdP hs ho hy hk hes (g1.trans g2) hl hh h0.1 h0.2.1 (by omega),rfl,_,_,hlk,Nat.le_refl _,fun _=>⟨rfl,_,_,Zgg _ _ _ _ _,by omega,by omega,fun hn=>?_⟩⟩
  have husn:us ≠ []:=fun e=>by
   have:=hp.len
   rw [e,ZaE hp.uni,hes',List.length_nil] at this
   have:=Nat.mul_pos (show 0 < els.length by omega) (Nat.pos_of_ne_zero hes)
   omega
  obtain ⟨g,off,rfl,_,g6,_⟩:=g5 husn
  have hcn:c ≠ l.toNat:=by omega
  refine ⟨g,off,g6,?_⟩
  rw [if_neg hcn]
  show some ((⟨g,off,none⟩:Addr).add _)=_
  rw [ZaS]
  simp [esz,hes']
theorem SimW.view_at {a:Act} {w:World} {pl:Nat→Value} {F:Nat→Nat→Prop} (h:SimW P B W st a w pl F) {x:Operand} {i ep j n:Nat} {fl d:Bool} {e:TypeId} {els:List (List T)} (hx:st.ev x=.view i ep j n) (hl:look st.objs i=some (ep,.row fl d e els)) :
  ∃ A c us,a.eval x=.slice A n c∧n≤c∧c≤maxLen∧RowP P w (Free B W.o (look st.objs) F w) (pl i) (F i) fl d e els us∧(0 < n→∃ g b,blk (pl i)=some (g,b)∧(pl i).ownBlock=some g∧A=some ⟨g,b + j * P.cellsOf e,none⟩):=by
 have h1:=h.ev x
 rw [hx] at h1
 obtain ⟨_,ep',ob,h2,h3,h4⟩:C0 P w (look st.objs) pl (Free B W.o (look st.objs) F w) (.view i ep j n) (a.eval x):=h1
 rw [hl] at h2
 cases h2
 obtain ⟨_,A,c,hu,hc1,hc2,hA⟩:=h4 rfl
 obtain ⟨us,hp⟩:=ZbX (h.objs i _ _ hl)
 refine ⟨A,c,us,hu,hc1,hc2,hp,fun hn=>?_⟩
 obtain ⟨g,b,h5,h6⟩:=hA hn
 refine ⟨g,b,h5,?_,h6⟩
 obtain ⟨A',c',h7,_⟩:=hp.slice
 rw [h7] at h5 ⊢
 cases A' with
 | none=>cases h5
 | some ad =>
  obtain ⟨gg,oo,pp⟩:=ad
  cases pp with
  | none=>cases h5;rfl
  | some=>cases h5
theorem qa698 {x:Operand} {t:TypeId} {c:Call} {i ep j n:Nat} {fl d:Bool} {e':Nat} {els:List (List T)} {e es eb:Nat} {y:Ty} (hK:KE (.t (.int .i64 n)) []) (ho:o.op=.call c:=by exact rfl) (h1:c.callee=.builtin .len:=by exact rfl) (h2:c.args=#[x]:=by exact rfl) (h3:c.argTypes=#[t]:=by exact rfl) (hy:Zac P t=some y:=by exact Tryz.ti rfl) (hk:y.k=.slice e es eb:=by exact rfl) (hx:st.ev x=.view i ep j n:=by exact rfl) (hl:look st.objs i=some (ep,.row fl d e' els):=by exact rfl):OpQ P B W o os st KE:=
 OpQ.pure_ hK fun a w pl F hs=>by
  obtain ⟨A,cc,us,g1,g2,g3,hp,g4⟩:=hs.view_at hx hl
  exact ⟨_,fun _=>Zdz ho h1 h2 h3 hy hk g1,Rd.int (ZeU (Nat.le_trans g2 g3))⟩
theorem OpQ.index_view {t:TypeId} {x ix:Operand} {i ep j m:Nat} {fl d:Bool} {els:List (List T)} {n:Int} {k:IntKind} {e es eb e' q:Nat} {y:Ty} (ho:o.op=.indexAddr t x ix) (hx:st.ev x=.view i ep j m) (hl:look st.objs i=some (ep,.row fl d e' els)) (hi:st.ev ix=.t (.int k n)) (hy:Zac P t=some y) (hk:y.k=.slice e es eb) (hes:es ≠ 0) (he:e'=e)
  (hn:n=(q:Int)) (hlt:q < m) (hK:KE (.ptr i ep (j + q) 0) []):OpQ P B W o os st KE :=
 OpQ.pure_ hK fun a w pl F hs=>by
  subst he hn
  obtain ⟨A,c,us,g1,g2,g3,hp,g4⟩:=hs.view_at hx hl
  have hes':P.cellsOf e'=es:=(ZaM hy hk).2.1
  obtain ⟨g,b,g5,_,rfl⟩:=g4 (by omega)
  refine ⟨_,fun _=>ZbR ho hy hk hes g1 (hs.int_at hi).1 (by omega),rfl,_,_,hl,Nat.le_refl _,fun _=>⟨g,b,g5,?_⟩⟩
  rw [ZaS,Int.toNat_natCast,← hes']
  simp [esz,Nat.add_mul,Nat.add_assoc]
theorem OpS.slice_lst {t:TypeId} {x:Operand} {lo hi:Option Operand} {fl:Bool} {e es eb e':Nat} {els:List (List T)} {y:Ty} {l h:Int} (ho:o.op=.slice t x lo hi none) (hx:st.ev x=.t (.lst fl e' els)) (hy:Zac P t=some y) (hk:y.k=.slice e es eb) (hes:es ≠ 0) (he:e'=e)
  {n:Nat} (hn0:els.length=n) (hl:bnd st lo 0=some l) (hh:bnd st hi n=some h) (h0:0≤l∧l≤h∧h≤n) {els2:List (List T)} (h2:(els.drop l.toNat).take (h.toNat - l.toNat)=els2) (hK:KE (.t (.lst fl e' els2)) []):OpS P B W o st KE:=(OpQ.slice_lst ho hx hy hk hes he hn0 hl hh h0 h2 hK).s
theorem OpS.slice_str {t:TypeId} {x:Operand} {lo hi:Option Operand} {s:List UInt8} {y:Ty} {l h:Int} (ho:o.op=.slice t x lo hi none) (hx:st.ev x=.t (.str s)) (hy:Zac P t=some y) (hk:y.k=.str)
  (hl:bnd st lo 0=some l) (hh:bnd st hi s.length=some h) (h0:0≤l∧l≤h∧h≤s.length) (hK:KE (.t (.str ((s.drop l.toNat).take (h.toNat - l.toNat)))) []):OpS P B W o st KE:=(OpQ.slice_str ho hx hy hk hl hh h0 hK).s
theorem OpS.slice_hnd {t:TypeId} {x:Operand} {lo hi:Option Operand} {i ep:Nat} {fl d:Bool} {e es eb e':Nat} {els:List (List T)} {y:Ty} {l h:Int} (ho:o.op=.slice t x lo hi none) (hx:st.ev x=.hnd i ep) (hlk:look st.objs i=some (ep,.row fl d e' els)) (hy:Zac P t=some y) (hk:y.k=.slice e es eb) (hes:es ≠ 0) (he:e'=e)
  {n:Nat} (hn0:els.length=n) (hl:bnd st lo 0=some l) (hh:bnd st hi n=some h) (h0:0≤l∧l≤h∧h≤n) (hK:KE (.view i ep l.toNat (h.toNat - l.toNat)) []):OpS P B W o st KE:=(OpQ.slice_hnd ho hx hlk hy hk hes he hn0 hl hh h0 hK).s
theorem OpS.index_view {t:TypeId} {x ix:Operand} {i ep j m:Nat} {fl d:Bool} {els:List (List T)} {n:Int} {k:IntKind} {e es eb e' q:Nat} {y:Ty} (ho:o.op=.indexAddr t x ix) (hx:st.ev x=.view i ep j m) (hl:look st.objs i=some (ep,.row fl d e' els)) (hi:st.ev ix=.t (.int k n)) (hy:Zac P t=some y) (hk:y.k=.slice e es eb) (hes:es ≠ 0) (he:e'=e)
  (hn:n=(q:Int)) (hlt:q < m) (hK:KE (.ptr i ep (j + q) 0) []):OpS P B W o st KE:=(OpQ.index_view ho hx hl hi hy hk hes he hn hlt hK).s
theorem SimW.src_view {a:Act} {w:World} {pl:Nat→Value} {F:Nat→Nat→Prop} (h:SimW P B W st a w pl F) {x:Operand} {i ep j n:Nat} {fl d:Bool} {e:TypeId} {els:List (List T)} (hx:st.ev x=.view i ep j n) (hl:look st.objs i=some (ep,.row fl d e els)) (hf:fl=true∨d=false) (hjn:j + n≤els.length):Zdo P B W st a w F x (P.cellsOf e) ((els.drop j).take n) [] fl:=by
 obtain ⟨A,c,us,g1,g2,g3,hp,g4⟩:=h.view_at hx hl
 have hnl:((els.drop j).take n).length=n:=by rw [List.length_take,List.length_drop];omega
 have hcut:=ZcF hp.uni j n
 have hsub:∀ (k:Nat) (x:T),((els.drop j).take n).flatten[k]?=some x→els.flatten[j * P.cellsOf e + k]?=some x:=fun k x hx=>by
  rw [hcut,List.getElem?_take] at hx
  split at hx
  ·rw [List.getElem?_drop] at hx;exact hx
  ·cases hx
 have hsubu:∀ (k:Nat) (u:Value),((us.drop (j * P.cellsOf e)).take (n * P.cellsOf e))[k]?=some u→us[j * P.cellsOf e + k]?=some u:=fun k u hx=>by
  rw [List.getElem?_take] at hx
  split at hx
  ·rw [List.getElem?_drop] at hx;exact hx
  ·cases hx
 have hul:us.length=els.length * P.cellsOf e:=by rw [← hp.len,ZaE hp.uni]
 have hlen2:((us.drop (j * P.cellsOf e)).take (n * P.cellsOf e)).length=n * P.cellsOf e:=by
  rw [List.length_take,List.length_drop,hul]
  have:(j + n) * P.cellsOf e≤els.length * P.cellsOf e:=Nat.mul_le_mul_right _ hjn
  rw [Nat.add_mul] at this
  omega
 have hm:Mem w (fun _=>True) A ((us.drop (j * P.cellsOf e)).take (n * P.cellsOf e)):=fun hn=>by
  have hn0:0 < n:=Nat.pos_of_ne_zero fun e=>hn (by rw [e];simp)
  obtain ⟨g,b,hb,_,rfl⟩:=g4 hn0
  obtain ⟨A',c',_,_,_,g5⟩:=hp.slice
  have husn:us ≠ []:=fun e=>hn (by rw [e];simp)
  obtain ⟨g',off,_,_,g7,g6⟩:=g5 husn
  rw [g7] at hb
  cases hb
  exact ⟨_,rfl,trivial,fun k u hk=>by rw [ZaS,Nat.add_assoc];exact g6 _ u (hsubu k u hk)⟩
 refine ⟨(us.drop (j * P.cellsOf e)).take (n * P.cellsOf e),by rw [g1,hnl];rfl,fun k=>by rw [g1,hnl];exact ZcO hm hlen2 k,by rw [hnl];omega,?_⟩
 have hlen3:((us.drop (j * P.cellsOf e)).take (n * P.cellsOf e)).length=((els.drop j).take n).flatten.length:=by
  rw [hcut,List.length_take,List.length_drop,List.length_take,List.length_drop,hp.len]
 have hmem:∀ x ∈ ((els.drop j).take n).flatten,x ∈ els.flatten:=fun x hx=>by
  obtain ⟨k,hk,rfl⟩:=List.getElem_of_mem hx
  exact List.mem_of_getElem? (hsub k _ (List.getElem?_eq_getElem hk))
 cases fl with
 | true=>exact Zgx ⟨hlen3,fun k x u hx hu=>(hp.rd _ x u (hsub k x hx) (hsubu k u hu)).flat (hp.flt rfl _ (List.mem_of_getElem? (hsub k x hx)))⟩ (fun x hx=>hp.flt rfl x (hmem x hx)) _
 | false =>
  have hd:d=false:=hf.resolve_left (by simp)
  exact ZhC ⟨hlen3,fun k x u hx hu=>hp.shr hd _ x u (hsub k x hx) (hsubu k u hu)⟩
theorem ZbZ.cut {w:World} {e:TypeId} {es:Nat} {v:Value} {n c:Nat} {A:Option Addr} {us:List Value} (h:ZbZ w e es v n us) (hv:v=.slice A n c) {l hi:Nat} (h1:l≤hi) (h2:hi≤n) :
  ZbZ w e es (sliced A l hi c es) (hi - l) ((us.drop (l * es)).take ((hi - l) * es))∧(sliced A l hi c es).ownBlock=v.ownBlock:=by
 have hlen:((us.drop (l * es)).take ((hi - l) * es)).length=(hi - l) * es:=by
  rw [List.length_take,List.length_drop,h.1]
  have:hi * es≤n * es:=Nat.mul_le_mul_right _ h2
  rw [Nat.sub_mul]
  omega
 rw [Zgg]
 rcases h.2 with ⟨hn,h0⟩|⟨g,off,cap,cur,fz,hv',hg,hfz,hnc,hcm,hcs,ht⟩
 ·rw [hn] at hv
  cases hv
  have:l=0:=by omega
  have:hi=0:=by omega
  subst_vars
  exact ⟨⟨hlen,.inl ⟨by simp,by simp⟩⟩,by simp [Value.ownBlock]⟩
 ·rw [hv'] at hv
  cases hv
  by_cases hcl:c=l
  ·rw [if_pos hcl]
   refine ⟨⟨hlen,.inr ⟨g,off,c - l,cur,fz,rfl,hg,hfz,by omega,by omega,?_,?_⟩⟩,by rw [hv'];rfl⟩
   ·have:c - l=0:=by omega
    rw [this,Nat.zero_mul]
    omega
   ·have:hi - l=0:=by omega
    rw [this];simp
  ·rw [if_neg hcl]
   refine ⟨⟨hlen,.inr ⟨g,off + l * es,c - l,cur,fz,?_,hg,hfz,by omega,by omega,?_,?_⟩⟩,by rw [hv'];show (Value.slice (some ((⟨g,off,none⟩:Addr).add (l * es))) (hi - l) (c - l)).ownBlock=_;rw [ZaS];rfl⟩
   ·show Value.slice (some ((⟨g,off,none⟩:Addr).add (l * es))) (hi - l) (c - l)=_
    rw [ZaS]
   ·have h3:l * es + (c - l) * es=c * es:=by rw [← Nat.add_mul];congr 1;omega
    omega
   ·rw [← ht,List.drop_take,List.take_take,List.drop_drop]
    congr 1
    have:hi * es≤n * es:=Nat.mul_le_mul_right _ h2
    rw [Nat.sub_mul,Nat.min_eq_left]
    omega
theorem OpS.cut {t:TypeId} {x:Operand} {lo hi:Option Operand} {i ep:Nat} {fl d:Bool} {e es eb e':Nat} {els:List (List T)} {y:Ty} {l h:Int} (ho:o.op=.slice t x lo hi none) (hx:st.ev x=.hnd i ep) (hlk:look st.objs i=some (ep,.row fl d e' els)) (hy:Zac P t=some y) (hk:y.k=.slice e es eb) (hes:es ≠ 0) (he:e'=e)
  {n:Nat} (hn0:els.length=n) (hl:bnd st lo 0=some l) (hh:bnd st hi n=some h) (h0:0≤l∧l≤h∧h≤n) {els2:List (List T)} (h2:(els.drop l.toNat).take (h.toNat - l.toNat)=els2) (hK:KE (.hnd i (ep + 1)) [(i,ep + 1,.row fl d e' els2)]):OpS P B W o st KE:=by
 subst he hn0 h2
 refine OpS.chg (ks:=[]) (i:=i) (ep:=ep + 1) hK (fun x e h=>by cases h) fun a w pl F hs=>?_
 obtain ⟨g1,us0,hp⟩:=hs.hnd_at hx hlk
 obtain ⟨A,c,g2,g3,g4,g5⟩:=hp.slice
 have hes':P.cellsOf e'=es:=(ZaM hy hk).2.1
 have hrun:=ZdP hs ho hy hk hes (g1.trans g2) hl hh h0.1 h0.2.1 (by omega) w
 generalize hln:l.toNat=ln at *
 generalize hhn:h.toNat=hn at *
 have b1:ln≤hn:=by omega
 have b2:hn≤els.length:=by omega
 have hcu:=hp.own
 rw [hes'] at hcu
 obtain ⟨o1,o2⟩:=ZbZ.cut hcu g2 b1 b2
 have hnl:((els.drop ln).take (hn - ln)).length=hn - ln:=by rw [List.length_take,List.length_drop];omega
 have hcut:=ZcF hp.uni ln (hn - ln)
 have hsub:∀ (k:Nat) (x:T),((els.drop ln).take (hn - ln)).flatten[k]?=some x→els.flatten[ln * P.cellsOf e' + k]?=some x:=fun k x hx=>by
  rw [hcut,List.getElem?_take] at hx
  split at hx
  ·rw [List.getElem?_drop] at hx;exact hx
  ·cases hx
 have hsubu:∀ (k:Nat) (u:Value),((us0.drop (ln * es)).take ((hn - ln) * es))[k]?=some u→us0[ln * P.cellsOf e' + k]?=some u:=fun k u hx=>by
  rw [List.getElem?_take] at hx
  split at hx
  ·rw [List.getElem?_drop] at hx;rw [hes'];exact hx
  ·cases hx
 have huni:∀ x ∈ (els.drop ln).take (hn - ln),x.length=P.cellsOf e':=fun x hx=>hp.uni x (List.mem_of_mem_drop (List.mem_of_mem_take hx))
 have hflt:fl=true→∀ x ∈ ((els.drop ln).take (hn - ln)).flatten,x.flat=true:=fun hf x hx=>by
  obtain ⟨k,hk,rfl⟩:=List.getElem_of_mem hx
  exact hp.flt hf _ (List.mem_of_getElem? (hsub k _ (List.getElem?_eq_getElem hk)))
 have hlen3:((els.drop ln).take (hn - ln)).flatten.length=((us0.drop (ln * es)).take ((hn - ln) * es)).length:=by
  rw [hcut,hes',List.length_take,List.length_drop,List.length_take,List.length_drop,hp.len]
 have hown:ZbZ w e' (P.cellsOf e') (sliced A ln hn c es) ((els.drop ln).take (hn - ln)).length ((us0.drop (ln * es)).take ((hn - ln) * es)):=by rw [hnl,hes'];exact o1
 have hone:(sliced A ln hn c es).oneCell'=true:=rfl
 cases d with
 | false =>
  refine ⟨_,w,sliced A ln hn c es,fun b=>(sliced A ln hn c es).ownBlock=some b,_,hrun,.inl rfl,Kp.refl _ _,fun _ _ _=>rfl,fun ep0 ob0 h0=>.inl (by rw [hlk] at h0;cases h0;omega),fun _=>Nat.succ_pos _,fun b hb=>.inr (.inl ⟨_,hlk,hp.top b (by rw [← o2];exact hb)⟩),fun lk' pl' Fr' gg _ e1 e2=>⟨?_,hone,_,_,e1,Nat.le_refl _,fun _=>⟨rfl,e2.symm⟩⟩⟩
  exact .inr ⟨rfl,_,hown,huni,hflt,hlen3,fun k x u hx hu=>(hp.shr rfl _ x u (hsub k x hx) (hsubu k u hu)).mono gg.more gg.heap,fun b=>Iff.rfl⟩
 | true =>
  rcases hs.objs i _ _ hlk with ⟨_,h5⟩|⟨h5,_⟩
  case inr=>cases h5
  generalize hpl:pl i=vi at *
  cases h5 with
  | flat hf=>cases hf
  | lst us1 fs s1 s2 s3 s4 s5 s6 s7 s8 =>
  have hus:us1=us0:=s1.uniq hp.own
  subst hus
  refine ⟨_,w,sliced A ln hn c es,fun b=>(sliced A ln hn c es).ownBlock=some b∨∃ k,k < (hn - ln) * es∧fs (ln * es + k) b,_,hrun,.inl rfl,Kp.refl _ _,fun _ _ _=>rfl,fun ep0 ob0 h0=>.inl (by rw [hlk] at h0;cases h0;omega),fun _=>Nat.succ_pos _,fun b hb=>.inr (.inl ⟨_,hlk,?_⟩),fun lk' pl' Fr' gg _ e1 e2=>⟨?_,hone,_,_,e1,Nat.le_refl _,fun _=>⟨rfl,e2.symm⟩⟩⟩
  ·rcases hb with hb|⟨k,_,hb⟩
   ·exact (s8 b).2 (.inl (by rw [← o2];exact hb))
   ·exact (s8 b).2 (.inr ⟨_,hb⟩)
  ·refine .inl ⟨rfl,.lst _ (fun k b=>k < (hn - ln) * es∧fs (ln * es + k) b) hown huni hflt hlen3 (fun k x u hx hu=>?_) (fun k k' b hne hk hk'=>s6 _ _ b (by omega) hk.2 hk'.2) (fun k b hk hb=>s7 _ b hk.2 (by rw [← o2];exact hb)) fun b=>Iff.rfl⟩
   have hkl:k < (hn - ln) * es:=by
    have:=(List.getElem?_eq_some_iff.1 hu).1
    rw [o1.1] at this
    exact this
   have e3:(fun b=>k < (hn - ln) * es∧fs (ln * es + k) b)=fs (ln * es + k):=funext fun b=>propext ⟨fun h=>h.2,fun h=>⟨hkl,h⟩⟩
   show Ow P w x u (fun b=>k < (hn - ln) * es∧fs (ln * es + k) b)
   rw [e3]
   have:=s5 _ x u (hsub k x hx) (hsubu k u hu)
   rw [hes'] at this
   exact this
theorem OpQ.min2 {c:Call} {x y:Operand} {k:IntKind} {m n:Int} (ho:o.op=.call c) (h1:c.callee=.builtin .min) (h2:c.args=#[x,y]) (hx:st.ev x=.t (.int k m)) (hy:st.ev y=.t (.int k n)) (hK:KE (.t (.int k (if n < m then n else m))) []):OpQ P B W o os st KE :=
 OpQ.pure_ hK fun a w pl F hs=>by
  obtain ⟨g1,g2⟩:=hs.int_at hx
  obtain ⟨g3,g4⟩:=hs.int_at hy
  refine ⟨.int k (if n < m then n else m),fun w'=>?_,Rd.int (by split<;>assumption)⟩
  unfold execOp
  rw [ho]
  simp [resolve,h1,h2,invoke,builtin,Builtin.min_,Builtin.min2,g1,g3]
theorem OpQ.max2 {c:Call} {x y:Operand} {k:IntKind} {m n:Int} (ho:o.op=.call c) (h1:c.callee=.builtin .max) (h2:c.args=#[x,y]) (hx:st.ev x=.t (.int k m)) (hy:st.ev y=.t (.int k n)) (hK:KE (.t (.int k (if n > m then n else m))) []):OpQ P B W o os st KE :=
 OpQ.pure_ hK fun a w pl F hs=>by
  obtain ⟨g1,g2⟩:=hs.int_at hx
  obtain ⟨g3,g4⟩:=hs.int_at hy
  refine ⟨.int k (if n > m then n else m),fun w'=>?_,Rd.int (by split<;>assumption)⟩
  unfold execOp
  rw [ho]
  simp [resolve,h1,h2,invoke,builtin,Builtin.max_,Builtin.max2,g1,g3]
theorem OpS.min2 {c:Call} {x y:Operand} {k:IntKind} {m n:Int} (ho:o.op=.call c) (h1:c.callee=.builtin .min) (h2:c.args=#[x,y]) (hx:st.ev x=.t (.int k m)) (hy:st.ev y=.t (.int k n)) (hK:KE (.t (.int k (if n < m then n else m))) []):OpS P B W o st KE:=(OpQ.min2 ho h1 h2 hx hy hK).s
theorem OpS.max2 {c:Call} {x y:Operand} {k:IntKind} {m n:Int} (ho:o.op=.call c) (h1:c.callee=.builtin .max) (h2:c.args=#[x,y]) (hx:st.ev x=.t (.int k m)) (hy:st.ev y=.t (.int k n)) (hK:KE (.t (.int k (if n > m then n else m))) []):OpS P B W o st KE:=(OpQ.max2 ho h1 h2 hx hy hK).s
theorem fdiv_in {m d:Int} (hd:1≤d):(0≤m→0≤m.fdiv d∧m.fdiv d≤m)∧(m < 0→m≤m.fdiv d∧m.fdiv d < 0):=by
 have e:m.fdiv d=m / d:=Int.fdiv_eq_ediv_of_nonneg m (by omega)
 rw [e]
 refine ⟨fun h=>⟨Int.ediv_nonneg h (by omega),Int.ediv_le_self _ h⟩,fun h=>⟨?_,Int.ediv_neg_of_neg_of_pos h (by omega)⟩⟩
 rw [Int.le_ediv_iff_mul_le (by omega)]
 have h5:0≤(-m) * (d - 1):=Int.mul_nonneg (by omega) (by omega)
 rw [Int.neg_mul,Int.mul_sub,Int.mul_one] at h5
 omega
theorem OpQ.shl {t t':TypeId} {x y:Operand} {k k':IntKind} {m n:Int} (ho:o.op=.binOp .shl t x y t') (hx:st.ev x=.t (.int k m)) (hy:st.ev y=.t (.int k' n)) (hn:0≤n) (hK:KE (.t (.int k (k.wrap (m * 2 ^ (min n.toNat k.bits))))) []):OpQ P B W o os st KE :=
 OpQ.pure_ hK fun a w pl F hs=>by
  refine ⟨_,fun w'=>?_,Rd.int (wf_wrap _ _)⟩
  unfold execOp
  rw [ho]
  refine Zap ?_
  rw [(hs.int_at hx).1,(hs.int_at hy).1]
  have h0:¬ n < 0:=by omega
  simp [eqGuard,binOp,Op.shift,h0]
theorem OpQ.shr {t t':TypeId} {x y:Operand} {k k':IntKind} {m n:Int} (ho:o.op=.binOp .shr t x y t') (hx:st.ev x=.t (.int k m)) (hy:st.ev y=.t (.int k' n)) (hn:0≤n) (hK:KE (.t (.int k (m.fdiv (2 ^ (min n.toNat k.bits))))) []):OpQ P B W o os st KE :=
 OpQ.pure_ hK fun a w pl F hs=>by
  have hw:=(hs.int_at hx).2
  refine ⟨.int k (m.fdiv (2 ^ (min n.toNat k.bits))),fun w'=>?_,Rd.int ?_⟩
  ·unfold execOp
   rw [ho]
   refine Zap ?_
   rw [(hs.int_at hx).1,(hs.int_at hy).1]
   have h0:¬ n < 0:=by omega
   simp [eqGuard,binOp,Op.shift,h0]
  ·have hd:(1:Int)≤2 ^ (min n.toNat k.bits):=Int.pow_pos (by decide)
   obtain ⟨h1,h2⟩:=fdiv_in (m:=m) hd
   simp only [Lit.wf,Bool.and_eq_true,decide_eq_true_eq] at hw ⊢
   have h3:k.min≤0∧0≤k.max:=by cases k<;>exact ⟨by decide,by decide⟩
   rcases Int.lt_or_le m 0 with h|h
   ·have:=h2 h;omega
   ·have:=h1 h;omega
theorem OpS.shl {t t':TypeId} {x y:Operand} {k k':IntKind} {m n:Int} (ho:o.op=.binOp .shl t x y t') (hx:st.ev x=.t (.int k m)) (hy:st.ev y=.t (.int k' n)) (hn:0≤n) (hK:KE (.t (.int k (k.wrap (m * 2 ^ (min n.toNat k.bits))))) []):OpS P B W o st KE:=(OpQ.shl ho hx hy hn hK).s
theorem OpS.shr {t t':TypeId} {x y:Operand} {k k':IntKind} {m n:Int} (ho:o.op=.binOp .shr t x y t') (hx:st.ev x=.t (.int k m)) (hy:st.ev y=.t (.int k' n)) (hn:0≤n) (hK:KE (.t (.int k (m.fdiv (2 ^ (min n.toNat k.bits))))) []):OpS P B W o st KE:=(OpQ.shr ho hx hy hn hK).s
end
theorem ee70 {v:_}  (h:v=(0:Nat)):v=(0:Nat):=h
theorem e0de {v:_}  (h:v=(1:Nat)):v=(1:Nat):=h
theorem e1bc {v:_}  (h:v=(3:Nat)):v=(3:Nat):=h
theorem e614 {v:_}  (h:v=(9:Nat)):v=(9:Nat):=h
theorem ecfc {v  : Nat} (h:v=0):v=0:=h
theorem e91e {v:_} {x1:_} {x2:_} {x3:_} {x4:_} {x5:_} {x6:_} {x7:_} {x8:_} {x9:_} {x10:_} {x11:_} {x12:_} {x13:_} {x14:_} {x15:_} {x16:_} {x17:_} {x18:_} {x19:_} {x20:_} {x21:_} {x22:_} {x23:_} (h:v=V.agg [x1,x2,x3,x4,x5,x6,x7,x8,x9,x10,x11,x12,x13,x14,x15,x16,x17,x18,x19,x20,x21,x22,x23]):v=V.agg [x1,x2,x3,x4,x5,x6,x7,x8,x9,x10,x11,x12,x13,x14,x15,x16,x17,x18,x19,x20,x21,x22,x23]:=h
theorem eeb8 {v:_} {x1:_} {x2:_} {x3:_} {x4:_} {x5:_} {x6:_} {x7:_} {x8:_} {x9:_} (h:v=V.agg [x1,x2,x3,x4,x5,x6,x7,x8,x9]):v=V.agg [x1,x2,x3,x4,x5,x6,x7,x8,x9]:=h
theorem e318 {v:_} {x1:_} {x2:_} {x3:_} {x4:_} {x5:_} (h:v=V.agg [x1,x2,x3,x4,x5]):v=V.agg [x1,x2,x3,x4,x5]:=h
theorem e32b {v:_} {x1:_} {x2:_} {x3:_} (h:v=V.agg [x1,x2,x3]):v=V.agg [x1,x2,x3]:=h
theorem eae2 {v:_} {x1:_} {x2:_} (h:v=V.agg [x1,x2]):v=V.agg [x1,x2]:=h
theorem e228 {v:_} {x1:_} (h:v=V.agg [x1]):v=V.agg [x1]:=h
theorem e855 {v:_} {x1:_} (h:v=V.agg x1):v=V.agg x1:=h
theorem ed24 {v:_} {x1:_} {x2:_} (h:v=V.hnd x1 x2):v=V.hnd x1 x2:=h
theorem e9a0 {v:_} {x1:_} (h:v=V.lit x1):v=V.lit x1:=h
theorem e639 {v:_} {x1:_} {x2:_} {x3:_} {x4:_} (h:v=V.ptr x1 x2 x3 x4):v=V.ptr x1 x2 x3 x4:=h
theorem e6fb {v:_} {x1:_} (h:v=V.t x1):v=V.t x1:=h
theorem e5cc {v:_} {x1:_} (h:v=V.tup x1):v=V.tup x1:=h
theorem e1d4 {v:_} {x1:_} {x2:_} {x3:_} {x4:_} (h:v=V.view x1 x2 x3 x4):v=V.view x1 x2 x3 x4:=h
theorem e444 {v:List (Nat×Nat×Ob)} {x1 x2:Nat} (h:v=[(x1,x2,Ob.gone)]):v=[(x1,x2,Ob.gone)]:=h
theorem ed75 {α:Type} {v:List α}  (h:v=[]):v=[]:=h
theorem e10f {α:Type} {v:List α} {x1 x2 x3 x4 x5 x6 x7 x8 x9 x10 x11 x12 x13 x14 x15 x16 x17 x18 x19 x20 x21 x22 x23:α} (h:v=[x1,x2,x3,x4,x5,x6,x7,x8,x9,x10,x11,x12,x13,x14,x15,x16,x17,x18,x19,x20,x21,x22,x23]):v=[x1,x2,x3,x4,x5,x6,x7,x8,x9,x10,x11,x12,x13,x14,x15,x16,x17,x18,x19,x20,x21,x22,x23]:=h
theorem ec55 {α:Type} {v:List α} {x1 x2 x3 x4 x5 x6 x7 x8 x9:α} (h:v=[x1,x2,x3,x4,x5,x6,x7,x8,x9]):v=[x1,x2,x3,x4,x5,x6,x7,x8,x9]:=h
theorem e21e {α:Type} {v:List α} {x1 x2 x3 x4 x5:α} (h:v=[x1,x2,x3,x4,x5]):v=[x1,x2,x3,x4,x5]:=h
theorem eee1 {α:Type} {v:List α} {x1 x2 x3:α} (h:v=[x1,x2,x3]):v=[x1,x2,x3]:=h
theorem ecef {α:Type} {v:List α} {x1 x2:α} (h:v=[x1,x2]):v=[x1,x2]:=h
theorem e679 {α:Type} {v:List α} {x1:α} (h:v=[x1]):v=[x1]:=h
theorem ef62 {v x1:Nat} (h:v=x1 + 1):v=x1 + 1:=h
theorem e689 {v:_}  (h:v=false):v=false:=h
theorem e334 {α:Type} {v:Option α}  (h:v=none):v=none:=h
theorem ed07 {v:_} {x1:_} {x2:_} {x3:_} {x4:_} {x5:_} {x6:_} {x7:_} {x8:_} {x9:_} {x10:_} {x11:_} {x12:_} {x13:_} {x14:_} {x15:_} {x16:_} {x17:_} {x18:_} {x19:_} {x20:_} {x21:_} {x22:_} {x23:_} (h:v=some (V.agg [x1,x2,x3,x4,x5,x6,x7,x8,x9,x10,x11,x12,x13,x14,x15,x16,x17,x18,x19,x20,x21,x22,x23])):v=some (V.agg [x1,x2,x3,x4,x5,x6,x7,x8,x9,x10,x11,x12,x13,x14,x15,x16,x17,x18,x19,x20,x21,x22,x23]):=h
theorem e53e {v:_} {x1:_} {x2:_} {x3:_} {x4:_} {x5:_} {x6:_} {x7:_} {x8:_} {x9:_} (h:v=some (V.agg [x1,x2,x3,x4,x5,x6,x7,x8,x9])):v=some (V.agg [x1,x2,x3,x4,x5,x6,x7,x8,x9]):=h
theorem e303 {v:_} {x1:_} {x2:_} {x3:_} {x4:_} {x5:_} (h:v=some (V.agg [x1,x2,x3,x4,x5])):v=some (V.agg [x1,x2,x3,x4,x5]):=h
theorem eded {v:_} {x1:_} {x2:_} {x3:_} (h:v=some (V.agg [x1,x2,x3])):v=some (V.agg [x1,x2,x3]):=h
theorem ee1c {v:_} {x1:_} {x2:_} (h:v=some (V.agg [x1,x2])):v=some (V.agg [x1,x2]):=h
theorem eb40 {v:_} {x1:_} (h:v=some (V.agg [x1])):v=some (V.agg [x1]):=h
theorem e18d {v:_} {x1:_} {x2:_} (h:v=some (V.hnd x1 x2)):v=some (V.hnd x1 x2):=h
theorem e9ec {v:_} {x1:_} (h:v=some (V.t x1)):v=some (V.t x1):=h
theorem e281 {v:_} {x1:_} {x2:_} {x3:_} {x4:_} {x5:_} {x6:_} {x7:_} {x8:_} {x9:_} {x10:_} {x11:_} {x12:_} {x13:_} {x14:_} {x15:_} {x16:_} {x17:_} {x18:_} {x19:_} {x20:_} {x21:_} {x22:_} {x23:_} {x24:_} (h:v=some [V.agg [x1,x2,x3,x4,x5,x6,x7,x8,x9,x10,x11,x12,x13,x14,x15,x16,x17,x18,x19,x20,x21,x22,x23],V.t x24]):v=some [V.agg [x1,x2,x3,x4,x5,x6,x7,x8,x9,x10,x11,x12,x13,x14,x15,x16,x17,x18,x19,x20,x21,x22,x23],V.t x24]:=h
theorem e197 {v:_} {x1:_} {x2:_} {x3:_} {x4:_} {x5:_} {x6:_} {x7:_} {x8:_} {x9:_} {x10:_} {x11:_} {x12:_} {x13:_} {x14:_} {x15:_} {x16:_} {x17:_} {x18:_} {x19:_} {x20:_} {x21:_} {x22:_} {x23:_} (h:v=some [V.agg [x1,x2,x3,x4,x5,x6,x7,x8,x9,x10,x11,x12,x13,x14,x15,x16,x17,x18,x19,x20,x21,x22,x23]]):v=some [V.agg [x1,x2,x3,x4,x5,x6,x7,x8,x9,x10,x11,x12,x13,x14,x15,x16,x17,x18,x19,x20,x21,x22,x23]]:=h
theorem e8d1 {v:_} {x1:_} {x2:_} {x3:_} {x4:_} {x5:_} {x6:_} {x7:_} {x8:_} {x9:_} {x10:_} (h:v=some [V.agg [x1,x2,x3,x4,x5,x6,x7,x8,x9],V.t x10]):v=some [V.agg [x1,x2,x3,x4,x5,x6,x7,x8,x9],V.t x10]:=h
theorem e47f {v:_} {x1:_} {x2:_} {x3:_} {x4:_} {x5:_} {x6:_} {x7:_} {x8:_} {x9:_} (h:v=some [V.agg [x1,x2,x3,x4,x5,x6,x7,x8,x9]]):v=some [V.agg [x1,x2,x3,x4,x5,x6,x7,x8,x9]]:=h
theorem ef34 {v:_} {x1:_} {x2:_} {x3:_} {x4:_} {x5:_} {x6:_} (h:v=some [V.agg [x1,x2,x3,x4,x5],V.t x6]):v=some [V.agg [x1,x2,x3,x4,x5],V.t x6]:=h
theorem e3cb {v:_} {x1:_} {x2:_} {x3:_} {x4:_} {x5:_} (h:v=some [V.agg [x1,x2,x3,x4,x5]]):v=some [V.agg [x1,x2,x3,x4,x5]]:=h
theorem e345 {v:_} {x1:_} {x2:_} {x3:_} (h:v=some [V.agg [x1,x2,x3]]):v=some [V.agg [x1,x2,x3]]:=h
theorem eb2d {v:_} {x1:_} {x2:_} (h:v=some [V.agg [x1,x2]]):v=some [V.agg [x1,x2]]:=h
theorem ec8f {v:_} {x1:_} {x2:_} (h:v=some [V.agg [x1],V.t x2]):v=some [V.agg [x1],V.t x2]:=h
theorem ea12 {v:_} {x1:_} (h:v=some [V.agg [x1]]):v=some [V.agg [x1]]:=h
theorem e495 {v:_} {x1:_} {x2:_} {x3:_} {x4:_} (h:v=some [V.hnd x1 x2,V.t x3,V.t x4]):v=some [V.hnd x1 x2,V.t x3,V.t x4]:=h
theorem e993 {v:_} {x1:_} {x2:_} {x3:_} (h:v=some [V.hnd x1 x2,V.t x3]):v=some [V.hnd x1 x2,V.t x3]:=h
theorem e0f9 {v:_} {x1:_} {x2:_} (h:v=some [V.hnd x1 x2]):v=some [V.hnd x1 x2]:=h
theorem eac2 {v:_} {x1:_} {x2:_} {x3:_} (h:v=some [V.t x1,V.t x2,V.t x3]):v=some [V.t x1,V.t x2,V.t x3]:=h
theorem ed21 {v:_} {x1:_} {x2:_} (h:v=some [V.t x1,V.t x2]):v=some [V.t x1,V.t x2]:=h
theorem ec8e {v:_} {x1:_} (h:v=some [V.t x1]):v=some [V.t x1]:=h
theorem e549 {α:Type} {v:Option (List α)} {x1 x2 x3 x4 x5 x6 x7 x8 x9 x10 x11 x12 x13 x14 x15 x16 x17 x18 x19 x20 x21 x22 x23:α} (h:v=some [x1,x2,x3,x4,x5,x6,x7,x8,x9,x10,x11,x12,x13,x14,x15,x16,x17,x18,x19,x20,x21,x22,x23]):v=some [x1,x2,x3,x4,x5,x6,x7,x8,x9,x10,x11,x12,x13,x14,x15,x16,x17,x18,x19,x20,x21,x22,x23]:=h
theorem efaf {α:Type} {v:Option (List α)} {x1 x2 x3 x4 x5 x6 x7 x8 x9:α} (h:v=some [x1,x2,x3,x4,x5,x6,x7,x8,x9]):v=some [x1,x2,x3,x4,x5,x6,x7,x8,x9]:=h
theorem ea92 {α:Type} {v:Option (List α)} {x1 x2 x3 x4 x5:α} (h:v=some [x1,x2,x3,x4,x5]):v=some [x1,x2,x3,x4,x5]:=h
theorem ef7c {α:Type} {v:Option (List α)} {x1 x2 x3:α} (h:v=some [x1,x2,x3]):v=some [x1,x2,x3]:=h
theorem e97d {α:Type} {v:Option (List α)} {x1 x2:α} (h:v=some [x1,x2]):v=some [x1,x2]:=h
theorem e5c4 {α:Type} {v:Option (List α)} {x1:α} (h:v=some [x1]):v=some [x1]:=h
theorem e1b4 {α:Type} {v:Option α} {x1:α} (h:v=some x1):v=some x1:=h
theorem eb32 {v:_}  (h:v=true):v=true:=h
end Go.Proofs.YthfaongbpdnlnaaGreat.Ab
namespace Go.Proofs.YthfaongbpdnlnaaGreat
set_option maxHeartbeats 1000000
set_option maxRecDepth 512
set_option linter.unusedSimpArgs false
set_option linter.unusedVariables false
open Go.RowKit Ab
theorem ZdE {α β:Type} (g:α→β):∀ xs:List α,(xs.map fun x=>[g x]).flatten=xs.map g
 | []=>rfl
 | x :: xs=>by simp [ZdE g xs]
def RdT (P:Program) (x:T):Prop:=∃ w B u,Rd P w B x u
theorem ZaR {P:Program} {w:World} {B:Nat→Prop} {vs:List V} {us:List Value} (h:Pw (C1 P w noLk noPl B) vs us) {i:Nat} {x:T} (hi:vs[i]?=some (.t x)):RdT P x:=by
 obtain ⟨u,hu,hc⟩:=h.at_ hi
 exact ⟨w,B,u,hc⟩
theorem ZjG {P:Program} {w:World} {B:Nat→Prop} {vs:List V} {us:List Value} (h:Pw (C1 P w noLk noPl B) vs us) {i k:Nat} {cs:List V} {x:T} (hi:vs[i]?=some (.agg cs)) (hk:cs[k]?=some (.t x)):RdT P x:=by
 obtain ⟨u,hu,us',h1,h2,h3⟩:=h.at_ hi
 have hlt:k < us'.length:=by rw [h2];exact (List.getElem?_eq_some_iff.1 hk).1
 exact ⟨w,B,_,h3 k _ _ hk (List.getElem?_eq_getElem hlt)⟩
theorem ZhS {P:Program} {fl:Bool} {e:TypeId} {els:List (List T)} (h:RdT P (.lst fl e els)):els.length≤9223372036854775807∧(∀ x ∈ els,x.length=P.cellsOf e)∧∀ (k:Nat) (x:T),els.flatten[k]?=some x→RdT P x:=by
 obtain ⟨w,B,u,hr⟩:=h
 cases hr with
 | lst us h1 h2 h3 h4 h5 h6 h7 =>
  refine ⟨by simp only [maxLen] at h2;omega,h3,fun k x hx=>?_⟩
  have hlt:k < us.length:=by rw [← h5];exact (List.getElem?_eq_some_iff.1 hx).1
  exact ⟨w,B,_,h7 k x _ hx (List.getElem?_eq_getElem hlt)⟩
theorem ZcJ {P:Program} {n:Int} (h:RdT P (.int .i64 n)):-9223372036854775808≤n∧n≤9223372036854775807:=by
 obtain ⟨w,B,u,hr⟩:=h
 cases hr with
 | int h=>exact bounds_i64 h
theorem ZeK {P:Program} {s:List UInt8} (h:RdT P (.str s)):s.length≤9223372036854775807:=by
 obtain ⟨w,B,u,hr⟩:=h
 cases hr with
 | str h=>simp only [maxLen] at h;omega
def ints (e:TypeId) (xs:List Int):T:=.lst true e (xs.map fun x=>[.int .i64 x])
def wf64 (x:Int):Prop:=-9223372036854775808≤x∧x≤9223372036854775807
theorem Zga {P:Program} {e:TypeId} {xs:List Int} (h:RdT P (ints e xs)):xs.length≤9223372036854775807∧∀ x ∈ xs,wf64 x:=by
 obtain ⟨h1,_,h2⟩:=ZhS h
 refine ⟨by simpa using h1,fun x hx=>?_⟩
 obtain ⟨k,hk,rfl⟩:=List.getElem_of_mem hx
 refine ZcJ (h2 k _ ?_)
 rw [ZdE]
 simp [hk]
def rows (e e1:TypeId) (xs:List (List Int)):T:=.lst false e (xs.map fun x=>[ints e1 x])
theorem Zjo {α:Type} {xs:List α} {f:α→Bool} {k:Nat} (hk:k < xs.length) (h:(xs.take k).all f=true) (hx:f xs[k]=true):(xs.take (k + 1)).all f=true:=by
 rw [List.take_succ_eq_append_getElem hk,List.all_append,h];simp [hx]
theorem ZlU {α:Type} {xs:List α} {f:α→Bool} {k:Nat} (hk:k < xs.length) (hx:f xs[k]=false):xs.all f=false:=by
 rw [List.all_eq_false];exact ⟨xs[k],List.getElem_mem hk,by simp [hx]⟩
end Go.Proofs.YthfaongbpdnlnaaGreat
namespace Go.Proofs.YthfaongbpdnlnaaGreat.Ab
set_option maxHeartbeats 1000000
set_option maxRecDepth 512
set_option linter.unusedSimpArgs false
set_option linter.unusedVariables false
open Go.RowKit
section
variable {P:Program} {B:Nat→Prop} {W:En} {st:St} {a:Act} {w:World}
theorem ow_none {fl:Bool} {e:TypeId}:Ow P w (.lst fl e []) (.slice none 0 0) (fun _=>False) :=
 .lst [] (fun _ _=>False) (ZbZ.nil w e (P.cellsOf e)) (by simp) (by simp) rfl (fun k x v h=>by simp at h) (fun _ _ _ _ h=>h.elim) (fun _ _ h=>h.elim) (fun b=>⟨fun h=>h.elim,fun h=>by
  rcases h with h|⟨_,h⟩
  ·simp [Value.ownBlock] at h
  ·exact h⟩)
theorem SimW.newnil {pl:Nat→Value} {F:Nat→Nat→Prop} (h:SimW P B W st a w pl F) (i:Nat) (fl:Bool) (e:TypeId) :
  ∃ pl' F',SimW P B W { st with objs:=(i,nep (look st.objs i),.row fl true e []) :: st.objs } a w pl' F'∧pl' i=.slice none 0 0:=by
 obtain ⟨pl',F',h1,h2,_,_,_⟩:=h.news (w':=w) (objs':=(i,nep (look st.objs i),.row fl true e []) :: st.objs) (nv:=fun _=>.slice none 0 0) (nF:=fun _ _=>False) (Nw:=(·=i)) (Below.refl _ _)
  (fun j hj=>by rw [ZaB,if_neg (Ne.symm hj)])
  (fun j hj=>by subst hj;exact ⟨_,_,by rw [ZaB,if_pos rfl],fun ep0 ob0 h0=>ZgQ h0,ZeH _⟩)
  (fun _ _ _ hf=>hf.elim) (fun _ _ _ _ _ _ hf=>hf.elim)
  (fun j ep ob hj ho CC Rr=>by
   subst hj
   rw [ZaB,if_pos rfl] at ho
   cases ho
   exact .inl ⟨rfl,ow_none⟩)
 exact ⟨pl',F',h1,h2 i rfl⟩
theorem rd_nil {Fr:Nat→Prop} {u:Value} (h:Rd P w Fr .nil u):u=.slice none 0 0:=by cases h;rfl
theorem Sim.nilrow (hs:Sim P B W st a w) {s i ep:Nat} (fl:Bool) (e:TypeId) (hx:Zcm st.tmps s=.t .nil) (hep:nep (look st.objs i)=ep) :
  Sim P B W ⟨st.n,(s,.hnd i ep) :: st.tmps,(i,ep,.row fl true e []) :: st.objs⟩ a w:=by
 obtain ⟨pl,F,h⟩:=hs
 subst hep
 obtain ⟨pl',F',h',hp⟩:=h.newnil i fl e
 refine ⟨pl',F',h'.old,h'.size,h'.defers,h'.below,fun j hj=>?_,h'.objs,h'.range,h'.apart,h'.hist⟩
 show C2 P w _ pl' _ (Zcm ((s,.hnd i (nep (look st.objs i))) :: st.tmps) j) _
 rw [ZcH]
 split
 ·rename_i hsj
  subst hsj
  have h1:=h.tmps s hj
  rw [hx] at h1
  have h2:=rd_nil h1
  refine ⟨by rw [h2];rfl,_,_,by rw [ZaB,if_pos rfl],Nat.le_refl _,fun _=>⟨rfl,by rw [h2,hp]⟩⟩
 ·exact h'.tmps j hj
theorem aW.nilrow {c:Code} {Q:Exit→St→Prop} {s i ep:Nat} (fl:Bool) (e:TypeId) (hx:Zcm st.tmps s=.t .nil) (hep:nep (look st.objs i)=ep) (hK:aW P B W c Q ⟨st.n,(s,.hnd i ep) :: st.tmps,(i,ep,.row fl true e []) :: st.objs⟩):aW P B W c Q st :=
 fun a w hs=>hK a w (hs.nilrow fl e hx hep)
theorem SimW.recell {pl:Nat→Value} {F:Nat→Nat→Prop} (h:SimW P B W st a w pl F) {o i ep epo k:Nat} {ty:TypeId} {cs:List V} {fl:Bool} {e:TypeId} (ho:look st.objs o=some (epo,.box ty cs)) (hk:cs[k]?=some (.t .nil))
  (hi:look st.objs i=some (ep,.row fl true e [])) (hp:pl i=.slice none 0 0) (hne:i ≠ o) :
  SimW P B W { st with objs:=(o,epo,.box ty (cs.set k (.hnd i ep))) :: st.objs } a w pl F:=by
 have hlk:∀ j,j ≠ o→look ((o,epo,Ob.box ty (cs.set k (.hnd i ep))) :: st.objs) j=look st.objs j:=fun j hj=>by rw [ZaB,if_neg (Ne.symm hj)]
 have hlo:look ((o,epo,Ob.box ty (cs.set k (.hnd i ep))) :: st.objs) o=some (epo,.box ty (cs.set k (.hnd i ep))):=by rw [ZaB,if_pos rfl]
 have hsome:∀ j x,look ((o,epo,Ob.box ty (cs.set k (.hnd i ep))) :: st.objs) j=some x→∃ y,look st.objs j=some y∧y.1=x.1∧(j ≠ o→y=x):=fun j x hj=>by
  by_cases hjo:j=o
  ·subst hjo
   rw [hlo] at hj
   cases hj
   exact ⟨_,ho,rfl,fun h=>absurd rfl h⟩
  ·rw [hlk j hjo] at hj
   exact ⟨x,hj,rfl,fun _=>rfl⟩
 have hfr:∀ b,Free B W.o (look st.objs) F w b→Free B W.o (look ((o,epo,Ob.box ty (cs.set k (.hnd i ep))) :: st.objs)) F w b:=fun b hb=>⟨hb.1,hb.2.1,fun j x hj=>by
  obtain ⟨y,hy,_⟩:=hsome j x hj
  exact hb.2.2 j y hy⟩
 have g:Goes P w w (look st.objs) (look ((o,epo,Ob.box ty (cs.set k (.hnd i ep))) :: st.objs)) pl pl (Free B W.o (look st.objs) F w) (Free B W.o (look ((o,epo,Ob.box ty (cs.set k (.hnd i ep))) :: st.objs)) F w) :=
  ⟨hfr,fun _ _=>rfl,fun j ep0 ob0 hj=>by
   by_cases hjo:j=o
   ·subst hjo
    rw [ho] at hj
    cases hj
    exact ⟨_,_,hlo,.inr ⟨rfl,rfl,rfl,rfl⟩⟩
   ·exact ⟨ep0,ob0,(hlk j hjo).trans hj,.inr ⟨rfl,rfl,rfl,rfl⟩⟩⟩
 refine ⟨h.old,h.size,h.defers,h.below,fun j hj=>(h.tmps j hj).goes g,fun j ep0 ob0 hj=>?_,fun j x b hj hf=>?_,fun j j' x x' b hne hj hj'=>?_,fun j ob0 h0 ep0 ob hj=>?_⟩
 ·by_cases hjo:j=o
  ·subst hjo
   have hj':look ((j,epo,Ob.box ty (cs.set k (.hnd i ep))) :: st.objs) j=some (ep0,ob0):=hj
   rw [hlo] at hj'
   cases hj'
   obtain ⟨gb,us,h1,h2,h3,h4,h5⟩:=h.objs j _ _ ho
   refine ⟨gb,us,h1,h2,h3,by simpa using h4,fun q x u hx hu=>?_⟩
   by_cases hq:k=q
   ·subst hq
    have hkl:=(List.getElem?_eq_some_iff.1 hk).1
    rw [List.getElem?_set_self hkl] at hx
    cases hx
    have h6:=rd_nil (h5 k _ u hk hu)
    exact ⟨by rw [h6];rfl,ep,_,(hlk i hne).trans hi,Nat.le_refl _,fun _=>⟨rfl,by rw [h6,hp]⟩⟩
   ·rw [List.getElem?_set_ne hq] at hx
    exact C0.goes g (h5 q x u hx hu)
  ·have hj':look ((o,epo,Ob.box ty (cs.set k (.hnd i ep))) :: st.objs) j=some (ep0,ob0):=hj
   rw [hlk j hjo] at hj'
   exact (h.objs j ep0 ob0 hj').goes (fun _ _=>rfl) (fun _ _ hc=>C0.goes g hc) (fun _ _ hr=>hr.mono g.more g.heap)
 ·obtain ⟨y,hy,_⟩:=hsome j x hj
  exact h.range j y b hy hf
 ·obtain ⟨y,hy,_⟩:=hsome j x hj
  obtain ⟨y',hy',_⟩:=hsome j' x' hj'
  exact h.apart j j' y y' b hne hy hy'
 ·by_cases hjo:j=o
  ·subst hjo
   have hj':look ((j,epo,Ob.box ty (cs.set k (.hnd i ep))) :: st.objs) j=some (ep0,ob):=hj
   rw [hlo] at hj'
   cases hj'
   rcases h.hist j ob0 h0 _ _ ho with h5|⟨h5,h6,h7⟩
   ·exact .inl h5
   ·exact .inr ⟨h5,h6,h7⟩
  ·have hj':look ((o,epo,Ob.box ty (cs.set k (.hnd i ep))) :: st.objs) j=some (ep0,ob):=hj
   rw [hlk j hjo] at hj'
   exact h.hist j ob0 h0 _ _ hj'
theorem aW.nilcell {c:Code} {Q:Exit→St→Prop} {o i ep epo k:Nat} {ty:TypeId} {cs cs':List V} (fl:Bool) (e:TypeId) (ho:look st.objs o=some (epo,.box ty cs)) (hk:cs[k]?=some (.t .nil)) (hne:Nat.beq i o=false) (hep:nep (look st.objs i)=ep) (hcs:cs.set k (.hnd i ep)=cs')
  (hK:aW P B W c Q ⟨st.n,st.tmps,(o,epo,.box ty cs') :: (i,ep,.row fl true e []) :: st.objs⟩):aW P B W c Q st:=fun a w hs=>by
 obtain ⟨pl,F,h⟩:=hs
 subst hep hcs
 have hne:=Nat.ne_of_beq_eq_false hne
 obtain ⟨pl',F',h',hp⟩:=h.newnil i fl e
 exact hK a w ⟨pl',F',h'.recell (o:=o) (i:=i) (k:=k) (by show look ((i,_,_) :: st.objs) o=_;rw [ZaB,if_neg hne];exact ho) hk (by show look ((i,_,_) :: st.objs) i=_;rw [ZaB,if_pos rfl]) hp hne⟩
variable {ops:Array Oper} {o:Oper} {KE:V→List (Nat×Nat×Ob)→Prop}
theorem ZfW {x:Operand} {a:Act} {ad:Addr} (ho:o.op=.nilCheck x) (hx:a.eval x=.pointer (some ad)):(execOp a.eval o).run P w=.ok (.value (.pointer (some ad))) w:=by
 unfold execOp
 rw [ho]
 simp [hx]
theorem OpS.nilCheck {x:Operand} {i ep k off:Nat} (ho:o.op=.nilCheck x) (hx:st.ev x=.ptr i ep k off) {e:Nat} {ob:Ob} (hl:look st.objs i=some (e,ob)) (he:e=ep) (hK:KE (.ptr i ep k off) []):OpS P B W o st KE :=
 OpS.pure_ hK fun a w pl F hs=>by
  have h1:=hs.ev x
  rw [hx] at h1
  have h1':=h1
  obtain ⟨_,ep',ob',h2,h3,h4⟩:C0 P w (look st.objs) pl (Free B W.o (look st.objs) F w) (.ptr i ep k off) (a.eval x):=h1
  rw [hl] at h2
  cases h2
  obtain ⟨g,bb,hg,hu⟩:=h4 he.symm
  refine ⟨_,ZfW ho hu,?_⟩
  rw [← hu]
  exact h1'
end
end Go.Proofs.YthfaongbpdnlnaaGreat.Ab
namespace Go.Proofs.YthfaongbpdnlnaaGreat
set_option maxHeartbeats 1000000
set_option maxRecDepth 512
set_option linter.unusedSimpArgs false
set_option linter.unusedVariables false
open Go.RowKit
def inR (n lo hi:Int):Bool:=decide (lo≤n) && decide (n≤hi)
theorem Zae {n lo hi:Int}:inR n lo hi=true↔lo≤n∧n≤hi:=by simp [inR]
def ZcX (t p a n:Int):Bool:=decide (0≤t∧t≤400∧0≤p∧p < n∧0≤a∧a≤9)
def Zaz (s:Int):Int:=if 0≤s∧s≤65535 then (s * 25173 + 13849) % 65536 else 0
def Zaj (s n:Int):Int×Int:=if 0≤s∧s≤65535∧1≤n∧n≤4096 then (Zaz s,Zaz s / 16 % n) else (0,0)
theorem Zb1 (s:Int):0≤Zaz s∧Zaz s≤65535:=by unfold Zaz;split<;>omega
theorem ZdH (s n:Int):0≤(Zaj s n).1∧(Zaj s n).1≤65535∧0≤(Zaj s n).2∧((Zaj s n).2 < n∨(Zaj s n).2=0):=by
 unfold Zaj
 have:=Zb1 s
 split
 ·rename_i h
  refine ⟨this.1,this.2,Int.emod_nonneg _ (by omega),Or.inl (Int.emod_lt_of_pos _ (by omega))⟩
 ·simp
theorem Zf3 (a:Nat) (ha:a < 9223372036854775808):(BitVec.ofInt 64 (a:Int)).toNat=a:=by
 rw [BitVec.ofInt_natCast,BitVec.toNat_ofNat];exact Nat.mod_eq_of_lt (by omega)
theorem Zd6 (a b:Nat) (ha:a < 9223372036854775808) (hb:b < 9223372036854775808):bits .and .i64 (a:Int) (b:Int)=((a &&& b:Nat):Int):=by
 have hx:a &&& b < 2 ^ 63:=Nat.and_lt_two_pow _ (by omega)
 show IntKind.i64.wrap ((BitVec.ofInt 64 (a:Int) &&& BitVec.ofInt 64 (b:Int)).toNat:Int)=_
 rw [BitVec.toNat_and,Zf3 a ha,Zf3 b hb,IntKind.wrap_i64]
 omega
theorem Zoc (x:Int) (h0:0≤x) (h1:x≤4294967296):bits .and .i64 x 65535=x % 65536:=by
 obtain ⟨n,rfl⟩:=Int.eq_ofNat_of_zero_le h0
 have:=Zd6 n 65535 (by omega) (by omega)
 rw [show ((65535:Nat):Int)=65535 from rfl] at this
 rw [this,show (65535:Nat)=2 ^ 16 - 1 from rfl,Nat.and_two_pow_sub_one_eq_mod]
 omega
open Go.RowKit Ab
def intC (x:Int):List T:=[.int .i64 x]
def Zak (xs:List Int):List (List T):=xs.map intC
theorem Zal (xs:List Int):(Zak xs).length=xs.length:=List.length_map _
def Zb8 (k:Int) (n:Nat):List Int:=(List.range n).map fun (i:Nat)=>k + (i:Int)
def encN (n:Nat):List UInt8:=if n < 128 then [UInt8.ofNat n] else UInt8.ofNat (n % 128 + 128) :: encN (n / 128)
termination_by n
decreasing_by omega
theorem Zd3 {n:Nat} (h:n < 128):encN n=[UInt8.ofNat n]:=by rw [encN,if_pos h]
theorem Zfv {n:Nat} (h:128≤n):encN n=UInt8.ofNat (n % 128 + 128) :: encN (n / 128):=by rw [encN,if_neg (by omega)]
def Zaf (n:Int):List UInt8:=if 0≤n∧n≤1099511627775 then encN n.toNat else []
theorem Zmy:∀ (m n:Nat),n < 128 ^ (m + 1)→(encN n).length≤m + 1
 | 0,n,h=>by rw [Zd3 (by simpa using h)];simp
 | m + 1,n,h=>by
  by_cases h1:n < 128
  ·rw [Zd3 h1];simp
  ·rw [Zfv (by omega),List.length_cons]
   have:=Zmy m (n / 128) (by rw [Nat.div_lt_iff_lt_mul (by decide)];rw [Nat.pow_succ] at h;exact h)
   omega
theorem Zg2 (n:Nat):0 < (encN n).length:=by
 by_cases h:n < 128
 ·rw [Zd3 h];simp
 ·rw [Zfv (by omega)];simp
def valB:List UInt8→Nat
 | []=>0
 | b :: r=>b.toNat % 128 + 128 * valB r
def decI:Nat→Nat→Nat→List UInt8→Option (Nat×Nat)
 | 0,_,_,_=>none
 | _ + 1,_,_,[]=>none
 | f + 1,k,n,c :: r=>if 128≤c.toNat then decI f (k + 1) (n + c.toNat % 128 * 128 ^ k) r else
   if (c.toNat=0∧0 < k)∨1099511627775 < n + c.toNat % 128 * 128 ^ k then none else some (n + c.toNat % 128 * 128 ^ k,k + 1)
def Zag (s:List UInt8) (at_:Int):Int×Int×Bool :=
 if at_ < 0 then (0,0,false) else match decI 6 0 0 (s.drop at_.toNat) with|some (n,m)=>(n,m,true)|none=>(0,0,false)
theorem ZfI (bs:List UInt8) (c:UInt8):valB (bs++[c])=valB bs + c.toNat % 128 * 128 ^ bs.length:=by
 induction bs with
 | nil=>simp [valB]
 | cons b r ih =>
  rw [List.cons_append,valB,ih,valB,List.length_cons,Nat.pow_succ,Nat.mul_add]
  have:128 * (c.toNat % 128 * 128 ^ r.length)=c.toNat % 128 * (128 ^ r.length * 128):=by rw [Nat.mul_comm 128,Nat.mul_assoc]
  rw [this,Nat.add_assoc]
theorem ZhO (b:UInt8):UInt8.ofNat b.toNat=b:=by simp
theorem Zko:∀ (bs:List UInt8) (c:UInt8),(∀ b ∈ bs,128≤b.toNat)→c.toNat < 128→(c.toNat ≠ 0∨bs=[])→encN (valB (bs++[c]))=bs++[c]
 | [],c,_,hc,_=>by
  have:valB [c]=c.toNat:=by simp [valB];omega
  rw [List.nil_append,this,Zd3 hc,ZhO]
 | b :: r,c,hb,hc,h0=>by
  have h1:c.toNat ≠ 0:=h0.resolve_right (by simp)
  have ih:=Zko r c (fun x hx=>hb x (by simp [hx])) hc (.inl h1)
  have hv:1≤valB (r++[c]):=by
   rw [ZfI]
   have:1≤c.toNat % 128 * 128 ^ r.length:=Nat.mul_pos (by omega) (Nat.pow_pos (by decide))
   omega
  have hbl:=hb b (by simp)
  have hbu:=b.toNat_lt
  rw [List.cons_append,valB,Zfv (by omega)]
  have e1:(b.toNat % 128 + 128 * valB (r++[c])) / 128=valB (r++[c]):=by omega
  have e2:(b.toNat % 128 + 128 * valB (r++[c])) % 128 + 128=b.toNat:=by omega
  rw [e1,e2,ih,ZhO]
theorem Zkm:∀ (n:Nat) (bs:List UInt8),encN n=bs++[0]→bs=[]
 | n,bs,h=>by
  by_cases h1:n < 128
  ·rw [Zd3 h1] at h
   have:=congrArg List.length h
   simp at this
   exact this
  ·rw [Zfv (by omega)] at h
   cases bs with
   | nil=>rfl
   | cons b r =>
    rw [List.cons_append,List.cons.injEq] at h
    have h3:=Zkm (n / 128) r h.2
    subst h3
    have h4:=h.2
    by_cases h5:n / 128 < 128
    ·rw [Zd3 h5] at h4
     simp at h4
     have h6:=congrArg UInt8.toNat h4
     simp at h6
     omega
    ·rw [Zfv (by omega)] at h4
     have h6:=congrArg List.length h4
     have:=Zg2 (n / 128 / 128)
     simp at h6
     rw [h6] at this
     exact absurd this (by simp)
termination_by n=>n
decreasing_by omega
theorem ZhD {bs:List UInt8} {c:UInt8} (hb:∀ b ∈ bs,128≤b.toNat) (hc:c.toNat < 128):Zaf (valB (bs++[c]):Nat)=bs++[c]↔¬ ((c.toNat=0∧0 < bs.length)∨1099511627775 < valB (bs++[c])):=by
 constructor
 ·intro h hn
  rcases hn with ⟨h1,h2⟩|h1
  ·have hc0:c=0:=by apply UInt8.toNat.inj;simpa using h1
   subst hc0
   unfold Zaf at h
   split at h
   ·rw [Int.toNat_natCast] at h
    rw [Zkm _ _ h] at h2
    cases h2
   ·simp at h
  ·unfold Zaf at h
   rw [if_neg (by omega)] at h
   simp at h
 ·intro hn
  have h1:c.toNat ≠ 0∨bs=[]:=by
   by_cases h:c.toNat=0
   ·right
    cases bs with
    | nil=>rfl
    | cons b r=>exact absurd (.inl ⟨h,by simp⟩) hn
   ·exact .inl h
  have h2:¬ 1099511627775 < valB (bs++[c]):=fun h=>hn (.inr h)
  unfold Zaf
  rw [if_pos (by omega),Int.toNat_natCast,Zko bs c hb hc h1]
theorem Zkj:∀ (f k n m:Nat) (r:List UInt8),m < 128 ^ f→0 < f→n + m * 128 ^ k≤1099511627775→(k=0∨0 < m)→decI f k n (encN m++r)=some (n + m * 128 ^ k,k + (encN m).length)
 | 0,_,_,_,_,_,h,_,_=>absurd h (by decide)
 | f + 1,k,n,m,r,h,_,hx,h0=>by
  by_cases h1:m < 128
  ·rw [Zd3 h1]
   have h2:(UInt8.ofNat m).toNat=m:=by simp;omega
   have h3:m % 128=m:=Nat.mod_eq_of_lt h1
   simp only [List.singleton_append,decI,h2]
   rw [if_neg (by omega),h3,if_neg (by omega)]
   rfl
  ·rw [Zfv (by omega)]
   have h2:(UInt8.ofNat (m % 128 + 128)).toNat=m % 128 + 128:=by simp;omega
   have h3:(m % 128 + 128) % 128=m % 128:=by omega
   simp only [List.cons_append,decI,h2]
   rw [if_pos (by omega),h3]
   have hd:n + m % 128 * 128 ^ k + m / 128 * 128 ^ (k + 1)=n + m * 128 ^ k:=by
    rw [Nat.pow_succ,Nat.add_assoc,Nat.mul_comm (128 ^ k) 128,← Nat.mul_assoc,← Nat.add_mul]
    congr 2
    omega
   have hf:0 < f:=by
    cases f with
    | zero=>simp at h;omega
    | succ f=>omega
   rw [Zkj f (k + 1) (n + m % 128 * 128 ^ k) (m / 128) r (by rw [Nat.div_lt_iff_lt_mul (by decide),← Nat.pow_succ];exact h) hf (by rw [hd];exact hx) (.inr (by omega)),hd]
   congr 2
   rw [List.length_cons]
   omega
theorem Zek {n:Int} (h:0≤n∧n≤1099511627775) (p r:List UInt8):Zag (p++Zaf n++r) p.length=(n,((Zaf n).length:Int),true):=by
 unfold Zag Zaf
 rw [if_pos h,if_neg (by omega),Int.toNat_natCast,List.append_assoc,List.drop_left,Zkj 6 0 0 n.toNat r (by have:(128:Nat) ^ 6=4398046511104:=(by decide);omega) (by decide) (by simp;omega) (.inl rfl)]
 simp
 omega
theorem Zgy:∀ (f k n:Nat) (s:List UInt8) (v m:Nat),decI f k n s=some (v,m) →
  ∃ bs c r,s=bs++c :: r∧(∀ b ∈ bs,128≤b.toNat)∧c.toNat < 128∧v=n + valB (bs++[c]) * 128 ^ k∧m=k + bs.length + 1∧bs.length < f∧¬ ((c.toNat=0∧0 < k + bs.length)∨1099511627775 < v)
 | 0,_,_,_,_,_,h=>by cases h
 | _ + 1,_,_,[],_,_,h=>by cases h
 | f + 1,k,n,c :: r,v,m,h=>by
  unfold decI at h
  split at h
  ·rename_i hc
   obtain ⟨bs,d,q,h1,h2,h3,h4,h5,h6,h7⟩:=Zgy f (k + 1) _ r v m h
   refine ⟨c :: bs,d,q,by rw [h1];rfl,?_,h3,?_,by simp;omega,by simp;omega,by simpa [Nat.add_assoc,Nat.add_comm 1] using h7⟩
   ·intro b hb
    rcases List.mem_cons.1 hb with rfl|hb
    ·exact hc
    ·exact h2 b hb
   ·rw [h4,List.cons_append,valB,Nat.add_mul,Nat.pow_succ,Nat.add_assoc]
    congr 2
    rw [Nat.mul_comm (128 ^ k) 128,← Nat.mul_assoc,Nat.mul_comm (valB (bs++[d])) 128]
  ·rename_i hc
   split at h
   ·cases h
   ·rename_i hx
    simp only [Option.some.injEq,Prod.mk.injEq] at h
    obtain ⟨rfl,rfl⟩:=h
    refine ⟨[],c,r,rfl,by simp,by omega,by simp [valB],by simp,by simp,by simpa using hx⟩
theorem ZnC {f k n v m:Nat} {s:List UInt8} (h:decI f k n s=some (v,m)):m≤k + f∧k < m∧m≤k + s.length∧v≤1099511627775:=by
 obtain ⟨bs,c,r,h1,_,_,_,h5,h6,h7⟩:=Zgy f k n s v m h
 have hl:=congrArg List.length h1
 simp only [List.length_append,List.length_cons] at hl
 refine ⟨by omega,by omega,by omega,?_⟩
 exact Nat.le_of_not_lt fun h=>h7 (.inr h)
theorem Zav {s:List UInt8} {p n m:Int} (h:Zag s p=(n,m,true)) :
  0≤p∧0≤n∧n≤1099511627775∧1≤m∧m≤6∧p + m≤s.length∧Zaf n=(s.drop p.toNat).take m.toNat:=by
 unfold Zag at h
 split at h
 ·cases h
 ·rename_i hp
  split at h
  ·rename_i v q hd
   cases h
   obtain ⟨h1,h2,h3,h4⟩:=ZnC hd
   obtain ⟨bs,c,r,g1,g2,g3,g4,g5,g6,g7⟩:=Zgy _ _ _ _ _ _ hd
   rw [List.length_drop] at h3
   refine ⟨by omega,by omega,by omega,by omega,by omega,by omega,?_⟩
   have hv:v=valB (bs++[c]):=by rw [g4];simp
   subst hv
   rw [(ZhD g2 g3).2 (by simpa using g7),g1]
   have:(q:Int).toNat=bs.length + 1:=by omega
   rw [this,List.take_append]
   simp
   exact (List.take_of_length_le (by omega)).symm
  ·cases h
theorem ZaA (n:Int):(Zaf n).length≤6:=by
 unfold Zaf
 split
 ·exact Zmy 5 n.toNat (by have:(128:Nat) ^ 6=4398046511104:=(by decide);omega)
 ·simp
theorem ZgW {n:Int} (h:0≤n∧n≤1099511627775):0 < (Zaf n).length:=by
 unfold Zaf
 rw [if_pos h]
 exact Zg2 _
theorem Zkk (f k n:Nat) (c:UInt8) (r:List UInt8) (hc:128≤c.toNat):decI (f + 1) k n (c :: r)=decI f (k + 1) (n + c.toNat % 128 * 128 ^ k) r:=by
 rw [decI,if_pos hc]
def signless (n:Int):Int:=if n < -549755813888∨549755813887 < n then -1 else if 0≤n then 2 * n else -2 * n - 1
def signed (n:Int):Int:=if n < 0∨1099511627775 < n then 0 else if n % 2=0 then n / 2 else -((n + 1) / 2)
theorem Zmg {n:Int} (h:0≤n∧n≤1099511627775):signless (signed n)=n:=by
 unfold signed signless
 repeat' split
 all_goals omega
def ZcT:List Int→Option (List UInt8)
 | []=>some []
 | x :: r=>if signless x < 0 then none else (ZcT r).map (Zaf (signless x)++·)
def Zb2 (xs:List Int):List UInt8:=((ZcT xs).map (Zaf xs.length++·)).getD []
def Zbj (s:List UInt8):Nat→List Int→Int→Option (List Int×Int)
 | 0,acc,p=>some (acc,p)
 | n + 1,acc,p=>match Zag s p with
  | (v,m,true)=>Zbj s n (acc++[signed v]) (p + m)
  | _=>none
def Za6 (s:List UInt8) (p:Int):Option (List Int×Int):=match Zag s p with
 | (n,m,true)=>Zbj s n.toNat [] (p + m)
 | _=>none
theorem ZfH (s:List UInt8):∀ (n:Nat) (acc:List Int) (p:Int),s.length < p + n→Zbj s n acc p=none∨n=0
 | 0,_,_,_=>.inr rfl
 | n + 1,acc,p,h=>by
  refine .inl ?_
  unfold Zbj
  split
  ·rename_i v m hd
   obtain ⟨h1,_,_,h2,h3,h4,_⟩:=Zav hd
   rcases ZfH s n (acc++[signed v]) (p + m) (by omega) with h5|h5
   ·exact h5
   ·omega
  ·rfl
theorem Zgl (s:List UInt8):∀ (n:Nat) (acc:List Int) (p:Int) (l:List Int) (q:Int),0≤p→p≤s.length→Zbj s n acc p=some (l,q) →
  ∃ r:List Int,l=acc++r∧r.length=n∧p≤q∧q≤s.length∧ZcT r=some ((s.drop p.toNat).take (q - p).toNat)
 | 0,acc,p,l,q,h0,h1,h=>by
  cases h
  exact ⟨[],by simp,rfl,Int.le_refl _,h1,by simp [ZcT]⟩
 | n + 1,acc,p,l,q,h0,h1,h=>by
  unfold Zbj at h
  split at h
  ·rename_i v m hd
   obtain ⟨g1,g2,g3,g4,g5,g6,g7⟩:=Zav hd
   obtain ⟨r,e1,e2,e3,e4,e5⟩:=Zgl s n _ _ l q (by omega) (by omega) h
   have hs:=Zmg ⟨g2,g3⟩
   refine ⟨signed v :: r,by rw [e1];simp,by simp [e2],by omega,e4,?_⟩
   unfold ZcT
   rw [hs,if_neg (by omega),e5,g7]
   simp only [Option.map_some,Option.some.injEq]
   have a1:(p + m).toNat=p.toNat + m.toNat:=by omega
   have a2:(q - p).toNat=m.toNat + (q - (p + m)).toNat:=by omega
   rw [a1,a2,← List.drop_drop,List.take_add]
  ·cases h
theorem Zcf {s:List UInt8} {p:Int} {l:List Int} {q:Int} (h:Za6 s p=some (l,q)) :
  0≤p∧p < q∧q≤s.length∧l.length≤s.length∧Zb2 l=(s.drop p.toNat).take (q - p).toNat:=by
 unfold Za6 at h
 split at h
 ·rename_i n m hd
  obtain ⟨g1,g2,g3,g4,g5,g6,g7⟩:=Zav hd
  have hfew:=ZfH s n.toNat [] (p + m)
  obtain ⟨r,e1,e2,e3,e4,e5⟩:=Zgl s _ _ _ l q (by omega) (by omega) h
  have hl:l=r:=by rw [e1];simp
  subst hl
  have hlen:l.length≤s.length:=by
   apply Nat.le_of_not_lt
   intro hn
   rcases hfew (by omega) with h5|h5
   ·rw [h5] at h;cases h
   ·omega
  refine ⟨g1,by omega,e4,hlen,?_⟩
  unfold Zb2
  rw [e5,e2]
  have a0:((n.toNat:Nat):Int)=n:=by omega
  have a1:(p + m).toNat=p.toNat + m.toNat:=by omega
  have a2:(q - p).toNat=m.toNat + (q - (p + m)).toNat:=by omega
  rw [a0,g7,a1,a2,← List.drop_drop,List.take_add]
  rfl
 ·cases h
theorem ZkN:∀ (xs:List Int) (o:List UInt8),ZcT xs=some o→o.length≤6 * xs.length
 | [],o,h=>by cases h;simp
 | x :: r,o,h=>by
  unfold ZcT at h
  split at h
  ·cases h
  ·cases hr:ZcT r with
   | none=>rw [hr] at h;cases h
   | some b =>
    rw [hr] at h
    cases h
    have:=ZkN r b hr
    have:=ZaA (signless x)
    simp
    omega
theorem ZkP (xs:List Int):(Zb2 xs).length≤6 + 6 * xs.length:=by
 unfold Zb2
 cases h:ZcT xs with
 | none=>simp
 | some o =>
  have:=ZkN xs o h
  have:=ZaA xs.length
  simp
  omega
def Za1 (s:List UInt8):List UInt8:=Zaf s.length++s
def ZaY (s:List UInt8) (p:Int):Option (List UInt8×Int):=match Zag s p with
 | (n,m,true)=>if (s.length:Int) - p - m < n then none else some ((s.drop (p + m).toNat).take n.toNat,m + n)
 | _=>none
theorem Zem {s t:List UInt8} {p q:Int} (h:ZaY s p=some (t,q)):0≤p∧0 < q∧p + q≤s.length∧Za1 t=(s.drop p.toNat).take q.toNat:=by
 unfold ZaY at h
 split at h
 ·rename_i n m hd
  obtain ⟨g1,g2,g3,g4,g5,g6,g7⟩:=Zav hd
  split at h
  ·cases h
  ·cases h
   refine ⟨g1,by omega,by omega,?_⟩
   have hl:((s.drop (p + m).toNat).take n.toNat).length=n.toNat:=by rw [List.length_take,List.length_drop];omega
   unfold Za1
   rw [hl]
   have a0:((n.toNat:Nat):Int)=n:=by omega
   have a1:(p + m).toNat=p.toNat + m.toNat:=by omega
   have a2:(m + n).toNat=m.toNat + n.toNat:=by omega
   rw [a0,g7,a1,a2,← List.drop_drop,List.take_add]
 ·cases h
theorem Zh4 {a b t:List UInt8} (h:t.length≤1099511627775):ZaY (a++Za1 t++b) a.length=some (t,((Za1 t).length:Int)):=by
 have hd:=Zek (n:=(t.length:Int)) ⟨by omega,by omega⟩ a (t++b)
 have e:a++Za1 t++b=a++Zaf (t.length:Int)++(t++b):=by simp [Za1]
 unfold ZaY
 rw [e,hd]
 simp only []
 rw [if_neg (by simp;omega)]
 have e2:((a.length:Int) + ((Zaf (t.length:Int)).length:Int)).toNat=(a++Zaf (t.length:Int)).length:=by simp;omega
 rw [e2,List.drop_left,Int.toNat_natCast,List.take_left]
 simp [Za1]
def csGo:List UInt8→Int→Int→Int→Int×Int
 | [],_,a,b=>(a,b)
 | c :: r,k,a,b=>csGo r (k + 1) ((a + c.toNat) % 65521) ((b + c.toNat * ((k + 1) % 65521)) % 65521)
def Zms (s:List UInt8):Int:=(csGo s 0 0 0).1 + 65536 * (csGo s 0 0 0).2
def ZbB:List UInt8→List UInt8→List UInt8
 | _,[]=>[]
 | [],y :: b=>y :: b
 | x :: a,y :: b=>(y ^^^ x) :: ZbB a b
theorem ZcL:∀ a b:List UInt8,(ZbB a b).length=b.length
 | _,[]=>by simp [ZbB]
 | [],_ :: _=>by simp [ZbB]
 | x :: a,y :: b=>by simp [ZbB,ZcL a b]
theorem Zh9:∀ (a b:List UInt8) (k:Nat),k < b.length→(ZbB a b).getD k 0=if k < a.length then b.getD k 0 ^^^ a.getD k 0 else b.getD k 0
 | _,[],k,h=>by simp at h
 | [],_ :: _,k,_=>by rw [ZbB,if_neg (by simp)]
 | x :: a,y :: b,0,_=>by rw [ZbB,if_pos (by simp)];rfl
 | x :: a,y :: b,k + 1,h=>by
  have ih:=Zh9 a b k (by simpa using h)
  rw [ZbB]
  simpa using ih
def zLen:List UInt8→Nat
 | []=>0
 | y :: r=>if y=0 then zLen r + 1 else 0
def oLen:List UInt8→Nat
 | []=>0
 | y :: r=>if y=0 then 0 else oLen r + 1
theorem Zpx:∀ s:List UInt8,zLen s≤s.length
  | []=>Nat.le_refl _
  | y :: r => by have := Zpx r
                 unfold zLen
                 split<;>simp<;>omega
theorem Zma:∀ s:List UInt8,oLen s≤s.length
  | []=>Nat.le_refl _
  | y :: r => by have := Zma r
                 unfold oLen
                 split<;>simp<;>omega
theorem Zlm:∀ s:List UInt8,s.take (zLen s)=List.replicate (zLen s) 0
 | []=>rfl
 | y :: r=>by
  unfold zLen
  split
  ·rename_i h
   rw [List.take_succ_cons,Zlm r,List.replicate_succ,h]
  ·rfl
def ZcP (s:List UInt8):List UInt8:=(s.drop (zLen s)).take (oLen (s.drop (zLen s)))
def behind (s:List UInt8):List UInt8:=(s.drop (zLen s)).drop (oLen (s.drop (zLen s)))
theorem zo_pos:∀ s:List UInt8,s ≠ []→0 < zLen s + oLen (s.drop (zLen s))
 | [],h=>absurd rfl h
 | y :: r,_=>by
  by_cases hy:y=0
  ·have:zLen (y :: r)=zLen r + 1:=by rw [zLen,if_pos hy]
   omega
  ·have h0:zLen (y :: r)=0:=by rw [zLen,if_neg hy]
   rw [h0,List.drop_zero,oLen,if_neg hy]
   omega
theorem ZiQ (s:List UInt8):(ZcP s).length=oLen (s.drop (zLen s)):=by
 rw [ZcP,List.length_take]
 exact Nat.min_eq_left (Zma _)
theorem ZmW (s:List UInt8):List.replicate (zLen s) 0++ZcP s++behind s=s:=by
 rw [← Zlm,ZcP,behind,List.append_assoc,List.take_append_drop,List.take_append_drop]
theorem ZkS (s:List UInt8):zLen s + (ZcP s).length + (behind s).length=s.length:=by
 have h:=congrArg List.length (ZmW s)
 rw [List.length_append,List.length_append,List.length_replicate] at h
 exact h
theorem Zhv {s:List UInt8} (h:s ≠ []):(behind s).length < s.length:=by
 have h1:=ZkS s
 have h2:=zo_pos s h
 have h3:=ZiQ s
 omega
def Zfz:Nat→List UInt8→List UInt8
 | 0,_=>[]
 | _ + 1,[]=>[]
 | f + 1,y :: r=>Zaf (zLen (y :: r))++Za1 (ZcP (y :: r))++Zfz f (behind (y :: r))
def Zau (s:List UInt8):List UInt8:=Zfz s.length s
theorem ZiR:∀ (f g:Nat) (s:List UInt8),s.length≤f→s.length≤g→Zfz f s=Zfz g s
 | 0,0,_,_,_=>rfl
 | 0,_ + 1,[],_,_=>rfl
 | _ + 1,0,[],_,_=>rfl
 | _ + 1,_ + 1,[],_,_=>rfl
 | 0,_,_ :: _,h,_=>by simp at h
 | _ + 1,0,_ :: _,_,h=>by simp at h
 | f + 1,g + 1,y :: r,h1,h2=>by
  have hb:=Zhv (s:=y :: r) (by simp)
  unfold Zfz
  rw [ZiR f g _ (by omega) (by omega)]
theorem Zf6:Zau []=[]:=rfl
theorem Ziu {s:List UInt8} (h:s ≠ []):Zau s=Zaf (zLen s)++Za1 (ZcP s)++Zau (behind s):=by
 match s,h with
 | y :: r,h =>
  have hb:=Zhv h
  unfold Zau
  rw [show (y :: r).length=r.length + 1 from rfl,Zfz,ZiR r.length _ _ (by simp at hb;omega) (Nat.le_refl _)]
theorem ZrC:∀ (f:Nat) (s:List UInt8),s.length≤f→(Zfz f s).length≤13 * s.length
 | 0,_,_=>by simp [Zfz]
 | _ + 1,[],_=>by simp [Zfz]
 | f + 1,y :: r,h=>by
  have hb:=Zhv (s:=y :: r) (by simp)
  have ih:=ZrC f (behind (y :: r)) (by omega)
  have hl:=ZkS (y :: r)
  have h1:=ZaA (zLen (y :: r))
  have h2:=ZaA ((ZcP (y :: r)).length:Int)
  unfold Zfz
  rw [List.length_append,List.length_append,Za1,List.length_append]
  omega
theorem Zqv (s:List UInt8):(Zau s).length≤13 * s.length:=ZrC _ _ (Nat.le_refl _)
def unpZ (c:Bool) (s:List UInt8):Nat→Int→List UInt8→Option (List UInt8)
 | 0,_,_=>none
 | f + 1,p,acc=>if p < s.length then (match Zag s p with
  | (z,m,true)=>(match ZaY s (p + m) with
   | some (t,u)=>if 20000 - (acc.length:Int) < z + (t.length:Int)∨(c=true∧z=0∧t.length=0) then none else unpZ c s f (p + m + u) (acc++List.replicate z.toNat 0++t)
   | none=>none)
  | _=>none) else some acc
def Zce (c:Bool) (s:List UInt8):Option (List UInt8):=match unpZ c s (s.length + 1) 0 [] with
 | some x=>if Zau x=s then some x else none
 | none=>none
def ZaN (s:List UInt8):Option (List UInt8):=Zce true s
theorem Znj (c:Bool) (s:List UInt8):∀ (f:Nat) (p:Int) (acc l:List UInt8),unpZ c s f p acc=some l→acc.length≤20000→l.length≤20000
 | 0,_,_,_,h,_=>by cases h
 | f + 1,p,acc,l,h,ha=>by
  unfold unpZ at h
  split at h
  ·split at h
   ·rename_i z m hd
    split at h
    ·rename_i t u hu
     split at h
     ·cases h
     ·rename_i hc
      obtain ⟨_,g2,_,_⟩:=Zav hd
      refine Znj c s f _ _ l h ?_
      rw [List.length_append,List.length_append,List.length_replicate]
      omega
    ·cases h
   ·cases h
  ·cases h;exact ha
theorem Zlh (c:Bool) (s:List UInt8):∀ (f g:Nat) (xs acc:List UInt8) (a:List UInt8),s=a++Zfz f xs→xs.length≤f→(Zfz f xs).length < g→acc.length + xs.length≤20000→unpZ c s g a.length acc=some (acc++xs)
 | 0,g + 1,xs,acc,a,hs,hf,_,_=>by
  have:xs=[]:=List.eq_nil_of_length_eq_zero (by omega)
  subst this
  rw [unpZ,if_neg (by rw [hs];simp [Zfz])]
  simp
 | _ + 1,g + 1,[],acc,a,hs,_,_,_=>by
  rw [unpZ,if_neg (by rw [hs];simp [Zfz])]
  simp
 | f + 1,g + 1,x :: r,acc,a,hs,hf,hg,hl=>by
  have hb:=Zhv (s:=x :: r) (by simp)
  have hpl:=ZkS (x :: r)
  have hpo:=ZmW (x :: r)
  have hzo:=zo_pos (x :: r) (by simp)
  rw [← ZiQ] at hzo
  unfold Zfz at hs hg
  generalize zLen (x :: r)=z at *
  generalize ZcP (x :: r)=t at *
  generalize behind (x :: r)=u at *
  simp only [List.length_cons] at hf hl hpl
  have hv:0≤(z:Int)∧(z:Int)≤1099511627775:=by omega
  have hp:=ZgW hv
  have hd:=Zek hv a (Za1 t++Zfz f u)
  have ht:=Zh4 (a:=a++Zaf (z:Int)) (b:=Zfz f u) (t:=t) (by omega)
  have e0:a++Zaf (z:Int)++(Za1 t++Zfz f u)=s:=by rw [hs];simp
  have e1:a++Zaf (z:Int)++Za1 t++Zfz f u=s:=by rw [hs];simp
  rw [e0] at hd
  rw [e1] at ht
  have hsl:=congrArg List.length e0
  rw [List.length_append,List.length_append] at hsl
  have hlt:(a.length:Int) < s.length:=by omega
  rw [unpZ,if_pos hlt,hd]
  simp only []
  have e2:(a.length:Int) + ((Zaf (z:Int)).length:Int)=((a++Zaf (z:Int)).length:Int):=by simp
  rw [e2,ht]
  simp only []
  rw [if_neg (by omega),Int.toNat_natCast]
  rw [List.length_append,List.length_append] at hg
  have ih:=Zlh c s f g u (acc++List.replicate z 0++t) (a++Zaf (z:Int)++Za1 t) e1.symm (by omega) (by omega) (by rw [List.length_append,List.length_append,List.length_replicate];omega)
  have e3:((a++Zaf (z:Int)).length:Int) + ((Za1 t).length:Int)=((a++Zaf (z:Int)++Za1 t).length:Int):=by simp;omega
  rw [e3,ih,← hpo]
  simp
theorem Zgk {x:List UInt8} (c:Bool) (h:x.length≤20000):Zce c (Zau x)=some x:=by
 have hu:=Zlh c (Zau x) x.length ((Zau x).length + 1) x [] [] rfl (Nat.le_refl _) (by unfold Zau;omega) (by simpa using h)
 unfold Zce
 rw [show ((0:Int))=(([]:List UInt8).length:Int) from rfl,hu]
 simp
theorem ZdJ {c:Bool} {s x:List UInt8} (h:Zce c s=some x):Zau x=s∧x.length≤20000:=by
 unfold Zce at h
 split at h
 ·rename_i l hu
  split at h
  ·rename_i he
   cases h
   exact ⟨he,Znj _ _ _ _ _ _ hu (by simp)⟩
  ·cases h
 ·cases h
theorem ZeS (c d:Bool) (s:List UInt8):Zce c s=Zce d s:=by
 match h:Zce c s,g:Zce d s with
 | some x,_ =>
  obtain ⟨h1,h2⟩:=ZdJ h
  rw [← g,← h1]
  exact (Zgk d h2).symm
 | none,some y =>
  obtain ⟨h1,h2⟩:=ZdJ g
  rw [← h1,Zgk c h2] at h
  cases h
 | none,none=>rfl
theorem ZcK {s x:List UInt8} (h:ZaN s=some x):Zau x=s∧x.length≤20000:=ZdJ h
def Zkl (base next:List UInt8):List UInt8:=Zaf next.length++Zau (ZbB base next)
def Zar (base delta:List UInt8):Option (List UInt8):=match Zag delta 0 with
 | (n,m,true)=>(match ZaN (delta.drop m.toNat) with
  | some x=>if (x.length:Int)=n then some (ZbB base x) else none
  | none=>none)
 | _=>none
theorem Zis {base delta t:List UInt8} (h:Zar base delta=some t):t.length≤20000:=by
 unfold Zar at h
 split at h
 ·split at h
  ·rename_i x hx
   split at h
   ·cases h
    rw [ZcL]
    exact (ZcK hx).2
   ·cases h
  ·cases h
 ·cases h
end Go.Proofs.YthfaongbpdnlnaaGreat
