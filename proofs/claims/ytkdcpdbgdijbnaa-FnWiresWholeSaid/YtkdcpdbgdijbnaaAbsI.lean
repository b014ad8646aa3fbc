/- What is proved: the calculus of abstract states: slice literals and appends, ready for use.
   Conditions: none beyond those that each lemma names. -/
import Derived.Test.YtkdcpdbgdijbnaaAbsH
namespace Go.Proofs.Ytkdcpdbgdijbnaa.Ab
open Go.RowKit
theorem beqAll {es : Nat} {els : List (List T)} (h : (els.all fun x => Nat.beq x.length es) = true) : ∀ x ∈ els, x.length = es := fun x hx => Nat.eq_of_beq_eq_true (List.all_eq_true.1 h x hx)
section
variable {P : Program} {B : Nat → Prop} {W : En} {o : Oper} {os : List Nat} {st : St} {KE : V → List (Nat × Nat × Ob) → Prop}
theorem OpS.lit {t : TypeId} {len : Nat} {parts : Array (Nat × Operand)} {xs : List Operand} {y ye : Ty} {e es eb site ep : Nat} {zs : List V} {ts : List T} {ks : List (Nat × Nat)} {d0 d fl : Bool} {els : List (List T)} {kl : List (Nat × Nat × Ob)}
    (ho : o.op = .buildSlice t len parts) (hd : o.dst = some site) (hparts : parts.toList = (xs.zipIdx 0).map fun p => (p.2, p.1)) (hlen : xs.length = len) (hy : tinfo P t = some y) (hk : y.k = .slice e es eb) (hye : tinfo P e = some ye) (hz : ye.zero = some zs) (hzl : zs.length = es) (hes : Nat.blt 0 es = true) (hsm : Nat.ble (len * es) 16777216 = true)
    (hsto : (xs.map st.ev).all (fun v => (cellsV v).all V.sto && Nat.beq (cellsV v).length es) = true) (hcv : cvt (look st.objs) ((xs.map st.ev).flatMap cellsV) = some (ts, ks, d0)) (hd0 : d0 = d) (hnd : nodupB (ks.map (·.1)) = true) (hks : (ks.all fun p => !Nat.beq p.1 site) = true)
    (hel : els.flatten = ts) (hell : els.length = len) (hu : (els.all fun x => Nat.beq x.length es) = true) (hfl : ts.all T.flat = fl) (hep : nep (look st.objs site) = ep) (hkl : kills ks = kl) (hK : KE (.hnd site ep) ((site, ep, .row fl d e els) :: kl)) : OpS P B W o st KE := by
  subst hd0 hkl
  refine OpS.buildSlice ho hd hparts hlen hy hk hye hz hzl (Nat.le_of_ble_eq_true hes) (Nat.le_of_ble_eq_true hsm) rfl ?_ hcv (nodupB_ok hnd) (fun x e hx hs => ?_) hel hell (beqAll hu) hfl hep hK
  · rw [List.all_eq_true] at hsto ⊢
    intro v hv
    have := hsto v hv
    rw [Bool.and_eq_true] at this ⊢
    exact ⟨this.1, decide_eq_true (Nat.eq_of_beq_eq_true this.2)⟩
  · have := List.all_eq_true.1 hks _ hx
    subst hs
    simp at this
theorem uni_lst {a : Act} {w : World} {pl : Nat → Value} {F : Nat → Nat → Prop} (h : SimW P B W st a w pl F) {x : Operand} {fl : Bool} {e : TypeId} {els : List (List T)} (hx : st.ev x = .t (.lst fl e els)) : (∀ x ∈ els, x.length = P.cellsOf e) ∧ (fl = true → ∀ x ∈ els.flatten, x.flat = true) := by
  obtain ⟨A, c, us, h1, h2, h3, h4, h5, _⟩ := h.lst_at hx
  exact ⟨h4, h5⟩
theorem uni_hnd {a : Act} {w : World} {pl : Nat → Value} {F : Nat → Nat → Prop} (h : SimW P B W st a w pl F) {i ep : Nat} {fl d : Bool} {e : TypeId} {els : List (List T)} (hl : look st.objs i = some (ep, .row fl d e els)) : (∀ x ∈ els, x.length = P.cellsOf e) ∧ (fl = true → ∀ x ∈ els.flatten, x.flat = true) := by
  obtain ⟨us, hp⟩ := row_parts (h.objs i _ _ hl)
  exact ⟨hp.uni, hp.flt⟩
theorem uni_str {s : List UInt8} : (∀ x ∈ (s.map fun c => [T.int .u8 (c.toNat : Nat)]), x.length = 1) ∧ ∀ x ∈ (s.map fun c => [T.int .u8 (c.toNat : Nat)]).flatten, x.flat = true :=
  ⟨fun x hx => by obtain ⟨c, _, rfl⟩ := List.mem_map.1 hx; rfl, fun x hx => by
    obtain ⟨l, hl, hx⟩ := List.mem_flatten.1 hx
    obtain ⟨c, _, rfl⟩ := List.mem_map.1 hl
    rw [List.mem_singleton.1 hx]
    rfl⟩
theorem cut_mem {α : Type} {els : List (List α)} {j n : Nat} {x : List α} (h : x ∈ (els.drop j).take n) : x ∈ els := List.mem_of_mem_drop (List.mem_of_mem_take h)
theorem cut_flat {els : List (List T)} {j n : Nat} {x : T} (h : x ∈ ((els.drop j).take n).flatten) : x ∈ els.flatten := by
  obtain ⟨l, hl, hx⟩ := List.mem_flatten.1 h
  exact List.mem_flatten.2 ⟨l, cut_mem hl, hx⟩
theorem OpS.app_nil_lst {s x : Operand} {c : Call} {t xt e es eb site ep : Nat} {y yx ye : Ty} {zs : List V} {fl : Bool} {e2 n : Nat} {els els' : List (List T)} {flr dr : Bool} (ho : o.op = .call c) (hd : o.dst = some site) (h1 : c.callee = .builtin .append) (h2 : c.args = #[s, x]) (h3 : c.argTypes = #[t, xt])
    (hy : tinfo P t = some y) (hk : y.k = .slice e es eb) (hyx : tinfo P xt = some yx) (hkx : yx.k = .str ∨ ∃ a b c, yx.k = .slice a b c) (hye : tinfo P e = some ye) (hz : ye.zero = some zs) (hzl : zs.length = es) (hs : st.ev s = .t .nil) (hx : st.ev x = .t (.lst fl e2 els)) (he2 : e2 = e) (hn : els.length = n) (hfit : fits 0 n eb) (hflr : fl = flr) (hdr : fl = dr) (hels : els = els') (hep : nep (look st.objs site) = ep)
    (hK : KE (.hnd site ep) ((site, ep, .row flr dr e els') :: [])) : OpS P B W o st KE := by
  have hes : P.cellsOf e = es := (slice_t hy hk).2.1
  subst hflr hdr hels
  subst he2 hn
  have hln : (els).length = els.length := rfl
  have hsrc : ∀ a w pl F, SimW P B W st a w pl F → SrcOk P B W st a w F x es els [] fl := fun a w pl F h => by rw [← hes]; exact h.src_lst hx
  have huni : ∀ a w pl F, SimW P B W st a w pl F → (∀ y ∈ els, y.length = es) ∧ (fl = true → ∀ y ∈ (els).flatten, y.flat = true) := fun a w pl F h => by rw [← hes]; exact uni_lst h hx
  exact OpS.append_nil (ks := []) (fl := fl) (d := fl) ho hd h1 h2 h3 hy hk hyx hkx hye hz hzl hs hsrc huni (fun x e h => by cases h) (by rw [hln]; exact hfit) hep hK
theorem OpS.app_hnd_lst {s x : Operand} {c : Call} {t xt e e0 es eb i ep n1 : Nat} {y yx ye : Ty} {zs : List V} {els0 : List (List T)} {d0 fl0 : Bool} {fl : Bool} {e2 n : Nat} {els els' : List (List T)} {flr dr : Bool} (ho : o.op = .call c) (h1 : c.callee = .builtin .append) (h2 : c.args = #[s, x]) (h3 : c.argTypes = #[t, xt])
    (hy : tinfo P t = some y) (hk : y.k = .slice e es eb) (hyx : tinfo P xt = some yx) (hkx : yx.k = .str ∨ ∃ a b c, yx.k = .slice a b c) (hye : tinfo P e = some ye) (hz : ye.zero = some zs) (hzl : zs.length = es) (hs : st.ev s = .hnd i ep) (hl : look st.objs i = some (ep, .row fl0 d0 e0 els0)) (he0 : e0 = e) (hn1 : els0.length = n1) (hx : st.ev x = .t (.lst fl e2 els)) (he2 : e2 = e) (hn : els.length = n) (hfit : fits n1 n eb) (hflr : (fl0 && fl) = flr) (hdr : (d0 && fl) = dr) (hels : els0 ++ els = els')
    (hK : KE (.hnd i (ep + 1)) ((i, ep + 1, .row flr dr e els') :: [])) : OpS P B W o st KE := by
  have hes : P.cellsOf e = es := (slice_t hy hk).2.1
  subst hflr hdr hels hn1 he0
  subst he2 hn
  have hln : (els).length = els.length := rfl
  have hsrc : ∀ a w pl F, SimW P B W st a w pl F → SrcOk P B W st a w F x es els [] fl := fun a w pl F h => by rw [← hes]; exact h.src_lst hx
  have huni : ∀ a w pl F, SimW P B W st a w pl F → (∀ y ∈ els, y.length = es) ∧ (fl = true → ∀ y ∈ (els).flatten, y.flat = true) := fun a w pl F h => by rw [← hes]; exact uni_lst h hx
  exact OpS.append_hnd (ks := []) (fl := fl0 && fl) (d := fl) (d' := d0 && fl) ho h1 h2 h3 hy hk hyx hkx hye hz hzl hs hl rfl hsrc (fun a w pl F h => ⟨(huni a w pl F h).1, fun hf => (huni a w pl F h).2 (Eq.mp (Bool.and_eq_true _ _) hf).2⟩) (fun x e h => by cases h) (by rw [hln]; exact hfit) (fun hf => (Eq.mp (Bool.and_eq_true _ _) hf).1) (fun hf => Eq.mp (Bool.and_eq_true _ _) hf) hK
theorem OpS.app_nil_nil {s x : Operand} {c : Call} {t xt e es eb site ep : Nat} {y yx ye : Ty} {zs : List V} {n : Nat} {els' : List (List T)} {flr dr : Bool} (ho : o.op = .call c) (hd : o.dst = some site) (h1 : c.callee = .builtin .append) (h2 : c.args = #[s, x]) (h3 : c.argTypes = #[t, xt])
    (hy : tinfo P t = some y) (hk : y.k = .slice e es eb) (hyx : tinfo P xt = some yx) (hkx : yx.k = .str ∨ ∃ a b c, yx.k = .slice a b c) (hye : tinfo P e = some ye) (hz : ye.zero = some zs) (hzl : zs.length = es) (hs : st.ev s = .t .nil) (hx : st.ev x = .t .nil) (hn : 0 = n) (hfit : fits 0 n eb) (hflr : true = flr) (hdr : true = dr) (hels : ([] : List (List T)) = els') (hep : nep (look st.objs site) = ep)
    (hK : KE (.hnd site ep) ((site, ep, .row flr dr e els') :: [])) : OpS P B W o st KE := by
  have hes : P.cellsOf e = es := (slice_t hy hk).2.1
  subst hflr hdr hels
  subst hn
  have hln : (([] : List (List T))).length = 0 := rfl
  have hsrc : ∀ a w pl F, SimW P B W st a w pl F → SrcOk P B W st a w F x es ([] : List (List T)) [] true := fun a w pl F h => h.src_nil hx es
  have huni : ∀ a w pl F, SimW P B W st a w pl F → (∀ y ∈ ([] : List (List T)), y.length = es) ∧ (true = true → ∀ y ∈ (([] : List (List T))).flatten, y.flat = true) := fun a w pl F h => ⟨fun x hx => (by cases hx), fun _ x hx => (by cases hx)⟩
  exact OpS.append_nil (ks := []) (fl := true) (d := true) ho hd h1 h2 h3 hy hk hyx hkx hye hz hzl hs hsrc huni (fun x e h => by cases h) (by rw [hln]; exact hfit) hep hK
theorem OpS.app_hnd_nil {s x : Operand} {c : Call} {t xt e e0 es eb i ep n1 : Nat} {y yx ye : Ty} {zs : List V} {els0 : List (List T)} {d0 fl0 : Bool} {n : Nat} {els' : List (List T)} {flr dr : Bool} (ho : o.op = .call c) (h1 : c.callee = .builtin .append) (h2 : c.args = #[s, x]) (h3 : c.argTypes = #[t, xt])
    (hy : tinfo P t = some y) (hk : y.k = .slice e es eb) (hyx : tinfo P xt = some yx) (hkx : yx.k = .str ∨ ∃ a b c, yx.k = .slice a b c) (hye : tinfo P e = some ye) (hz : ye.zero = some zs) (hzl : zs.length = es) (hs : st.ev s = .hnd i ep) (hl : look st.objs i = some (ep, .row fl0 d0 e0 els0)) (he0 : e0 = e) (hn1 : els0.length = n1) (hx : st.ev x = .t .nil) (hn : 0 = n) (hfit : fits n1 n eb) (hflr : (fl0 && true) = flr) (hdr : (d0 && true) = dr) (hels : els0 ++ ([] : List (List T)) = els')
    (hK : KE (.hnd i (ep + 1)) ((i, ep + 1, .row flr dr e els') :: [])) : OpS P B W o st KE := by
  have hes : P.cellsOf e = es := (slice_t hy hk).2.1
  subst hflr hdr hels hn1 he0
  subst hn
  have hln : (([] : List (List T))).length = 0 := rfl
  have hsrc : ∀ a w pl F, SimW P B W st a w pl F → SrcOk P B W st a w F x es ([] : List (List T)) [] true := fun a w pl F h => h.src_nil hx es
  have huni : ∀ a w pl F, SimW P B W st a w pl F → (∀ y ∈ ([] : List (List T)), y.length = es) ∧ (true = true → ∀ y ∈ (([] : List (List T))).flatten, y.flat = true) := fun a w pl F h => ⟨fun x hx => (by cases hx), fun _ x hx => (by cases hx)⟩
  exact OpS.append_hnd (ks := []) (fl := fl0 && true) (d := true) (d' := d0 && true) ho h1 h2 h3 hy hk hyx hkx hye hz hzl hs hl rfl hsrc (fun a w pl F h => ⟨(huni a w pl F h).1, fun hf => (huni a w pl F h).2 (Eq.mp (Bool.and_eq_true _ _) hf).2⟩) (fun x e h => by cases h) (by rw [hln]; exact hfit) (fun hf => (Eq.mp (Bool.and_eq_true _ _) hf).1) (fun hf => Eq.mp (Bool.and_eq_true _ _) hf) hK
theorem OpS.app_nil_str {s x : Operand} {c : Call} {t xt e es eb site ep : Nat} {y yx ye : Ty} {zs : List V} {b : List UInt8} {n : Nat} {els' : List (List T)} {flr dr : Bool} (ho : o.op = .call c) (hd : o.dst = some site) (h1 : c.callee = .builtin .append) (h2 : c.args = #[s, x]) (h3 : c.argTypes = #[t, xt])
    (hy : tinfo P t = some y) (hk : y.k = .slice e es eb) (hyx : tinfo P xt = some yx) (hkx : yx.k = .str ∨ ∃ a b c, yx.k = .slice a b c) (hye : tinfo P e = some ye) (hz : ye.zero = some zs) (hzl : zs.length = es) (hs : st.ev s = .t .nil) (hx : st.ev x = .t (.str b)) (hes1 : es = 1) (hn : b.length = n) (hfit : fits 0 n eb) (hflr : true = flr) (hdr : true = dr) (hels : (b.map fun c => [T.int .u8 (c.toNat : Nat)]) = els') (hep : nep (look st.objs site) = ep)
    (hK : KE (.hnd site ep) ((site, ep, .row flr dr e els') :: [])) : OpS P B W o st KE := by
  have hes : P.cellsOf e = es := (slice_t hy hk).2.1
  subst hflr hdr hels
  subst hn
  have hln : ((b.map fun c => [T.int .u8 (c.toNat : Nat)])).length = b.length := by simp
  have hsrc : ∀ a w pl F, SimW P B W st a w pl F → SrcOk P B W st a w F x es (b.map fun c => [T.int .u8 (c.toNat : Nat)]) [] true := fun a w pl F h => by subst hes1; exact h.src_str hx
  have huni : ∀ a w pl F, SimW P B W st a w pl F → (∀ y ∈ (b.map fun c => [T.int .u8 (c.toNat : Nat)]), y.length = es) ∧ (true = true → ∀ y ∈ ((b.map fun c => [T.int .u8 (c.toNat : Nat)])).flatten, y.flat = true) := fun a w pl F h => by subst hes1; exact ⟨uni_str.1, fun _ => uni_str.2⟩
  exact OpS.append_nil (ks := []) (fl := true) (d := true) ho hd h1 h2 h3 hy hk hyx hkx hye hz hzl hs hsrc huni (fun x e h => by cases h) (by rw [hln]; exact hfit) hep hK
theorem OpS.app_hnd_str {s x : Operand} {c : Call} {t xt e e0 es eb i ep n1 : Nat} {y yx ye : Ty} {zs : List V} {els0 : List (List T)} {d0 fl0 : Bool} {b : List UInt8} {n : Nat} {els' : List (List T)} {flr dr : Bool} (ho : o.op = .call c) (h1 : c.callee = .builtin .append) (h2 : c.args = #[s, x]) (h3 : c.argTypes = #[t, xt])
    (hy : tinfo P t = some y) (hk : y.k = .slice e es eb) (hyx : tinfo P xt = some yx) (hkx : yx.k = .str ∨ ∃ a b c, yx.k = .slice a b c) (hye : tinfo P e = some ye) (hz : ye.zero = some zs) (hzl : zs.length = es) (hs : st.ev s = .hnd i ep) (hl : look st.objs i = some (ep, .row fl0 d0 e0 els0)) (he0 : e0 = e) (hn1 : els0.length = n1) (hx : st.ev x = .t (.str b)) (hes1 : es = 1) (hn : b.length = n) (hfit : fits n1 n eb) (hflr : (fl0 && true) = flr) (hdr : (d0 && true) = dr) (hels : els0 ++ (b.map fun c => [T.int .u8 (c.toNat : Nat)]) = els')
    (hK : KE (.hnd i (ep + 1)) ((i, ep + 1, .row flr dr e els') :: [])) : OpS P B W o st KE := by
  have hes : P.cellsOf e = es := (slice_t hy hk).2.1
  subst hflr hdr hels hn1 he0
  subst hn
  have hln : ((b.map fun c => [T.int .u8 (c.toNat : Nat)])).length = b.length := by simp
  have hsrc : ∀ a w pl F, SimW P B W st a w pl F → SrcOk P B W st a w F x es (b.map fun c => [T.int .u8 (c.toNat : Nat)]) [] true := fun a w pl F h => by subst hes1; exact h.src_str hx
  have huni : ∀ a w pl F, SimW P B W st a w pl F → (∀ y ∈ (b.map fun c => [T.int .u8 (c.toNat : Nat)]), y.length = es) ∧ (true = true → ∀ y ∈ ((b.map fun c => [T.int .u8 (c.toNat : Nat)])).flatten, y.flat = true) := fun a w pl F h => by subst hes1; exact ⟨uni_str.1, fun _ => uni_str.2⟩
  exact OpS.append_hnd (ks := []) (fl := fl0 && true) (d := true) (d' := d0 && true) ho h1 h2 h3 hy hk hyx hkx hye hz hzl hs hl rfl hsrc (fun a w pl F h => ⟨(huni a w pl F h).1, fun hf => (huni a w pl F h).2 (Eq.mp (Bool.and_eq_true _ _) hf).2⟩) (fun x e h => by cases h) (by rw [hln]; exact hfit) (fun hf => (Eq.mp (Bool.and_eq_true _ _) hf).1) (fun hf => Eq.mp (Bool.and_eq_true _ _) hf) hK
theorem OpS.app_nil_hnd {s x : Operand} {c : Call} {t xt e es eb site ep : Nat} {y yx ye : Ty} {zs : List V} {fl d : Bool} {j ej e2 n : Nat} {els els' : List (List T)} {flr dr : Bool} (ho : o.op = .call c) (hd : o.dst = some site) (h1 : c.callee = .builtin .append) (h2 : c.args = #[s, x]) (h3 : c.argTypes = #[t, xt])
    (hy : tinfo P t = some y) (hk : y.k = .slice e es eb) (hyx : tinfo P xt = some yx) (hkx : yx.k = .str ∨ ∃ a b c, yx.k = .slice a b c) (hye : tinfo P e = some ye) (hz : ye.zero = some zs) (hzl : zs.length = es) (hs : st.ev s = .t .nil) (hx : st.ev x = .hnd j ej) (hlx : look st.objs j = some (ej, .row fl d e2 els)) (hfd : fl = true ∨ d = false) (he2 : e2 = e) (hn : els.length = n) (hfit : fits 0 n eb) (hflr : fl = flr) (hdr : fl = dr) (hels : els = els') (hep : nep (look st.objs site) = ep)
    (hK : KE (.hnd site ep) ((site, ep, .row flr dr e els') :: [])) : OpS P B W o st KE := by
  have hes : P.cellsOf e = es := (slice_t hy hk).2.1
  subst hflr hdr hels
  subst he2 hn
  have hln : (els).length = els.length := rfl
  have hsrc : ∀ a w pl F, SimW P B W st a w pl F → SrcOk P B W st a w F x es els [] fl := fun a w pl F h => by rw [← hes]; exact h.src_hnd hx hlx hfd
  have huni : ∀ a w pl F, SimW P B W st a w pl F → (∀ y ∈ els, y.length = es) ∧ (fl = true → ∀ y ∈ (els).flatten, y.flat = true) := fun a w pl F h => by rw [← hes]; exact uni_hnd h hlx
  exact OpS.append_nil (ks := []) (fl := fl) (d := fl) ho hd h1 h2 h3 hy hk hyx hkx hye hz hzl hs hsrc huni (fun x e h => by cases h) (by rw [hln]; exact hfit) hep hK
theorem OpS.app_hnd_hnd {s x : Operand} {c : Call} {t xt e e0 es eb i ep n1 : Nat} {y yx ye : Ty} {zs : List V} {els0 : List (List T)} {d0 fl0 : Bool} {fl d : Bool} {j ej e2 n : Nat} {els els' : List (List T)} {flr dr : Bool} (ho : o.op = .call c) (h1 : c.callee = .builtin .append) (h2 : c.args = #[s, x]) (h3 : c.argTypes = #[t, xt])
    (hy : tinfo P t = some y) (hk : y.k = .slice e es eb) (hyx : tinfo P xt = some yx) (hkx : yx.k = .str ∨ ∃ a b c, yx.k = .slice a b c) (hye : tinfo P e = some ye) (hz : ye.zero = some zs) (hzl : zs.length = es) (hs : st.ev s = .hnd i ep) (hl : look st.objs i = some (ep, .row fl0 d0 e0 els0)) (he0 : e0 = e) (hn1 : els0.length = n1) (hx : st.ev x = .hnd j ej) (hlx : look st.objs j = some (ej, .row fl d e2 els)) (hfd : fl = true ∨ d = false) (he2 : e2 = e) (hn : els.length = n) (hfit : fits n1 n eb) (hflr : (fl0 && fl) = flr) (hdr : (d0 && fl) = dr) (hels : els0 ++ els = els')
    (hK : KE (.hnd i (ep + 1)) ((i, ep + 1, .row flr dr e els') :: [])) : OpS P B W o st KE := by
  have hes : P.cellsOf e = es := (slice_t hy hk).2.1
  subst hflr hdr hels hn1 he0
  subst he2 hn
  have hln : (els).length = els.length := rfl
  have hsrc : ∀ a w pl F, SimW P B W st a w pl F → SrcOk P B W st a w F x es els [] fl := fun a w pl F h => by rw [← hes]; exact h.src_hnd hx hlx hfd
  have huni : ∀ a w pl F, SimW P B W st a w pl F → (∀ y ∈ els, y.length = es) ∧ (fl = true → ∀ y ∈ (els).flatten, y.flat = true) := fun a w pl F h => by rw [← hes]; exact uni_hnd h hlx
  exact OpS.append_hnd (ks := []) (fl := fl0 && fl) (d := fl) (d' := d0 && fl) ho h1 h2 h3 hy hk hyx hkx hye hz hzl hs hl rfl hsrc (fun a w pl F h => ⟨(huni a w pl F h).1, fun hf => (huni a w pl F h).2 (Eq.mp (Bool.and_eq_true _ _) hf).2⟩) (fun x e h => by cases h) (by rw [hln]; exact hfit) (fun hf => (Eq.mp (Bool.and_eq_true _ _) hf).1) (fun hf => Eq.mp (Bool.and_eq_true _ _) hf) hK
theorem OpS.app_nil_view {s x : Operand} {c : Call} {t xt e es eb site ep : Nat} {y yx ye : Ty} {zs : List V} {fl d : Bool} {j ej k0 n0 e2 n : Nat} {els els' : List (List T)} {flr dr : Bool} (ho : o.op = .call c) (hd : o.dst = some site) (h1 : c.callee = .builtin .append) (h2 : c.args = #[s, x]) (h3 : c.argTypes = #[t, xt])
    (hy : tinfo P t = some y) (hk : y.k = .slice e es eb) (hyx : tinfo P xt = some yx) (hkx : yx.k = .str ∨ ∃ a b c, yx.k = .slice a b c) (hye : tinfo P e = some ye) (hz : ye.zero = some zs) (hzl : zs.length = es) (hs : st.ev s = .t .nil) (hx : st.ev x = .view j ej k0 n0) (hlx : look st.objs j = some (ej, .row fl d e2 els)) (hfd : fl = true ∨ d = false) (he2 : e2 = e) (hjn : k0 + n0 ≤ els.length) (hn : n0 = n) (hfit : fits 0 n eb) (hflr : fl = flr) (hdr : fl = dr) (hels : ((els.drop k0).take n0) = els') (hep : nep (look st.objs site) = ep)
    (hK : KE (.hnd site ep) ((site, ep, .row flr dr e els') :: [])) : OpS P B W o st KE := by
  have hes : P.cellsOf e = es := (slice_t hy hk).2.1
  subst hflr hdr hels
  subst he2 hn
  have hln : (((els.drop k0).take n0)).length = n0 := by rw [List.length_take, List.length_drop]; omega
  have hsrc : ∀ a w pl F, SimW P B W st a w pl F → SrcOk P B W st a w F x es ((els.drop k0).take n0) [] fl := fun a w pl F h => by rw [← hes]; exact h.src_view hx hlx hfd hjn
  have huni : ∀ a w pl F, SimW P B W st a w pl F → (∀ y ∈ ((els.drop k0).take n0), y.length = es) ∧ (fl = true → ∀ y ∈ (((els.drop k0).take n0)).flatten, y.flat = true) := fun a w pl F h => by rw [← hes]; exact ⟨fun x hx => (uni_hnd h hlx).1 x (cut_mem hx), fun hf x hx => (uni_hnd h hlx).2 hf x (cut_flat hx)⟩
  exact OpS.append_nil (ks := []) (fl := fl) (d := fl) ho hd h1 h2 h3 hy hk hyx hkx hye hz hzl hs hsrc huni (fun x e h => by cases h) (by rw [hln]; exact hfit) hep hK
theorem OpS.app_hnd_view {s x : Operand} {c : Call} {t xt e e0 es eb i ep n1 : Nat} {y yx ye : Ty} {zs : List V} {els0 : List (List T)} {d0 fl0 : Bool} {fl d : Bool} {j ej k0 n0 e2 n : Nat} {els els' : List (List T)} {flr dr : Bool} (ho : o.op = .call c) (h1 : c.callee = .builtin .append) (h2 : c.args = #[s, x]) (h3 : c.argTypes = #[t, xt])
    (hy : tinfo P t = some y) (hk : y.k = .slice e es eb) (hyx : tinfo P xt = some yx) (hkx : yx.k = .str ∨ ∃ a b c, yx.k = .slice a b c) (hye : tinfo P e = some ye) (hz : ye.zero = some zs) (hzl : zs.length = es) (hs : st.ev s = .hnd i ep) (hl : look st.objs i = some (ep, .row fl0 d0 e0 els0)) (he0 : e0 = e) (hn1 : els0.length = n1) (hx : st.ev x = .view j ej k0 n0) (hlx : look st.objs j = some (ej, .row fl d e2 els)) (hfd : fl = true ∨ d = false) (he2 : e2 = e) (hjn : k0 + n0 ≤ els.length) (hn : n0 = n) (hfit : fits n1 n eb) (hflr : (fl0 && fl) = flr) (hdr : (d0 && fl) = dr) (hels : els0 ++ ((els.drop k0).take n0) = els')
    (hK : KE (.hnd i (ep + 1)) ((i, ep + 1, .row flr dr e els') :: [])) : OpS P B W o st KE := by
  have hes : P.cellsOf e = es := (slice_t hy hk).2.1
  subst hflr hdr hels hn1 he0
  subst he2 hn
  have hln : (((els.drop k0).take n0)).length = n0 := by rw [List.length_take, List.length_drop]; omega
  have hsrc : ∀ a w pl F, SimW P B W st a w pl F → SrcOk P B W st a w F x es ((els.drop k0).take n0) [] fl := fun a w pl F h => by rw [← hes]; exact h.src_view hx hlx hfd hjn
  have huni : ∀ a w pl F, SimW P B W st a w pl F → (∀ y ∈ ((els.drop k0).take n0), y.length = es) ∧ (fl = true → ∀ y ∈ (((els.drop k0).take n0)).flatten, y.flat = true) := fun a w pl F h => by rw [← hes]; exact ⟨fun x hx => (uni_hnd h hlx).1 x (cut_mem hx), fun hf x hx => (uni_hnd h hlx).2 hf x (cut_flat hx)⟩
  exact OpS.append_hnd (ks := []) (fl := fl0 && fl) (d := fl) (d' := d0 && fl) ho h1 h2 h3 hy hk hyx hkx hye hz hzl hs hl rfl hsrc (fun a w pl F h => ⟨(huni a w pl F h).1, fun hf => (huni a w pl F h).2 (Eq.mp (Bool.and_eq_true _ _) hf).2⟩) (fun x e h => by cases h) (by rw [hln]; exact hfit) (fun hf => (Eq.mp (Bool.and_eq_true _ _) hf).1) (fun hf => Eq.mp (Bool.and_eq_true _ _) hf) hK
theorem OpS.app_nil_move {s x : Operand} {c : Call} {t xt e es eb site ep : Nat} {y yx ye : Ty} {zs : List V} {fl : Bool} {j ej e2 n : Nat} {els els' : List (List T)} {flr dr : Bool} (ho : o.op = .call c) (hd : o.dst = some site) (h1 : c.callee = .builtin .append) (h2 : c.args = #[s, x]) (h3 : c.argTypes = #[t, xt])
    (hy : tinfo P t = some y) (hk : y.k = .slice e es eb) (hyx : tinfo P xt = some yx) (hkx : yx.k = .str ∨ ∃ a b c, yx.k = .slice a b c) (hye : tinfo P e = some ye) (hz : ye.zero = some zs) (hzl : zs.length = es) (hs : st.ev s = .t .nil) (hx : st.ev x = .hnd j ej) (hlx : look st.objs j = some (ej, .row fl true e2 els)) (he2 : e2 = e) (hn : els.length = n) (hne0 : Nat.beq j site = false) (hfit : fits 0 n eb) (hflr : fl = flr) (hdr : true = dr) (hels : els = els') (hep : nep (look st.objs site) = ep)
    (hK : KE (.hnd site ep) ((site, ep, .row flr dr e els') :: [(j, ej + 1, .gone)])) : OpS P B W o st KE := by
  have hes : P.cellsOf e = es := (slice_t hy hk).2.1
  have hne := Nat.ne_of_beq_eq_false hne0
  subst hflr hdr hels
  subst he2 hn
  have hln : (els).length = els.length := rfl
  have hsrc : ∀ a w pl F, SimW P B W st a w pl F → SrcOk P B W st a w F x es els [(j, ej)] true := fun a w pl F h => by rw [← hes]; exact h.src_move hx hlx
  have huni : ∀ a w pl F, SimW P B W st a w pl F → (∀ y ∈ els, y.length = es) ∧ (fl = true → ∀ y ∈ (els).flatten, y.flat = true) := fun a w pl F h => by rw [← hes]; exact uni_hnd h hlx
  exact OpS.append_nil (ks := [(j, ej)]) (fl := fl) (d := true) ho hd h1 h2 h3 hy hk hyx hkx hye hz hzl hs hsrc huni (fun x e h => by simp at h; obtain ⟨rfl, _⟩ := h; exact hne) (by rw [hln]; exact hfit) hep hK
theorem OpS.app_hnd_move {s x : Operand} {c : Call} {t xt e e0 es eb i ep n1 : Nat} {y yx ye : Ty} {zs : List V} {els0 : List (List T)} {d0 fl0 : Bool} {fl : Bool} {j ej e2 n : Nat} {els els' : List (List T)} {flr dr : Bool} (ho : o.op = .call c) (h1 : c.callee = .builtin .append) (h2 : c.args = #[s, x]) (h3 : c.argTypes = #[t, xt])
    (hy : tinfo P t = some y) (hk : y.k = .slice e es eb) (hyx : tinfo P xt = some yx) (hkx : yx.k = .str ∨ ∃ a b c, yx.k = .slice a b c) (hye : tinfo P e = some ye) (hz : ye.zero = some zs) (hzl : zs.length = es) (hs : st.ev s = .hnd i ep) (hl : look st.objs i = some (ep, .row fl0 d0 e0 els0)) (he0 : e0 = e) (hn1 : els0.length = n1) (hx : st.ev x = .hnd j ej) (hlx : look st.objs j = some (ej, .row fl true e2 els)) (he2 : e2 = e) (hn : els.length = n) (hne0 : Nat.beq j i = false) (hfit : fits n1 n eb) (hflr : (fl0 && fl) = flr) (hdr : (d0 && true) = dr) (hels : els0 ++ els = els')
    (hK : KE (.hnd i (ep + 1)) ((i, ep + 1, .row flr dr e els') :: [(j, ej + 1, .gone)])) : OpS P B W o st KE := by
  have hes : P.cellsOf e = es := (slice_t hy hk).2.1
  have hne := Nat.ne_of_beq_eq_false hne0
  subst hflr hdr hels hn1 he0
  subst he2 hn
  have hln : (els).length = els.length := rfl
  have hsrc : ∀ a w pl F, SimW P B W st a w pl F → SrcOk P B W st a w F x es els [(j, ej)] true := fun a w pl F h => by rw [← hes]; exact h.src_move hx hlx
  have huni : ∀ a w pl F, SimW P B W st a w pl F → (∀ y ∈ els, y.length = es) ∧ (fl = true → ∀ y ∈ (els).flatten, y.flat = true) := fun a w pl F h => by rw [← hes]; exact uni_hnd h hlx
  exact OpS.append_hnd (ks := [(j, ej)]) (fl := fl0 && fl) (d := true) (d' := d0 && true) ho h1 h2 h3 hy hk hyx hkx hye hz hzl hs hl rfl hsrc (fun a w pl F h => ⟨(huni a w pl F h).1, fun hf => (huni a w pl F h).2 (Eq.mp (Bool.and_eq_true _ _) hf).2⟩) (fun x e h => by simp at h; obtain ⟨rfl, _⟩ := h; exact hne) (by rw [hln]; exact hfit) (fun hf => (Eq.mp (Bool.and_eq_true _ _) hf).1) (fun hf => Eq.mp (Bool.and_eq_true _ _) hf) hK
/-! ### Orders, by what has been done -/
theorem aA.cut {os : List Nat} {ops : Array Oper} {n0 n : Nat} {ls0 ls : Array Bool} {K : St → Prop} {st0 s : St} (rest : aA P B W ops os n ls K s → aA P B W ops os n0 ls0 K st0) (main : aA P B W ops os n ls K s) : aA P B W ops os n0 ls0 K st0 := rest main
theorem aA.to {os : List Nat} {ops : Array Oper} {n n' : Nat} {ls ls' : Array Bool} {K : St → Prop} {s : St} (hl : ls = ls') (hn : n = n') (h : aA P B W ops os n' ls' K s) : aA P B W ops os n ls K s := by subst hl hn; exact h
theorem aA.weak {os : List Nat} {ops : Array Oper} {n : Nat} {ls : Array Bool} {K : St → Prop} {s s' : St} (h : aA P B W ops os n ls K s') (hl : Le s s') : aA P B W ops os n ls K s := fun w0 X a w pl F hs hX => by
  obtain hs' := hs.weak hl
  refine h w0 X a w pl F hs' fun b hb => ?_
  obtain ⟨h1, h2⟩ := hX b hb
  refine ⟨?_, h2⟩
  rcases h1 with h1 | ⟨i, hi, x, hx, hf⟩
  · exact .inl ⟨h1.1, h1.2.1, fun o x ho => h1.2.2 o x (hl.objs o x ho)⟩
  · cases hy : look s'.objs i with
    | some y => exact .inr ⟨i, hi, y, hy, hf⟩
    | none =>
      have hr := hs.range i x b hx hf
      refine .inl ⟨.inr hr.1, hr.2, fun o z hz hfz => ?_⟩
      have hne : i ≠ o := fun e => by rw [e, hz] at hy; cases hy
      exact hs.apart i o x z b hne hx (hl.objs o z hz) hf hfz
end
end Go.Proofs.Ytkdcpdbgdijbnaa.Ab
