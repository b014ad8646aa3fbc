/- What is proved: the five levels that the statements draw are valid.
   Conditions: none. -/
import Derived.Test.YthfaongbpdnlnaaGreatV12
namespace Go.Proofs.YthfaongbpdnlnaaGreat.Ab
set_option maxHeartbeats 4000000
set_option maxRecDepth 20000
set_option linter.unusedSimpArgs false
set_option linter.unusedVariables false
open Go.RowKit
section
variable {P:Program} {B:Nat→Prop} {W:En} {o:Oper} {os:List Nat} {st:St} {KE:V→List (Nat×Nat×Ob)→Prop} {ops:Array Oper} {l:List Oper} {K:St→Prop} {Q:Exit→St→Prop} {ls:Array Bool} {n i:Nat}
theorem pU19 {X:Prop} (r:X:=by first|exact List.length_map _|rfl):X:=r
theorem q0477 {x:Operand} {t:TypeId} {c:Call} {fl:Bool} {e':Nat} {els:List (List T)} {e es eb:Nat} {y:Ty} {m:Nat} (hK:KE (.t (.int .i64 m)) []) (ho:o.op=.call c:=by exact rfl) (h1:c.callee=.builtin .len:=by exact rfl) (h2:c.args=#[x]:=by exact rfl) (h3:c.argTypes=#[t]:=by exact rfl) (hy:Zac P t=some y:=by exact Tryz.ti rfl) (hk:y.k=.slice e es eb:=by exact rfl) (hx:st.ev x=.t (.lst fl e' els):=by exact rfl) (hm:els.length=m:=by exact pU19):OpQ P B W o os st KE:=OpQ.len_lst ho h1 h2 h3 hy hk hx hm hK
theorem q058e {op:BinOp} {t t':TypeId} {x y:Operand} {k:IntKind} {m n:Int} {b:Bool} (hK:KE (.t (.bool b)) []) (ho:o.op=.binOp op t x y t':=by exact rfl) (hx:st.ev x=.t (.int k m):=by exact rfl) (hy:st.ev y=.t (.int k n):=by exact rfl) (hb:cmpV op m n=some b:=by exact rfl):OpQ P B W o os st KE:=OpQ.cmp ho hx hy hb hK
theorem q05c1 {x:Operand} {t:TypeId} {c:Call} {i ep:Nat} {fl d:Bool} {e':Nat} {els:List (List T)} {e es eb:Nat} {y:Ty} {m:Nat} (hK:KE (.t (.int .i64 m)) []) (ho:o.op=.call c:=by exact rfl) (h1:c.callee=.builtin .len:=by exact rfl) (h2:c.args=#[x]:=by exact rfl) (h3:c.argTypes=#[t]:=by exact rfl) (hy:Zac P t=some y:=by exact Tryz.ti rfl) (hk:y.k=.slice e es eb:=by exact rfl) (hx:st.ev x=.hnd i ep:=by exact rfl) (hl:look st.objs i=some (ep,.row fl d e' els):=by exact rfl) (hm:els.length=m:=by exact pU19):OpS P B W o st KE:=OpS.len_hnd ho h1 h2 h3 hy hk hx hl hm hK
theorem q07f5 {s:TypeId} {x:Operand} {f fo n off:Nat} {cs:List T} {y:Ty} (hK:KE (.rptr cs (off + fo)) []) (ho:o.op=.fieldAddr s x f:=by exact rfl) (hx:st.ev x=.rptr cs off:=by exact rfl) (hy:Zac P s=some y:=by exact Tryz.ti rfl) (hf:ZhE y f=some (fo,n):=by exact rfl):OpQ P B W o os st KE:=OpQ.field_rptr ho hx hy hf hK
theorem q0d56 {t:TypeId} {x ix:Operand} {i ep j m:Nat} {fl d:Bool} {els:List (List T)} {n:Int} {k:IntKind} {e es eb e' q:Nat} {y:Ty} (hK:KE (.ptr i ep (j + q) 0) []) (ho:o.op=.indexAddr t x ix:=by exact rfl) (hx:st.ev x=.view i ep j m:=by exact rfl) (hl:look st.objs i=some (ep,.row fl d e' els):=by exact rfl) (hi:st.ev ix=.t (.int k n):=by exact rfl) (hy:Zac P t=some y:=by exact Tryz.ti rfl) (hk:y.k=.slice e es eb:=by exact rfl) (hes:es ≠ 0:=by decide) (he:e'=e:=by exact rfl) (hn:n=(q:Int):=by first|rfl|omega|(simp;omega)) (hlt:q < m:=by exact pU7):OpS P B W o st KE:=OpS.index_view ho hx hl hi hy hk hes he hn hlt hK
theorem pU2 {X:Prop} (r:X:=by first|exact List.nodup_nil|simp [ids2,ids1,ids0]):X:=r
theorem pU12 {X:Prop} (r:X:=by first|exact .inr rfl|exact .inl rfl):X:=r
theorem pU18 {X:Prop} (r:X:=by first|exact ec8e rfl|exact e0f9 rfl|exact ea12 rfl|exact eb2d rfl|exact e345 rfl|exact e3cb rfl|exact e47f rfl|exact e197 rfl|exact ed21 rfl|exact e993 rfl|exact eac2 rfl|exact e495 rfl|exact ec8f rfl|exact ef34 rfl|exact e8d1 rfl|exact e281 rfl):X:=r
theorem q1058 {P:Program} {rl:List ResultVar} {r v:V} {e:Exit} {st:St} {vs:List V} (hg:Giv2 (look st.objs) v r) (he:e=.normal∨e=.ret:=by exact pU12) (hL:resL P st rl=some vs:=by exact pU18) (hb:vs.all Zkb=true:=by exact rfl) (hv:vOf vs=v:=by first|exact e6fb rfl|exact e5cc rfl|exact ed24 rfl|exact e228 rfl|exact eae2 rfl|exact e32b rfl|exact e318 rfl|exact eeb8 rfl|exact e91e rfl|exact e855 rfl) (hn:(ids2 v).Nodup:=by exact pU2):Done P rl r e st:=Done.intro he hL hb hv hg hn
theorem q10cd {c:Call} {x y:Operand} {k:IntKind} {m n:Int} (hK:KE (.t (.int k (if n > m then n else m))) []) (ho:o.op=.call c:=by exact rfl) (h1:c.callee=.builtin .max:=by exact rfl) (h2:c.args=#[x,y]:=by exact rfl) (hx:st.ev x=.t (.int k m):=by exact rfl) (hy:st.ev y=.t (.int k n):=by exact rfl):OpS P B W o st KE:=OpS.max2 ho h1 h2 hx hy hK
theorem q11db {st':St} (h:K st') (h0:st=st':=by first|dsimp only [St.put,St.upds,updl,List.append_nil,List.cons_append,List.nil_append,argT,Nat.reduceAdd,Nat.zero_add]|exact rfl):aL P B W ops [] K st:=aL.nil h0 h
theorem q1347 {t:TypeId} {x:Operand} {lo hi:Option Operand} {i ep:Nat} {fl d:Bool} {e es eb e':Nat} {els:List (List T)} {y:Ty} {l h:Int} {n:Nat} (hK:KE (.view i ep l.toNat (h.toNat - l.toNat)) []) (ho:o.op=.slice t x lo hi none:=by exact rfl) (hx:st.ev x=.hnd i ep:=by exact rfl) (hlk:look st.objs i=some (ep,.row fl d e' els):=by exact rfl) (hy:Zac P t=some y:=by exact Tryz.ti rfl) (hk:y.k=.slice e es eb:=by exact rfl) (hes:es ≠ 0:=by decide) (he:e'=e:=by exact rfl) (hn0:els.length=n:=by exact pU19) (hl:bnd st lo 0=some l:=by exact rfl) (hh:bnd st hi n=some h:=by exact rfl) (h0:0≤l∧l≤h∧h≤n:=by refine And.intro ?_ (And.intro ?_ ?_)<;>(first|omega|(simp;omega)|(simp [Zao];omega))):OpS P B W o st KE:=OpS.slice_hnd ho hx hlk hy hk hes he hn0 hl hh h0 hK
theorem q138e {t t':TypeId} {x y:Operand} {m n:List UInt8} (hK:KE (.t (.str (m++n))) []) (ho:o.op=.binOp .add t x y t':=by exact rfl) (hx:st.ev x=.t (.str m):=by exact rfl) (hy:st.ev y=.t (.str n):=by exact rfl) (hl:m.length + n.length≤maxLen:=by first|omega|(simp;omega)):OpS P B W o st KE:=OpS.add_str ho hx hy hl hK
theorem q151a {op:BinOp} {t t':TypeId} {x y:Operand} {m n r:Int} (hK:KE (.t (.int .i64 r)) []) (ho:o.op=.binOp op t x y t':=by exact rfl) (hx:st.ev x=.t (.int .i64 m):=by exact rfl) (hy:st.ev y=.t (.int .i64 n):=by exact rfl) (hb:arI op m n=some r:=by exact rfl) (hr:-9223372036854775808≤r∧r≤9223372036854775807:=by omega):OpS P B W o st KE:=OpS.arith_i ho hx hy hb hr hK
theorem q1765 {t:TypeId} {x:Operand} {lo hi:Option Operand} {i ep:Nat} {fl d:Bool} {e es eb e':Nat} {els:List (List T)} {y:Ty} {l h:Int} {n:Nat} {els2:List (List T)} (hK:KE (.hnd i (ep + 1)) [(i,ep + 1,.row fl d e' els2)]) (ho:o.op=.slice t x lo hi none:=by exact rfl) (hx:st.ev x=.hnd i ep:=by exact rfl) (hlk:look st.objs i=some (ep,.row fl d e' els):=by exact rfl) (hy:Zac P t=some y:=by exact Tryz.ti rfl) (hk:y.k=.slice e es eb:=by exact rfl) (hes:es ≠ 0:=by decide) (he:e'=e:=by exact rfl) (hn0:els.length=n:=by exact pU19) (hl:bnd st lo 0=some l:=by exact rfl) (hh:bnd st hi n=some h:=by exact rfl) (h0:0≤l∧l≤h∧h≤n:=by refine And.intro ?_ (And.intro ?_ ?_)<;>(first|omega|(simp;omega)|(simp [Zao];omega))) (h2:(els.drop l.toNat).take (h.toNat - l.toNat)=els2:=by first|exact Zjt _ _ _ _|rfl):OpS P B W o st KE:=OpS.cut ho hx hlk hy hk hes he hn0 hl hh h0 h2 hK
theorem pU10 {X:Prop} (r:X:=by first|exact e9ec rfl|exact eb40 rfl|exact ee1c rfl|exact eded rfl|exact e303 rfl|exact e53e rfl|exact ed07 rfl|exact e18d rfl|exact e1b4 rfl):X:=r
theorem pU11 {X:Prop} (r:X:=by first|exact Zbv (by omega)|rfl):X:=r
theorem q1cc1 {ty:TypeId} {x:Operand} {i ep n off:Nat} {fl d:Bool} {e:TypeId} {els:List (List T)} {y:Ty} {v:V} {cs:List T} (hK:KE v []) (ho:o.op=.load ty x:=by exact rfl) (hx:st.ev x=.ptr i ep n off:=by exact rfl) (hl:look st.objs i=some (ep,.row fl d e els):=by exact rfl) (hfd:fl=true∨d=false:=by exact pU21) (hc:els[n]?=some cs:=by exact pU11) (hy:Zac P ty=some y:=by exact Tryz.ti rfl) (hv:Zdp y.k.agg y.size (cs.map .t) off=some v:=by exact pU10):OpS P B W o st KE:=OpS.load_elem ho hx hl hfd hc hy hv hK
theorem q1f72 {t:TypeId} {x ix:Operand} {fl:Bool} {els:List (List T)} {n:Int} {k:IntKind} {e es eb e':Nat} {y:Ty} (hK:KE (.rptr (els.getD n.toNat []) 0) []) (ho:o.op=.indexAddr t x ix:=by exact rfl) (hx:st.ev x=.t (.lst fl e' els):=by exact rfl) (hi:st.ev ix=.t (.int k n):=by exact rfl) (hy:Zac P t=some y:=by exact Tryz.ti rfl) (hk:y.k=.slice e es eb:=by exact rfl) (hes:es ≠ 0:=by decide) (he:e'=e:=by exact rfl) (hn:0≤n∧n < els.length:=by exact pU7):OpS P B W o st KE:=OpS.index_lst ho hx hi hy hk hes he hn hK
theorem q225e {j d:Nat} {want:Bool} {p:Prop} [Decidable p] {dd:Option Tmp} (h1:p→aL P B W ops (o :: l) K st) (h2:¬ p→aL P B W ops (o :: l) K st) (hg:o.guard=some (j,want):=by exact rfl) (hdd:o.dst=dd:=by exact pU14) (hd:(ops[j]?).bind (·.dst)=some d:=by exact rfl) (hv:st.ev (.tmp d)=.t (.bool (decide p)):=by exact rfl):aL P B W ops (o :: l) K st:=aL.guard_d hg hdd hd hv h1 h2
theorem q24ef {x:Operand} {t:TypeId} {c:Call} {i ep q:Nat} {z:V} {e':Nat} {els:List (List T)} {e es eb:Nat} {y:Ty} {m:Nat} (hK:KE (.t (.int .i64 m)) []) (ho:o.op=.call c:=by exact rfl) (h1:c.callee=.builtin .len:=by exact rfl) (h2:c.args=#[x]:=by exact rfl) (h3:c.argTypes=#[t]:=by exact rfl) (hy:Zac P t=some y:=by exact Tryz.ti rfl) (hk:y.k=.slice e es eb:=by exact rfl) (hx:st.ev x=.hnd i ep:=by exact rfl) (hl:look st.objs i=some (ep,.hole e' els q z):=by exact rfl) (hm:els.length=m:=by exact pU19):OpS P B W o st KE:=OpS.len_hole ho h1 h2 h3 hy hk hx hl hm hK
theorem ZcU {n:Nat} (h:OpQ P B W o os st KE) (h_0:kindOf o.op=n:=by exact rfl):OpQ P B W o os st KE:=OpQ.k h_0 h
theorem q2bd3 {x:Operand} {v:V} (hK:KE v []) (ho:o.op=.move x∨o.op=.assign x:=by exact .inl rfl) (hx:st.ev x=v:=by exact pU4):OpQ P B W o os st KE:=OpQ.mv ho hx hK
theorem q2cdd {x:Operand} {i:Nat} {vs:List V} {v:V} (hK:KE v []) (ho:o.op=.extract x i:=by exact rfl) (hx:st.ev x=.tup vs:=by exact rfl) (hv:vs[i]?=some v:=by exact rfl):OpS P B W o st KE:=OpS.extract ho hx hv hK
theorem q34f8 {c x y:Operand} {t:Bool} {v:V} (hK:KE v []) (ho:o.op=.pick c x y:=by exact rfl) (hc:st.ev c=.t (.bool t):=by exact rfl) (ht:t=false:=by exact pU0) (hx:st.ev y=v:=by exact pU4):OpS P B W o st KE:=OpS.pick_f ho hc ht hx hK
theorem q3559 {t t':TypeId} {x y:Operand} {k k':IntKind} {m n:Int} (hK:KE (.t (.int k (m.fdiv (2 ^ (min n.toNat k.bits))))) []) (ho:o.op=.binOp .shr t x y t':=by exact rfl) (hx:st.ev x=.t (.int k m):=by exact rfl) (hy:st.ev y=.t (.int k' n):=by exact rfl) (hn:0≤n:=by omega):OpS P B W o st KE:=OpS.shr ho hx hy hn hK
theorem q367c {c:Call} {x y:Operand} {k:IntKind} {m n:Int} (hK:KE (.t (.int k (if n < m then n else m))) []) (ho:o.op=.call c:=by exact rfl) (h1:c.callee=.builtin .min:=by exact rfl) (h2:c.args=#[x,y]:=by exact rfl) (hx:st.ev x=.t (.int k m):=by exact rfl) (hy:st.ev y=.t (.int k n):=by exact rfl):OpQ P B W o os st KE:=OpQ.min2 ho h1 h2 hx hy hK
theorem q38bb {x:Operand} {t:TypeId} {k:IntKind} {n:Int} (hK:KE (.t (.int k (k.wrap (0 - n)))) []) (ho:o.op=.unOp .neg t x:=by exact rfl) (hx:st.ev x=.t (.int k n):=by exact rfl):OpS P B W o st KE:=OpS.neg ho hx hK
theorem pU6 {X:Prop} (r:X:=by first|exact (show _=(List.zipIdx [] 0).map _ from rfl)|exact (show _=(List.zipIdx [_] 0).map _ from rfl)|exact (show _=(List.zipIdx [_,_] 0).map _ from rfl)|exact (show _=(List.zipIdx [_,_,_] 0).map _ from rfl)|exact (show _=(List.zipIdx [_,_,_,_] 0).map _ from rfl)|exact (show _=(List.zipIdx [_,_,_,_,_] 0).map _ from rfl)|exact (show _=(List.zipIdx [_,_,_,_,_,_] 0).map _ from rfl)|exact (show _=(List.zipIdx [_,_,_,_,_,_,_] 0).map _ from rfl)|exact (show _=(List.zipIdx [_,_,_,_,_,_,_,_] 0).map _ from rfl)|exact (show _=(List.zipIdx [_,_,_,_,_,_,_,_,_] 0).map _ from rfl)|exact (show _=(List.zipIdx [_,_,_,_,_,_,_,_,_,_] 0).map _ from rfl)|exact (show _=(List.zipIdx [_,_,_,_,_,_,_,_,_,_,_] 0).map _ from rfl)|exact (show _=(List.zipIdx [_,_,_,_,_,_,_,_,_,_,_,_] 0).map _ from rfl)):X:=r
theorem q3945 {t:TypeId} {len:Nat} {parts:Array (Nat×Operand)} {xs:List Operand} {y ye:Ty} {e es eb site ep:Nat} {zs:List V} {ts:List T} {ks:List (Nat×Nat)} {d0 d fl:Bool} {els:List (List T)} {kl:List (Nat×Nat×Ob)} (hK:KE (.hnd site ep) ((site,ep,.row fl d e els) :: kl)) (ho:o.op=.buildSlice t len parts:=by exact rfl) (hd:o.dst=some site:=by exact rfl) (hparts:parts.toList=(xs.zipIdx 0).map fun p=>(p.2,p.1):=by exact pU6) (hlen:xs.length=len:=by exact rfl) (hy:Zac P t=some y:=by exact Tryz.ti rfl) (hk:y.k=.slice e es eb:=by exact rfl) (hye:Zac P e=some ye:=by exact Tryz.ti rfl) (hz:ye.zero=some zs:=by exact rfl) (hzl:zs.length=es:=by exact rfl) (hes:Nat.blt 0 es=true:=by exact rfl) (hsm:Nat.ble (len * es) 16777216=true:=by exact rfl) (hsto:(xs.map st.ev).all (fun v=>(ZaT v).all V.sto && Nat.beq (ZaT v).length es)=true:=by exact rfl) (hcv:cvt (look st.objs) ((xs.map st.ev).flatMap ZaT)=some (ts,ks,d0):=by exact rfl) (hd0:d0=d:=by exact pU13) (hnd:nodupB (ks.map (·.1))=true:=by exact rfl) (hks:(ks.all fun p=>!Nat.beq p.1 site)=true:=by exact rfl) (hel:els.flatten=ts:=by first|exact (show List.flatten []=_ from rfl)|exact (show List.flatten [[_]]=_ from rfl)|exact (show List.flatten [[_],[_]]=_ from rfl)|exact (show List.flatten [[_],[_],[_]]=_ from rfl)|exact (show List.flatten [[_],[_],[_],[_]]=_ from rfl)|exact (show List.flatten [[_],[_],[_],[_],[_]]=_ from rfl)|exact (show List.flatten [[_],[_],[_],[_],[_],[_]]=_ from rfl)|exact (show List.flatten [[_],[_],[_],[_],[_],[_],[_]]=_ from rfl)|exact (show List.flatten [[_],[_],[_],[_],[_],[_],[_],[_]]=_ from rfl)|exact (show List.flatten [[_],[_],[_],[_],[_],[_],[_],[_],[_]]=_ from rfl)|exact (show List.flatten [[_],[_],[_],[_],[_],[_],[_],[_],[_],[_]]=_ from rfl)|exact (show List.flatten [[_],[_],[_],[_],[_],[_],[_],[_],[_],[_],[_]]=_ from rfl)|exact (show List.flatten [[_],[_],[_],[_],[_],[_],[_],[_],[_],[_],[_],[_]]=_ from rfl)|exact (show List.flatten [[_,_]]=_ from rfl)|exact (show List.flatten [[_,_],[_,_]]=_ from rfl)|exact (show List.flatten [[_,_],[_,_],[_,_]]=_ from rfl)|exact (show List.flatten [[_,_,_,_,_]]=_ from rfl)|exact (show List.flatten [[_,_,_,_,_],[_,_,_,_,_]]=_ from rfl)|exact (show List.flatten [[_,_,_,_,_],[_,_,_,_,_],[_,_,_,_,_]]=_ from rfl)|exact (show List.flatten [[_,_,_,_,_,_,_,_,_]]=_ from rfl)|exact (show List.flatten [[_,_,_,_,_,_,_,_,_],[_,_,_,_,_,_,_,_,_]]=_ from rfl)|exact (show List.flatten [[_,_,_,_,_,_,_,_,_],[_,_,_,_,_,_,_,_,_],[_,_,_,_,_,_,_,_,_]]=_ from rfl)|exact (show List.flatten [[_,_,_]]=_ from rfl)|exact (show List.flatten [[_,_,_,_,_,_,_,_,_,_]]=_ from rfl)) (hell:els.length=len:=by exact rfl) (hu:(els.all fun x=>Nat.beq x.length es)=true:=by exact rfl) (hfl:ts.all T.flat=fl:=by exact pU13) (hep:nep (look st.objs site)=ep:=by exact pU17) (hkl:ZdT ks=kl:=by first|exact ed75 rfl|exact e444 rfl):OpS P B W o st KE:=OpS.lit ho hd hparts hlen hy hk hye hz hzl hes hsm hsto hcv hd0 hnd hks hel hell hu hfl hep hkl hK
theorem q3d15 {t:TypeId} {x:Operand} {lo hi:Option Operand} {i ep:Nat} {fl d:Bool} {e es eb e':Nat} {els:List (List T)} {y:Ty} {l h:Int} {n:Nat} (hK:KE (.view i ep l.toNat (h.toNat - l.toNat)) []) (ho:o.op=.slice t x lo hi none:=by exact rfl) (hx:st.ev x=.hnd i ep:=by exact rfl) (hlk:look st.objs i=some (ep,.row fl d e' els):=by exact rfl) (hy:Zac P t=some y:=by exact Tryz.ti rfl) (hk:y.k=.slice e es eb:=by exact rfl) (hes:es ≠ 0:=by decide) (he:e'=e:=by exact rfl) (hn0:els.length=n:=by exact pU19) (hl:bnd st lo 0=some l:=by exact rfl) (hh:bnd st hi n=some h:=by exact rfl) (h0:0≤l∧l≤h∧h≤n:=by refine And.intro ?_ (And.intro ?_ ?_)<;>(first|omega|(simp;omega)|(simp [Zao];omega))):OpQ P B W o os st KE:=OpQ.slice_hnd ho hx hlk hy hk hes he hn0 hl hh h0 hK
theorem q3e25 {op:BinOp} {t t':TypeId} {x y:Operand} {k:IntKind} {m n:Int} {b:Bool} (hK:KE (.t (.bool b)) []) (ho:o.op=.binOp op t x y t':=by exact rfl) (hx:st.ev x=.t (.int k m):=by exact rfl) (hy:st.ev y=.t (.int k n):=by exact rfl) (hb:cmpV op m n=some b:=by exact rfl):OpS P B W o st KE:=OpS.cmp ho hx hy hb hK
theorem q3f53 {t t':TypeId} {x y:Operand} {k k':IntKind} {m n:Int} (hK:KE (.t (.int k (k.wrap (m * 2 ^ (min n.toNat k.bits))))) []) (ho:o.op=.binOp .shl t x y t':=by exact rfl) (hx:st.ev x=.t (.int k m):=by exact rfl) (hy:st.ev y=.t (.int k' n):=by exact rfl) (hn:0≤n:=by omega):OpS P B W o st KE:=OpS.shl ho hx hy hn hK
theorem q467e {t:TypeId} {x:Operand} {lo hi:Option Operand} {s:List UInt8} {y:Ty} {l h:Int} (hK:KE (.t (.str ((s.drop l.toNat).take (h.toNat - l.toNat)))) []) (ho:o.op=.slice t x lo hi none:=by exact rfl) (hx:st.ev x=.t (.str s):=by exact rfl) (hy:Zac P t=some y:=by exact Tryz.ti rfl) (hk:y.k=.str:=by exact rfl) (hl:bnd st lo 0=some l:=by exact rfl) (hh:bnd st hi s.length=some h:=by exact rfl) (h0:0≤l∧l≤h∧h≤s.length:=by refine And.intro ?_ (And.intro ?_ ?_)<;>(first|omega|(simp;omega)|(simp [Zao];omega))):OpQ P B W o os st KE:=OpQ.slice_str ho hx hy hk hl hh h0 hK
theorem q4aee {x:Operand} {v:V} (hK:KE v []) (ho:o.op=.move x∨o.op=.assign x:=by exact .inr rfl) (hx:st.ev x=v:=by exact pU4):OpQ P B W o os st KE:=OpQ.mv ho hx hK
theorem q4c13 {op:BinOp} {t t':TypeId} {x y:Operand} {k:IntKind} {m n r:Int} (hK:KE (.t (.int k r)) []) (ho:o.op=.binOp op t x y t':=by exact rfl) (hx:st.ev x=.t (.int k m):=by exact rfl) (hy:st.ev y=.t (.int k n):=by exact rfl) (hb:arV op k m n=some r:=by exact rfl):OpS P B W o st KE:=OpS.arith ho hx hy hb hK
theorem q4d24 {t t':TypeId} {x y:Operand} {k:IntKind} {m n:Int} (hK:KE (.t (.int k (m.tmod n))) []) (ho:o.op=.binOp .rem t x y t':=by exact rfl) (hx:st.ev x=.t (.int k m):=by exact rfl) (hy:st.ev y=.t (.int k n):=by exact rfl) (hn:n ≠ 0:=by omega):OpS P B W o st KE:=OpS.rem ho hx hy hn hK
theorem q4db2 {t:TypeId} {x ix:Operand} {i ep q:Nat} {z:V} {els:List (List T)} {n:Int} {k:IntKind} {e es eb e' m:Nat} {y:Ty} (hK:KE (.ptr i ep m 0) []) (ho:o.op=.indexAddr t x ix:=by exact rfl) (hx:st.ev x=.hnd i ep:=by exact rfl) (hl:look st.objs i=some (ep,.hole e' els q z):=by exact rfl) (hi:st.ev ix=.t (.int k n):=by exact rfl) (hy:Zac P t=some y:=by exact Tryz.ti rfl) (hk:y.k=.slice e es eb:=by exact rfl) (hes:es ≠ 0:=by decide) (he:e'=e:=by exact rfl) (hm:n=(m:Int):=by first|rfl|omega|(simp;omega)) (hlt:m < els.length:=by exact pU7):OpS P B W o st KE:=OpS.index_hole ho hx hl hi hy hk hes he hm hlt hK
theorem q4ea8 {j d:Nat} {want b:Bool} {dd:Option Tmp} (h1:OpS P B W o st fun v upd=>aL P B W ops l K ((st.upds upd).put dd v)) (hg:o.guard=some (j,want):=by exact rfl) (hdd:o.dst=dd:=by exact pU14) (hd:(ops[j]?).bind (·.dst)=some d:=by exact rfl) (hv:st.ev (.tmp d)=.t (.bool b):=by exact rfl) (hb:b=want:=by exact pU0):aL P B W ops (o :: l) K st:=aL.guard_yes hg hdd hd hv hb h1
theorem Zab {n:Nat} (h:OpS P B W o st KE) (h_0:kindOf o.op=n:=by exact rfl):OpS P B W o st KE:=OpS.k h_0 h
theorem q4fbd {s:TypeId} {x:Operand} {f fo n i ep k off:Nat} {y:Ty} {e:Nat} {ob:Ob} (hK:KE (.ptr i ep k (off + fo)) []) (ho:o.op=.fieldAddr s x f:=by exact rfl) (hx:st.ev x=.ptr i ep k off:=by exact rfl) (hy:Zac P s=some y:=by exact Tryz.ti rfl) (hf:ZhE y f=some (fo,n):=by exact rfl) (hl:look st.objs i=some (e,ob):=by exact rfl) (he:e=ep:=by exact rfl):OpS P B W o st KE:=OpS.field_ptr ho hx hy hf hl he hK
theorem q503a {d:Option Tmp} (h:OpS P B W o st fun v upd=>offB os upd (aA P B W ops os n (ls.setIfInBounds i true) K ((st.upds upd).put d v))) (hi:ops[i]?=some o:=by exact rfl) (hg:o.guard=none:=by exact rfl) (hd:o.dst=d:=by exact pU14):aO P B W ops os n ls K st i:=aO.op hi hg hd h
theorem q5079 {op:BinOp} {t t':TypeId} {x y:Operand} {m n:List UInt8} {b:Bool} (hK:KE (.t (.bool b)) []) (ho:o.op=.binOp op t x y t':=by exact rfl) (hx:st.ev x=.t (.str m):=by exact rfl) (hy:st.ev y=.t (.str n):=by exact rfl) (hb:cmpS op m n=some b:=by exact rfl):OpS P B W o st KE:=OpS.cmp_str ho hx hy hb hK
theorem q50d3 {ty:TypeId} {x:Operand} {off:Nat} {cs:List T} {y:Ty} {v:V} (hK:KE v []) (ho:o.op=.load ty x:=by exact rfl) (hx:st.ev x=.rptr cs off:=by exact rfl) (hy:Zac P ty=some y:=by exact Tryz.ti rfl) (hv:Zdp y.k.agg y.size (cs.map .t) off=some v:=by exact pU10):OpQ P B W o os st KE:=OpQ.load_rptr ho hx hy hv hK
theorem q5333 {st':St} (h:K st') (hr:Region.ready .any ops ls=[]:=by kernel_rfl) (h0:st=st':=by first|dsimp only [St.put,St.upds,updl,List.append_nil,List.cons_append,List.nil_append,argT,Nat.reduceAdd,Nat.zero_add]|exact rfl):aA P B W ops os n ls K st:=aA.done hr h0 h
theorem q55dd {j d:Nat} {want:Bool} {dd:Option Tmp} (h2:aL P B W ops l K (st.put dd (.lit undef))) (hg:o.guard=some (j,want):=by exact rfl) (hdd:o.dst=dd:=by exact pU14) (hd:(ops[j]?).bind (·.dst)=some d:=by exact rfl) (hv:st.ev (.tmp d)=.lit undef:=by exact rfl):aL P B W ops (o :: l) K st:=aL.guard_not hg hdd hd hv h2
theorem q58d6 {x:Operand} {t:TypeId} {b:Bool} (hK:KE (.t (.bool (!b))) []) (ho:o.op=.unOp .not t x:=by exact rfl) (hx:st.ev x=.t (.bool b):=by exact rfl):OpS P B W o st KE:=OpS.not_ ho hx hK
theorem q5a78 {t:TypeId} {x:Operand} {lo hi:Option Operand} {s:List UInt8} {y:Ty} {l h:Int} (hK:KE (.t (.str ((s.drop l.toNat).take (h.toNat - l.toNat)))) []) (ho:o.op=.slice t x lo hi none:=by exact rfl) (hx:st.ev x=.t (.str s):=by exact rfl) (hy:Zac P t=some y:=by exact Tryz.ti rfl) (hk:y.k=.str:=by exact rfl) (hl:bnd st lo 0=some l:=by exact rfl) (hh:bnd st hi s.length=some h:=by exact rfl) (h0:0≤l∧l≤h∧h≤s.length:=by refine And.intro ?_ (And.intro ?_ ?_)<;>(first|omega|(simp;omega)|(simp [Zao];omega))):OpS P B W o st KE:=OpS.slice_str ho hx hy hk hl hh h0 hK
theorem Zp4 {c:Call} {g:FuncId} {objs:List (Nat×Nat×Ob)} {as_:List V} {α:Type} {O:α→List (Nat×Nat×Ob)} {R:α→V} {Post:α→Prop} {d:Nat} {m:List (Nat×Nat×Nat)} (hA:AMP P g objs as_ O R Post) (hK:∀ x,Post x→∃ v us us',MutK st m objs (c.args.toList.map st.ev) as_ d KE (O x) (R x) v us us') (ho:o.op=.call c:=by exact rfl) (hd:o.dst=some d:=by exact rfl) (hc:c.callee=.value (.func g):=by exact rfl) (hs:Znp m (look st.objs) (c.args.toList.map st.ev) as_:=by exact pU16) (hob:leO st.objs (renO m objs):=by exact pU3) (hid:((as_.flatMap ids1).all fun o=>(idsL objs).contains o)=true:=by exact rfl) (hcl:((objs.flatMap fun p=>ZgB p.2.2).all fun o=>(idsL objs).contains o)=true:=by exact rfl) (hout:ZgX (c.args.toList.map st.ev) as_=[]∨((∀ x,Post x→ZhQ (R x) (O x)=true)∧((ZgX (c.args.toList.map st.ev) as_).all fun o=>!(idsL (renO m objs)).contains o)=true):=by first|exact .inl rfl|exact .inr ⟨fun _ _=>rfl,rfl⟩) (hinj:nodupB (idsL (renO m objs))=true:=by exact rfl):OpS P B W o st KE:=OpS.call_mutP ho hd hc hA hs hob hid hcl hout hinj hK
theorem q608d {x:Operand} {v:V} (hK:KE v []) (ho:o.op=.move x∨o.op=.assign x:=by exact .inl rfl) (hx:st.ev x=v:=by exact pU4):OpS P B W o st KE:=OpS.mv ho hx hK
theorem q66b9 {x:Operand} {t:TypeId} {c:Call} {fl:Bool} {e':Nat} {els:List (List T)} {e es eb:Nat} {y:Ty} {m:Nat} (hK:KE (.t (.int .i64 m)) []) (ho:o.op=.call c:=by exact rfl) (h1:c.callee=.builtin .len:=by exact rfl) (h2:c.args=#[x]:=by exact rfl) (h3:c.argTypes=#[t]:=by exact rfl) (hy:Zac P t=some y:=by exact Tryz.ti rfl) (hk:y.k=.slice e es eb:=by exact rfl) (hx:st.ev x=.t (.lst fl e' els):=by exact rfl) (hm:els.length=m:=by exact pU19):OpS P B W o st KE:=OpS.len_lst ho h1 h2 h3 hy hk hx hm hK
theorem q68f0 {op:BinOp} {t t':TypeId} {x y:Operand} {m n b:Bool} {z:Ty} (hK:KE (.t (.bool b)) []) (ho:o.op=.binOp op t x y t':=by exact rfl) (hz:Zac P t=some z:=by exact Tryz.ti rfl) (hk:z.k=.bool:=by exact rfl) (hx:st.ev x=.t (.bool m):=by exact rfl) (hy:st.ev y=.t (.bool n):=by exact rfl) (hb:(match op with | .eql=>some (m == n) | .neq=>some (!(m == n))|_=>none)=some b:=by exact rfl):OpQ P B W o os st KE:=OpQ.cmp_bool ho hz hk hx hy hb hK
theorem q69f7 {j d:Nat} {b:Bool} {dd:Option Tmp} (h2:aL P B W ops l K (st.put dd (.lit undef))) (hg:o.guard=some (j,false):=by exact rfl) (hdd:o.dst=dd:=by exact pU14) (hd:(ops[j]?).bind (·.dst)=some d:=by exact rfl) (hv:st.ev (.tmp d)=.t (.bool b):=by exact rfl) (hb:b=true:=by exact pU0):aL P B W ops (o :: l) K st:=aL.guard_nf hg hdd hd hv hb h2
theorem q6b2a {t t':TypeId} {x y:Operand} {m n:Int} (hK:KE (.t (.int .i64 (m / n))) []) (ho:o.op=.binOp .quo t x y t':=by exact rfl) (hx:st.ev x=.t (.int .i64 m):=by exact rfl) (hy:st.ev y=.t (.int .i64 n):=by exact rfl) (hn:0 < n:=by omega) (hm:0≤m:=by omega):OpQ P B W o os st KE:=OpQ.quo_i ho hx hy hn hm hK
theorem q78a0 {t:TypeId} {x ix:Operand} {i ep:Nat} {fl d:Bool} {els:List (List T)} {n:Int} {k:IntKind} {e es eb e' m:Nat} {y:Ty} (hK:KE (.ptr i ep m 0) []) (ho:o.op=.indexAddr t x ix:=by exact rfl) (hx:st.ev x=.hnd i ep:=by exact rfl) (hl:look st.objs i=some (ep,.row fl d e' els):=by exact rfl) (hi:st.ev ix=.t (.int k n):=by exact rfl) (hy:Zac P t=some y:=by exact Tryz.ti rfl) (hk:y.k=.slice e es eb:=by exact rfl) (hes:es ≠ 0:=by decide) (he:e'=e:=by exact rfl) (hm:n=(m:Int):=by first|rfl|omega|(simp;omega)) (hlt:m < els.length:=by exact pU7):OpQ P B W o os st KE:=OpQ.index_row ho hx hl hi hy hk hes he hm hlt hK
theorem q7ba4 {t:TypeId} {x:Operand} {lo hi:Option Operand} {fl:Bool} {e es eb e':Nat} {els:List (List T)} {y:Ty} {l h:Int} {n:Nat} {els2:List (List T)} (hK:KE (.t (.lst fl e' els2)) []) (ho:o.op=.slice t x lo hi none:=by exact rfl) (hx:st.ev x=.t (.lst fl e' els):=by exact rfl) (hy:Zac P t=some y:=by exact Tryz.ti rfl) (hk:y.k=.slice e es eb:=by exact rfl) (hes:es ≠ 0:=by decide) (he:e'=e:=by exact rfl) (hn0:els.length=n:=by exact pU19) (hl:bnd st lo 0=some l:=by exact rfl) (hh:bnd st hi n=some h:=by exact rfl) (h0:0≤l∧l≤h∧h≤n:=by refine And.intro ?_ (And.intro ?_ ?_)<;>(first|omega|(simp;omega)|(simp [Zao];omega))) (h2:(els.drop l.toNat).take (h.toNat - l.toNat)=els2:=by first|exact Zjt _ _ _ _|rfl):OpQ P B W o os st KE:=OpQ.slice_lst ho hx hy hk hes he hn0 hl hh h0 h2 hK
theorem q8176 {op:BinOp} {t t':TypeId} {x y:Operand} {m n r:Int} (hK:KE (.t (.int .i64 r)) []) (ho:o.op=.binOp op t x y t':=by exact rfl) (hx:st.ev x=.t (.int .i64 m):=by exact rfl) (hy:st.ev y=.t (.int .i64 n):=by exact rfl) (hb:arI op m n=some r:=by exact rfl) (hr:-9223372036854775808≤r∧r≤9223372036854775807:=by omega):OpQ P B W o os st KE:=OpQ.arith_i ho hx hy hb hr hK
theorem q82cb {x:Operand} {t:TypeId} {b:Bool} (hK:KE (.t (.bool (!b))) []) (ho:o.op=.unOp .not t x:=by exact rfl) (hx:st.ev x=.t (.bool b):=by exact rfl):OpQ P B W o os st KE:=OpQ.not_ ho hx hK
theorem q892c {x:Operand} {i:Nat} {vs:List V} {v:V} (hK:KE v []) (ho:o.op=.extract x i:=by exact rfl) (hx:st.ev x=.tup vs:=by exact rfl) (hv:vs[i]?=some v:=by exact rfl):OpQ P B W o os st KE:=OpQ.extract ho hx hv hK
theorem q8d11 {site ep:Nat} {e:TypeId} {y:Ty} {zs:List V} (hK:KE (.ptr site ep 0 0) [(site,ep,.box e zs)]) (ho:o.op=.alloc e:=by exact rfl) (hd:o.dst=some site:=by exact rfl) (hy:Zac P e=some y:=by exact Tryz.ti rfl) (hz:y.zero=some zs:=by exact rfl) (hep:nep (look st.objs site)=ep:=by exact pU17):OpS P B W o st KE:=OpS.alloc ho hd hy hz hep hK
theorem q8dd6 {x:Operand} {i ep k off:Nat} {e:Nat} {ob:Ob} (hK:KE (.ptr i ep k off) []) (ho:o.op=.nilCheck x:=by exact rfl) (hx:st.ev x=.ptr i ep k off:=by exact rfl) (hl:look st.objs i=some (e,ob):=by exact rfl) (he:e=ep:=by exact rfl):OpS P B W o st KE:=OpS.nilCheck ho hx hl he hK
theorem q9026 {t:TypeId} {x ix:Operand} {i ep:Nat} {fl d:Bool} {els:List (List T)} {n:Int} {k:IntKind} {e es eb e':Nat} {y:Ty} (hK:KE (.ptr i ep n.toNat 0) []) (ho:o.op=.indexAddr t x ix:=by exact rfl) (hx:st.ev x=.hnd i ep:=by exact rfl) (hl:look st.objs i=some (ep,.row fl d e' els):=by exact rfl) (hi:st.ev ix=.t (.int k n):=by exact rfl) (hy:Zac P t=some y:=by exact Tryz.ti rfl) (hk:y.k=.slice e es eb:=by exact rfl) (hes:es ≠ 0:=by decide) (he:e'=e:=by exact rfl) (hn:0≤n∧n < els.length:=by exact pU7):OpQ P B W o os st KE:=OpQ.index_hnd ho hx hl hi hy hk hes he hn hK
theorem q9326 {ty:TypeId} {x z:Operand} {i ep n off:Nat} {fl d:Bool} {e:TypeId} {els:List (List T)} {y:Ty} {v:V} {ts cs:List T} {ye:Ty} (hK:KE (.lit undef) [(i,ep,.row fl d e (els.set n (setRange cs off ts)))]) (ho:o.op=.store ty x z:=by exact rfl) (hx:st.ev x=.ptr i ep n off:=by exact rfl) (hl:look st.objs i=some (ep,.row fl d e els):=by exact rfl) (hy:Zac P ty=some y:=by exact Tryz.ti rfl) (hz:st.ev z=v:=by exact pU4) (hs:(ZaT v).all V.sto=true:=by exact rfl) (hts:Zov (ZaT v)=some ts:=by first|exact e5c4 rfl|exact e97d rfl|exact ef7c rfl|exact ea92 rfl) (hn:(ZaT v).length=y.size:=by exact rfl) (hlt:n < els.length:=by exact pU7) (hc:els.getD n []=cs:=by first|exact getD_map (by omega)|rfl) (hye:Zac P e=some ye:=by exact Tryz.ti rfl) (hle:Nat.ble (off + ts.length) ye.size=true:=by exact rfl) (hpos:Nat.beq y.size 0=false:=by exact rfl):OpS P B W o st KE:=OpS.store_elem ho hx hl hy hz hs hts hn hlt hc hye hle hpos hK
theorem q938f {c:Call} {x y:Operand} {k:IntKind} {m n:Int} (hK:KE (.t (.int k (if n < m then n else m))) []) (ho:o.op=.call c:=by exact rfl) (h1:c.callee=.builtin .min:=by exact rfl) (h2:c.args=#[x,y]:=by exact rfl) (hx:st.ev x=.t (.int k m):=by exact rfl) (hy:st.ev y=.t (.int k n):=by exact rfl):OpS P B W o st KE:=OpS.min2 ho h1 h2 hx hy hK
theorem q96c2 {t:TypeId} {x ix:Operand} {s:List UInt8} {n:Int} {k:IntKind} {y:Ty} (hK:KE (.t (.int .u8 ((s.getD n.toNat 0).toNat:Nat))) []) (ho:o.op=.index t x ix:=by exact rfl) (hx:st.ev x=.t (.str s):=by exact rfl) (hi:st.ev ix=.t (.int k n):=by exact rfl) (hy:Zac P t=some y:=by exact Tryz.ti rfl) (hk:y.k=.str:=by exact rfl) (hn:0≤n∧n < s.length:=by omega):OpQ P B W o os st KE:=OpQ.index_str ho hx hi hy hk hn hK
theorem q984c {t t':TypeId} {x y:Operand} {m n:Int} (hK:KE (.t (.int .i64 (m / n))) []) (ho:o.op=.binOp .quo t x y t':=by exact rfl) (hx:st.ev x=.t (.int .i64 m):=by exact rfl) (hy:st.ev y=.t (.int .i64 n):=by exact rfl) (hn:0 < n:=by omega) (hm:0≤m:=by omega):OpS P B W o st KE:=OpS.quo_i ho hx hy hn hm hK
theorem q985e {s:TypeId} {x:Operand} {f fo n i ep k off:Nat} {y:Ty} {e:Nat} {ob:Ob} (hK:KE (.ptr i ep k (off + fo)) []) (ho:o.op=.fieldAddr s x f:=by exact rfl) (hx:st.ev x=.ptr i ep k off:=by exact rfl) (hy:Zac P s=some y:=by exact Tryz.ti rfl) (hf:ZhE y f=some (fo,n):=by exact rfl) (hl:look st.objs i=some (e,ob):=by exact rfl) (he:e=ep:=by exact rfl):OpQ P B W o os st KE:=OpQ.field_ptr ho hx hy hf hl he hK
theorem q9d68 {x:Operand} {v:V} (hK:KE v []) (ho:o.op=.move x∨o.op=.assign x:=by exact .inr rfl) (hx:st.ev x=v:=by exact pU4):OpS P B W o st KE:=OpS.mv ho hx hK
theorem q9e71 {t:TypeId} {x ix:Operand} {i ep q:Nat} {z:V} {els:List (List T)} {n:Int} {k:IntKind} {e es eb e' m:Nat} {y:Ty} (hK:KE (.ptr i ep m 0) []) (ho:o.op=.indexAddr t x ix:=by exact rfl) (hx:st.ev x=.hnd i ep:=by exact rfl) (hl:look st.objs i=some (ep,.hole e' els q z):=by exact rfl) (hi:st.ev ix=.t (.int k n):=by exact rfl) (hy:Zac P t=some y:=by exact Tryz.ti rfl) (hk:y.k=.slice e es eb:=by exact rfl) (hes:es ≠ 0:=by decide) (he:e'=e:=by exact rfl) (hm:n=(m:Int):=by first|rfl|omega|(simp;omega)) (hlt:m < els.length:=by exact pU7):OpQ P B W o os st KE:=OpQ.index_hole ho hx hl hi hy hk hes he hm hlt hK
theorem qa44e {c:Operand} {x y:Code} {b:Bool} (h1:b=true→aW P B W x Q st) (h2:b=false→aW P B W y Q st) (hc:st.ev c=.t (.bool b):=by exact rfl):aW P B W (.cond c x y) Q st:=aW.cond hc h1 h2
theorem qa508 {op:BinOp} {t t':TypeId} {x y:Operand} {m n b:Bool} {z:Ty} (hK:KE (.t (.bool b)) []) (ho:o.op=.binOp op t x y t':=by exact rfl) (hz:Zac P t=some z:=by exact Tryz.ti rfl) (hk:z.k=.bool:=by exact rfl) (hx:st.ev x=.t (.bool m):=by exact rfl) (hy:st.ev y=.t (.bool n):=by exact rfl) (hb:(match op with | .eql=>some (m == n) | .neq=>some (!(m == n))|_=>none)=some b:=by exact rfl):OpS P B W o st KE:=OpS.cmp_bool ho hz hk hx hy hb hK
theorem qa9c6 {d:Option Tmp} (h:OpS P B W o st fun v upd=>aL P B W ops l K ((st.upds upd).put d v)) (hg:o.guard=none:=by exact rfl) (hd:o.dst=d:=by exact pU14):aL P B W ops (o :: l) K st:=aL.cons hg hd h
theorem qabd5 {c x y:Operand} {t:Bool} {v:V} (hK:KE v []) (ho:o.op=.pick c x y:=by exact rfl) (hc:st.ev c=.t (.bool t):=by exact rfl) (ht:t=true:=by exact pU0) (hx:st.ev x=v:=by exact pU4):OpQ P B W o os st KE:=OpQ.pick_t ho hc ht hx hK
theorem qace2 {c x y:Operand} {t:Bool} {v:V} (hK:KE v []) (ho:o.op=.pick c x y:=by exact rfl) (hc:st.ev c=.t (.bool t):=by exact rfl) (ht:t=true:=by exact pU0) (hx:st.ev x=v:=by exact pU4):OpS P B W o st KE:=OpS.pick_t ho hc ht hx hK
theorem qae47 {j d:Nat} {b:Bool} {dd:Option Tmp} (h2:aL P B W ops l K (st.put dd (.lit undef))) (hg:o.guard=some (j,true):=by exact rfl) (hdd:o.dst=dd:=by exact pU14) (hd:(ops[j]?).bind (·.dst)=some d:=by exact rfl) (hv:st.ev (.tmp d)=.t (.bool b):=by exact rfl) (hb:b=false:=by exact pU0):aL P B W ops (o :: l) K st:=aL.guard_nt hg hdd hd hv hb h2
theorem qaf33 {s:TypeId} {x:Operand} {f fo n off:Nat} {cs:List T} {y:Ty} (hK:KE (.rptr cs (off + fo)) []) (ho:o.op=.fieldAddr s x f:=by exact rfl) (hx:st.ev x=.rptr cs off:=by exact rfl) (hy:Zac P s=some y:=by exact Tryz.ti rfl) (hf:ZhE y f=some (fo,n):=by exact rfl):OpS P B W o st KE:=OpS.field_rptr ho hx hy hf hK
theorem ZgD {rl:List ResultVar} {objs objs':List (Nat×Nat×Ob)} {r v:V} {e:Exit} {st:St} {vs:List V} (hg:(Zcs r=true∧v=r∧((ids0 r).all fun o=>(idsL objs').contains o)=true)∨(Zcs r=false∧Giv2 (look st.objs) v r∧(ids2 v).Nodup∧((ids2 v).all fun o=>!(idsL objs').contains o)=true)) (he:e=.normal∨e=.ret:=by exact pU12) (hL:resL P st rl=some vs:=by exact pU18) (hb:vs.all Zkb=true:=by exact rfl) (hv:vOf vs=v:=by first|exact e6fb rfl|exact e5cc rfl|exact ed24 rfl|exact e639 rfl|exact e228 rfl|exact eae2 rfl|exact e32b rfl|exact e318 rfl|exact eeb8 rfl|exact e91e rfl|exact e855 rfl) (ho:leO st.objs objs':=by exact pU3) (h2:((objs'.flatMap fun p=>ZgB p.2.2).all fun o=>(idsL objs').contains o)=true:=by exact rfl) (h3:((idsL objs).all fun o=>(idsL objs').contains o)=true:=by exact rfl):Zbu P rl objs objs' r e st:=Zbu.intro he hL hb hv ho h2 h3 hg
theorem qb108 {t t':TypeId} {x y:Operand} {k k':IntKind} {m n:Int} (hK:KE (.t (.int k (m.fdiv (2 ^ (min n.toNat k.bits))))) []) (ho:o.op=.binOp .shr t x y t':=by exact rfl) (hx:st.ev x=.t (.int k m):=by exact rfl) (hy:st.ev y=.t (.int k' n):=by exact rfl) (hn:0≤n:=by omega):OpQ P B W o os st KE:=OpQ.shr ho hx hy hn hK
theorem qb2b4 {src dst:TypeId} {x:Operand} {k k':IntKind} {n:Int} {ys yd:Ty} (hK:KE (.t (.int k' (k'.wrap n))) []) (ho:o.op=.convert src dst x:=by exact rfl) (hx:st.ev x=.t (.int k n):=by exact rfl) (hs:Zac P src=some ys:=by exact Tryz.ti rfl) (hd:Zac P dst=some yd:=by exact Tryz.ti rfl) (hk:yd.k=.int k':=by exact rfl):OpS P B W o st KE:=OpS.conv_int ho hx hs hd hk hK
theorem qb7fa {op:BinOp} {t t':TypeId} {x y:Operand} {k:IntKind} {m n r:Int} (hK:KE (.t (.int k r)) []) (ho:o.op=.binOp op t x y t':=by exact rfl) (hx:st.ev x=.t (.int k m):=by exact rfl) (hy:st.ev y=.t (.int k n):=by exact rfl) (hb:arV op k m n=some r:=by exact rfl):OpQ P B W o os st KE:=OpQ.arith ho hx hy hb hK
theorem qba72 {ty:TypeId} {x:Operand} {i ep off:Nat} {bt:TypeId} {cs:List V} {y:Ty} {v:V} (hK:KE v []) (ho:o.op=.load ty x:=by exact rfl) (hx:st.ev x=.ptr i ep 0 off:=by exact rfl) (hl:look st.objs i=some (ep,.box bt cs):=by exact rfl) (hos:os.contains i=true:=by exact rfl) (hy:Zac P ty=some y:=by exact Tryz.ti rfl) (hv:Zdp y.k.agg y.size cs off=some v:=by exact pU10):OpQ P B W o os st KE:=OpQ.load_box ho hx hl hos hy hv hK
theorem qbd42 {site ep:Nat} {e:TypeId} {x:Operand} {v:V} (hK:KE (.ptr site ep 0 0) [(site,ep,.box e (ZaT v))]) (ho:o.op=.box e x:=by exact rfl) (hd:o.dst=some site:=by exact rfl) (hx:st.ev x=v:=by exact pU4) (hs:(ZaT v).all V.sto=true:=by exact rfl) (hep:nep (look st.objs site)=ep:=by exact pU17):OpS P B W o st KE:=OpS.box ho hd hx hs hep hK
theorem qbeab {ty:TypeId} {x:Operand} {i ep off:Nat} {bt:TypeId} {cs:List V} {y:Ty} {v:V} (hK:KE v []) (ho:o.op=.load ty x:=by exact rfl) (hx:st.ev x=.ptr i ep 0 off:=by exact rfl) (hl:look st.objs i=some (ep,.box bt cs):=by exact rfl) (hy:Zac P ty=some y:=by exact Tryz.ti rfl) (hv:Zdp y.k.agg y.size cs off=some v:=by exact pU10):OpS P B W o st KE:=OpS.load_box ho hx hl hy hv hK
theorem qc308 {x:Operand} {t:TypeId} {c:Call} {i ep:Nat} {fl d:Bool} {e':Nat} {els:List (List T)} {e es eb:Nat} {y:Ty} {m:Nat} (hK:KE (.t (.int .i64 m)) []) (ho:o.op=.call c:=by exact rfl) (h1:c.callee=.builtin .len:=by exact rfl) (h2:c.args=#[x]:=by exact rfl) (h3:c.argTypes=#[t]:=by exact rfl) (hy:Zac P t=some y:=by exact Tryz.ti rfl) (hk:y.k=.slice e es eb:=by exact rfl) (hx:st.ev x=.hnd i ep:=by exact rfl) (hl:look st.objs i=some (ep,.row fl d e' els):=by exact rfl) (hm:els.length=m:=by exact pU19):OpQ P B W o os st KE:=OpQ.len_hnd ho h1 h2 h3 hy hk hx hl hm hK
theorem qc70f {t:TypeId} {xl xc:Operand} {kl kc:IntKind} {l c:Int} {y ye:Ty} {e es eb site ep:Nat} {zs:List V} {tz:List T} {fl:Bool} (hK:KE (.hnd site ep) [(site,ep,.row fl true e (List.replicate l.toNat tz))]) (ho:o.op=.makeSlice t xl xc:=by exact rfl) (hd:o.dst=some site:=by exact rfl) (hl:st.ev xl=.t (.int kl l):=by exact rfl) (hc:st.ev xc=.t (.int kc c):=by exact rfl) (hy:Zac P t=some y:=by exact Tryz.ti rfl) (hk:y.k=.slice e es eb:=by exact rfl) (hye:Zac P e=some ye:=by exact Tryz.ti rfl) (hyb:ye.bytes=eb:=by exact rfl) (hz:ye.zero=some zs:=by exact rfl) (hzt:cstT zs=some tz:=by exact rfl) (hes:Nat.beq tz.length es=true:=by exact rfl) (hpos:Nat.beq es 0=false:=by exact rfl) (hfl:tz.all T.flat=fl:=by exact rfl) (hlc:0≤l∧l≤c∧(eb:Int) * c≤281474976710656∧c≤9223372036854775807:=by omega) (hep:nep (look st.objs site)=ep:=by exact pU17):OpS P B W o st KE:=OpS.makeSlice ho hd hl hc hy hk hye hyb hz hzt hes hpos hfl hlc hep hK
theorem Zvy {t t':TypeId} {x y:Operand} {k:IntKind} {m n:Int} (hK:KE (.t (.int k (k.wrap (m.tdiv n)))) []) (ho:o.op=.binOp .quo t x y t':=by exact rfl) (hx:st.ev x=.t (.int k m):=by exact rfl) (hy:st.ev y=.t (.int k n):=by exact rfl) (hn:n ≠ 0:=by decide):OpS P B W o st KE:=OpS.quo ho hx hy hn hK
theorem qce0b {c:Call} {x y:Operand} {k:IntKind} {m n:Int} (hK:KE (.t (.int k (if n > m then n else m))) []) (ho:o.op=.call c:=by exact rfl) (h1:c.callee=.builtin .max:=by exact rfl) (h2:c.args=#[x,y]:=by exact rfl) (hx:st.ev x=.t (.int k m):=by exact rfl) (hy:st.ev y=.t (.int k n):=by exact rfl):OpQ P B W o os st KE:=OpQ.max2 ho h1 h2 hx hy hK
theorem qd1c8 {t:TypeId} {parts:Array (Nat×Operand)} {xs:List (Nat×Operand)} {y:Ty} {fs:List (Nat×Nat)} {zs cs:List V} (hK:KE (.agg cs) []) (ho:o.op=.build t parts:=by exact rfl) (hxs:parts.toList=xs:=by exact rfl) (hy:Zac P t=some y:=by exact Tryz.ti rfl) (hk:y.k=.struct fs:=by exact rfl) (hz:y.zero=some zs:=by first|exact e5c4 rfl|exact e97d rfl|exact ef7c rfl|exact ea92 rfl|exact efaf rfl|exact e549 rfl) (hnz:fs.all (fun p=>!Nat.beq p.2 0)=true:=by exact rfl) (hF:FillN fs zs (xs.map fun p=>(p.1,st.ev p.2)) cs:=by first|((repeat' (first|exact FillN.nil|(apply FillN.step;(focus exact (by first|exact e6fb rfl|exact ed24 rfl|exact e639 rfl|exact e1d4 rfl|exact e855 rfl|exact e9a0 rfl));(focus exact rfl);(focus exact (by first|exact e679 rfl|exact ecef rfl|exact eee1 rfl|exact e21e rfl|exact ec55 rfl));(focus exact rfl);(focus exact rfl);(focus exact rfl);(focus exact (by first|exact e679 rfl|exact ecef rfl|exact eee1 rfl|exact e21e rfl|exact ec55 rfl|exact e10f rfl)))));done)|fail):OpS P B W o st KE:=OpS.build2 ho hxs hy hk hz hnz hF hK
theorem qd6d5 {st st':St} (hn:st'.n=st.n:=by exact rfl) (ht:leT st.n st.tmps st'.tmps:=by first|((repeat' (first|exact trivial|refine And.intro ?_ ?_|exact e6fb rfl|exact ed24 rfl|exact e639 rfl|exact e1d4 rfl|exact e855 rfl|exact e9a0 rfl));done)|fail) (ho:leO st.objs st'.objs:=by exact pU3) (hc:Zfu st'=true:=by exact rfl):Le st st':=Le.of hn ht ho hc
theorem qdca1 {t:TypeId} {x ix:Operand} {i ep:Nat} {fl d:Bool} {els:List (List T)} {n:Int} {k:IntKind} {e es eb e' m:Nat} {y:Ty} (hK:KE (.ptr i ep m 0) []) (ho:o.op=.indexAddr t x ix:=by exact rfl) (hx:st.ev x=.hnd i ep:=by exact rfl) (hl:look st.objs i=some (ep,.row fl d e' els):=by exact rfl) (hi:st.ev ix=.t (.int k n):=by exact rfl) (hy:Zac P t=some y:=by exact Tryz.ti rfl) (hk:y.k=.slice e es eb:=by exact rfl) (hes:es ≠ 0:=by decide) (he:e'=e:=by exact rfl) (hm:n=(m:Int):=by first|rfl|omega|(simp;omega)) (hlt:m < els.length:=by exact pU7):OpS P B W o st KE:=OpS.index_row ho hx hl hi hy hk hes he hm hlt hK
theorem qddd4 {ty:TypeId} {x:Operand} {i ep n off:Nat} {fl d:Bool} {e:TypeId} {els:List (List T)} {y:Ty} {v:V} {cs:List T} (hK:KE v []) (ho:o.op=.load ty x:=by exact rfl) (hx:st.ev x=.ptr i ep n off:=by exact rfl) (hl:look st.objs i=some (ep,.row fl d e els):=by exact rfl) (hos:os.contains i=true:=by exact rfl) (hfd:fl=true∨d=false:=by exact pU21) (hc:els[n]?=some cs:=by exact pU11) (hy:Zac P ty=some y:=by exact Tryz.ti rfl) (hv:Zdp y.k.agg y.size (cs.map .t) off=some v:=by exact pU10):OpQ P B W o os st KE:=OpQ.load_elem ho hx hl hos hfd hc hy hv hK
theorem qdf77 {op:BinOp} {t t':TypeId} {x y:Operand} {m n:List UInt8} {b:Bool} (hK:KE (.t (.bool b)) []) (ho:o.op=.binOp op t x y t':=by exact rfl) (hx:st.ev x=.t (.str m):=by exact rfl) (hy:st.ev y=.t (.str n):=by exact rfl) (hb:cmpS op m n=some b:=by exact rfl):OpQ P B W o os st KE:=OpQ.cmp_str ho hx hy hb hK
theorem qe1ad {j d:Nat} {want b:Bool} {dd:Option Tmp} (h1:b=true→aL P B W ops (o :: l) K st) (h2:b=false→aL P B W ops (o :: l) K st) (hg:o.guard=some (j,want):=by exact rfl) (hdd:o.dst=dd:=by exact pU14) (hd:(ops[j]?).bind (·.dst)=some d:=by exact rfl) (hv:st.ev (.tmp d)=.t (.bool b):=by exact rfl):aL P B W ops (o :: l) K st:=aL.guard2 hg hdd hd hv h1 h2
theorem qe495 {t:TypeId} {x ix:Operand} {fl:Bool} {els:List (List T)} {n:Int} {k:IntKind} {e es eb e' m:Nat} {y:Ty} {cs:List T} (hK:KE (.rptr cs 0) []) (ho:o.op=.indexAddr t x ix:=by exact rfl) (hx:st.ev x=.t (.lst fl e' els):=by exact rfl) (hi:st.ev ix=.t (.int k n):=by exact rfl) (hy:Zac P t=some y:=by exact Tryz.ti rfl) (hk:y.k=.slice e es eb:=by exact rfl) (hes:es ≠ 0:=by decide) (he:e'=e:=by exact rfl) (hm:n=(m:Int):=by first|rfl|omega|(simp;omega)) (hc:els[m]?=some cs:=by exact pU11):OpQ P B W o os st KE:=OpQ.index_at ho hx hi hy hk hes he hm hc hK
theorem qe817 {t t':TypeId} {x y:Operand} {m n:List UInt8} (hK:KE (.t (.str (m++n))) []) (ho:o.op=.binOp .add t x y t':=by exact rfl) (hx:st.ev x=.t (.str m):=by exact rfl) (hy:st.ev y=.t (.str n):=by exact rfl) (hl:m.length + n.length≤maxLen:=by first|omega|(simp;omega)):OpQ P B W o os st KE:=OpQ.add_str ho hx hy hl hK
theorem qeec6 {c x y:Operand} {t:Bool} {v:V} (hK:KE v []) (ho:o.op=.pick c x y:=by exact rfl) (hc:st.ev c=.t (.bool t):=by exact rfl) (ht:t=false:=by exact pU0) (hx:st.ev y=v:=by exact pU4):OpQ P B W o os st KE:=OpQ.pick_f ho hc ht hx hK
theorem qf344 {ty:TypeId} {x:Operand} {off:Nat} {cs:List T} {y:Ty} {v:V} (hK:KE v []) (ho:o.op=.load ty x:=by exact rfl) (hx:st.ev x=.rptr cs off:=by exact rfl) (hy:Zac P ty=some y:=by exact Tryz.ti rfl) (hv:Zdp y.k.agg y.size (cs.map .t) off=some v:=by exact pU10):OpS P B W o st KE:=OpS.load_rptr ho hx hy hv hK
theorem qf3ef {st st':St} (hn:st'.n=st.n:=by exact rfl) (ht:leT st.n st.tmps st'.tmps:=by exact pU3) (ho:leO st.objs st'.objs:=by exact pU3) (hc:Zfu st'=true:=by exact rfl):Le st st':=Le.of hn ht ho hc
theorem qf59b {t:TypeId} {x:Operand} {lo hi:Option Operand} {fl:Bool} {e es eb e':Nat} {els:List (List T)} {y:Ty} {l h:Int} {n:Nat} {els2:List (List T)} (hK:KE (.t (.lst fl e' els2)) []) (ho:o.op=.slice t x lo hi none:=by exact rfl) (hx:st.ev x=.t (.lst fl e' els):=by exact rfl) (hy:Zac P t=some y:=by exact Tryz.ti rfl) (hk:y.k=.slice e es eb:=by exact rfl) (hes:es ≠ 0:=by decide) (he:e'=e:=by exact rfl) (hn0:els.length=n:=by exact pU19) (hl:bnd st lo 0=some l:=by exact rfl) (hh:bnd st hi n=some h:=by exact rfl) (h0:0≤l∧l≤h∧h≤n:=by refine And.intro ?_ (And.intro ?_ ?_)<;>(first|omega|(simp;omega)|(simp [Zao];omega))) (h2:(els.drop l.toNat).take (h.toNat - l.toNat)=els2:=by first|exact Zjt _ _ _ _|rfl):OpS P B W o st KE:=OpS.slice_lst ho hx hy hk hes he hn0 hl hh h0 h2 hK
theorem qf695 {t:TypeId} {x ix:Operand} {fl:Bool} {els:List (List T)} {n:Int} {k:IntKind} {e es eb e' m:Nat} {y:Ty} {cs:List T} (hK:KE (.rptr cs 0) []) (ho:o.op=.indexAddr t x ix:=by exact rfl) (hx:st.ev x=.t (.lst fl e' els):=by exact rfl) (hi:st.ev ix=.t (.int k n):=by exact rfl) (hy:Zac P t=some y:=by exact Tryz.ti rfl) (hk:y.k=.slice e es eb:=by exact rfl) (hes:es ≠ 0:=by decide) (he:e'=e:=by exact rfl) (hm:n=(m:Int):=by first|rfl|omega|(simp;omega)) (hc:els[m]?=some cs:=by exact pU11):OpS P B W o st KE:=OpS.index_at ho hx hi hy hk hes he hm hc hK
theorem qf8ce {t t':TypeId} {x y:Operand} {k:IntKind} {m n:Int} (hK:KE (.t (.int k (m.tmod n))) []) (ho:o.op=.binOp .rem t x y t':=by exact rfl) (hx:st.ev x=.t (.int k m):=by exact rfl) (hy:st.ev y=.t (.int k n):=by exact rfl) (hn:n ≠ 0:=by omega):OpQ P B W o os st KE:=OpQ.rem ho hx hy hn hK
theorem qfb2e {t:TypeId} {x ix:Operand} {s:List UInt8} {n:Int} {k:IntKind} {y:Ty} (hK:KE (.t (.int .u8 ((s.getD n.toNat 0).toNat:Nat))) []) (ho:o.op=.index t x ix:=by exact rfl) (hx:st.ev x=.t (.str s):=by exact rfl) (hi:st.ev ix=.t (.int k n):=by exact rfl) (hy:Zac P t=some y:=by exact Tryz.ti rfl) (hk:y.k=.str:=by exact rfl) (hn:0≤n∧n < s.length:=by omega):OpS P B W o st KE:=OpS.index_str ho hx hi hy hk hn hK
end
structure Hld (Y:Prop):Prop where
 out:Y
structure HldI (i:Nat) (Y:Prop):Prop where
 out:Y
theorem pc {X Y:Prop} (h:Y) (r:Hld Y→X:=by intro h;first|exact aW.seq h.out|exact aW.region h.out|exact aW.ret h.out|exact aW.skip h.out|exact aW.block h.out|exact aW.exit h.out|exact q530b h.out|exact q9fa3 h.out):X:=r ⟨h⟩
theorem pl {X Y:Prop} (h:Y) (r:Hld Y→X:=by intro h;first|exact q11db h.out|exact qa9c6 h.out|exact q4ea8 h.out|exact qae47 h.out|exact q69f7 h.out|exact q55dd h.out):X:=r ⟨h⟩
theorem pa {X Y:Prop} (h:Y) (r:Hld Y→X:=by intro h;first|exact aW.seq h.out|exact aW.region h.out|exact aW.ret h.out|exact aW.skip h.out|exact aW.block h.out|exact aW.exit h.out|exact q530b h.out|exact q9fa3 h.out|exact q11db h.out|exact qa9c6 h.out|exact q4ea8 h.out|exact qae47 h.out|exact q69f7 h.out|exact q55dd h.out):X:=r ⟨h⟩
theorem pbc {X Y Z:Prop} (h:Y) (h':Z) (r:Hld Y→Hld Z→X:=by intro h h';first|exact q163f h.out h'.out|exact qa44e h.out h'.out):X:=r ⟨h⟩ ⟨h'⟩
theorem pbl {X Y Z:Prop} (h:Y) (h':Z) (r:Hld Y→Hld Z→X:=by intro h h';first|exact q225e h.out h'.out|exact qe1ad h.out h'.out):X:=r ⟨h⟩ ⟨h'⟩
theorem pb {X Y Z:Prop} (h:Y) (h':Z) (r:Hld Y→Hld Z→X:=by intro h h';first|exact q163f h.out h'.out|exact qa44e h.out h'.out|exact q225e h.out h'.out|exact qe1ad h.out h'.out):X:=r ⟨h⟩ ⟨h'⟩
theorem pk0 {X Y:Prop} (h:Y) (r:Hld Y→X:=by intro h;(refine Zab (n:=0) ?_;(first|exact q608d h.out))):X:=r ⟨h⟩
theorem pk7 {X Y:Prop} (h:Y) (r:Hld Y→X:=by intro h;(refine Zab (n:=7) ?_;(first|exact qbeab h.out|exact qf344 h.out|exact q1cc1 h.out))):X:=r ⟨h⟩
theorem pk15 {X Y:Prop} (h:Y) (r:Hld Y→X:=by intro h;(refine Zab (n:=15) ?_;(first|exact q4fbd h.out|exact qaf33 h.out))):X:=r ⟨h⟩
theorem pk20 {X Y:Prop} (h:Y) (r:Hld Y→X:=by intro h;(refine pz9 ?_;(first|exact q66b9 h.out|exact q05c1 h.out|exact q6aa0 h.out|exact q24ef h.out|exact q938f h.out|exact q10cd h.out|exact qdb42 h.out|exact qdd53 h.out|exact q3c36 h.out|exact q4d67 h.out|exact q0778 h.out|exact qe9f8 h.out))):X:=r ⟨h⟩
theorem pk8 {X Y:Prop} (h:Y) (r:Hld Y→X:=by intro h;(refine Zab (n:=8) ?_;(first|exact q7344 h.out|exact q9326 h.out))):X:=r ⟨h⟩
theorem pk3 {X Y:Prop} (h:Y) (r:Hld Y→X:=by intro h;(refine Zab (n:=3) ?_;(first|exact q8d11 h.out))):X:=r ⟨h⟩
theorem pk5 {X Y:Prop} (h:Y) (r:Hld Y→X:=by intro h;(refine Zab (n:=5) ?_;(first|exact qd1c8 h.out))):X:=r ⟨h⟩
theorem pk6 {X Y:Prop} (h:Y) (r:Hld Y→X:=by intro h;(refine Zab (n:=6) ?_;(first|exact q3945 h.out))):X:=r ⟨h⟩
theorem pk14 {X Y:Prop} (h:Y) (r:Hld Y→X:=by intro h;(refine Zab (n:=14) ?_;(first|exact qf59b h.out|exact q1347 h.out|exact q5a78 h.out))):X:=r ⟨h⟩
theorem po {X Y:Prop} (h:Y) (r:Hld Y→X:=by intro h;first|(refine Zab (n:=0) ?_;(first|exact q608d h.out))|(refine Zab (n:=7) ?_;(first|exact qbeab h.out|exact qf344 h.out|exact q1cc1 h.out))|(refine Zab (n:=10) ?_;(first|exact q3e25 h.out|exact q151a h.out|exact q984c h.out|exact Zvy h.out|exact q4d24 h.out|exact q4c13 h.out|exact q5079 h.out|exact qa508 h.out|exact q138e h.out|exact q3f53 h.out|exact q3559 h.out))|(refine Zab (n:=15) ?_;(first|exact q4fbd h.out|exact qaf33 h.out))|(refine Zab (n:=17) ?_;(first|exact qf695 h.out|exact qdca1 h.out|exact q1f72 h.out|exact q0d56 h.out|exact q4db2 h.out))|(refine Zab (n:=1) ?_;(first|exact q9d68 h.out))|(refine pz9 ?_;(first|exact q66b9 h.out|exact q05c1 h.out|exact q6aa0 h.out|exact q24ef h.out|exact q938f h.out|exact q10cd h.out|exact qdb42 h.out|exact qdd53 h.out|exact q3c36 h.out|exact q4d67 h.out|exact q0778 h.out|exact qe9f8 h.out))|(refine Zab (n:=2) ?_;(first|exact qace2 h.out|exact q34f8 h.out))|(refine Zab (n:=11) ?_;(first|exact qfade h.out|exact q58d6 h.out|exact q38bb h.out))|(refine Zab (n:=8) ?_;(first|exact q7344 h.out|exact q9326 h.out))|(refine Zab (n:=3) ?_;(first|exact q8d11 h.out))|(refine Zab (n:=19) ?_;(first|exact q2cdd h.out))|(refine Zab (n:=4) ?_;(first|exact qbd42 h.out))|(refine Zab (n:=18) ?_;(first|exact qfb2e h.out))|(refine Zab (n:=5) ?_;(first|exact qd1c8 h.out))|(refine Zab (n:=6) ?_;(first|exact q3945 h.out))|(refine Zab (n:=9) ?_;(first|exact q8dd6 h.out))|(refine Zab (n:=12) ?_;(first|exact qb2b4 h.out|exact q0db4 h.out|exact qf8cf h.out))|(refine Zab (n:=13) ?_;(first|exact qc70f h.out))|(refine Zab (n:=14) ?_;(first|exact qf59b h.out|exact q1347 h.out|exact q5a78 h.out))):X:=r ⟨h⟩
theorem pq17 {X Y:Prop} (h:Y) (r:Hld Y→X:=by intro h;(refine ZcU (n:=17) ?_;(first|exact qe495 h.out|exact q78a0 h.out|exact q9026 h.out|exact q9e71 h.out))):X:=r ⟨h⟩
section
variable {P:Program} {B:Nat→Prop} {W:En} {o:Oper} {os:List Nat} {st:St} {KE:V→List (Nat×Nat×Ob)→Prop} {ops:Array Oper} {l:List Oper} {K:St→Prop} {Q:Exit→St→Prop} {ls:Array Bool} {n i:Nat}
theorem aA.takeI {Y:Prop} {d:Option Tmp} (hI:HldI i Y) (h:OpQ P B W o os st fun v upd=>aA P B W ops os n (ls.setIfInBounds i true) K ((st.upds upd).put d v)) (hi:ops[i]?=some o:=by exact rfl) (hs:Region.noSelect ops=true:=by kernel_rfl) (hf:Region.free .any ops ls i=true:=by kernel_rfl) (hr:(Region.ready .any ops ls).contains i=true:=by kernel_rfl) (hg:o.guard=none:=by exact rfl) (hd:o.dst=d:=by exact pU14):aA P B W ops os (n + 1) ls K st:=aA.take hi hs hf hr hg hd h
theorem aA.yesI {Y:Prop} {j d:Nat} {want b:Bool} {dd:Option Tmp} (hI:HldI i Y) (h:OpQ P B W o os st fun v upd=>aA P B W ops os n (ls.setIfInBounds i true) K ((st.upds upd).put dd v)) (hi:ops[i]?=some o:=by exact rfl) (hs:Region.noSelect ops=true:=by kernel_rfl) (hf:Region.free .any ops ls i=true:=by kernel_rfl) (hr:(Region.ready .any ops ls).contains i=true:=by kernel_rfl) (hg:o.guard=some (j,want):=by exact rfl) (hdd:o.dst=dd:=by exact pU14) (hd:(ops[j]?).bind (·.dst)=some d:=by exact rfl) (hv:st.ev (.tmp d)=.t (.bool b):=by exact rfl) (hb:b=want:=by exact pU0):aA P B W ops os (n + 1) ls K st:=aA.t_yes hi hs hf hr hg hdd hd hv hb h
theorem aA.noI {Y:Prop} {j d:Nat} {want b:Bool} {dd:Option Tmp} (hI:HldI i Y) (h:aA P B W ops os n (ls.setIfInBounds i true) K (st.put dd (.lit undef))) (hi:ops[i]?=some o:=by exact rfl) (hs:Region.noSelect ops=true:=by kernel_rfl) (hf:Region.free .any ops ls i=true:=by kernel_rfl) (hr:(Region.ready .any ops ls).contains i=true:=by kernel_rfl) (hg:o.guard=some (j,want):=by exact rfl) (hdd:o.dst=dd:=by exact pU14) (hd:(ops[j]?).bind (·.dst)=some d:=by exact rfl) (hv:st.ev (.tmp d)=.t (.bool b):=by exact rfl) (hb:b=!want:=by exact pU0):aA P B W ops os (n + 1) ls K st:=aA.t_no hi hs hf hr hg hdd hd hv hb h
theorem aA.notI {Y:Prop} {j d:Nat} {want:Bool} {dd:Option Tmp} (hI:HldI i Y) (h:aA P B W ops os n (ls.setIfInBounds i true) K (st.put dd (.lit undef))) (hi:ops[i]?=some o:=by exact rfl) (hs:Region.noSelect ops=true:=by kernel_rfl) (hf:Region.free .any ops ls i=true:=by kernel_rfl) (hr:(Region.ready .any ops ls).contains i=true:=by kernel_rfl) (hg:o.guard=some (j,want):=by exact rfl) (hdd:o.dst=dd:=by exact pU14) (hd:(ops[j]?).bind (·.dst)=some d:=by exact rfl) (hv:st.ev (.tmp d)=.lit undef:=by exact rfl):aA P B W ops os (n + 1) ls K st:=aA.t_not hi hs hf hr hg hdd hd hv h
end
theorem pt0_ {X Y:Prop} (i:Nat) (h:Y) (r:HldI i Y→X:=by intro h;refine aA.takeI h ?_;(refine ZcU (n:=0) ?_;(first|exact q2bd3 h.out))):X:=r ⟨h⟩
theorem pg0_ {X Y:Prop} (i:Nat) (h:Y) (r:HldI i Y→X:=by intro h;first|(refine aA.yesI h ?_;(refine ZcU (n:=0) ?_;(first|exact q2bd3 h.out)))|exact aA.noI h h.out|exact aA.notI h h.out):X:=r ⟨h⟩
theorem pt1_ {X Y:Prop} (i:Nat) (h:Y) (r:HldI i Y→X:=by intro h;refine aA.takeI h ?_;(refine ZcU (n:=1) ?_;(first|exact q4aee h.out))):X:=r ⟨h⟩
theorem pt2_ {X Y:Prop} (i:Nat) (h:Y) (r:HldI i Y→X:=by intro h;refine aA.takeI h ?_;(refine ZcU (n:=2) ?_;(first|exact qabd5 h.out|exact qeec6 h.out))):X:=r ⟨h⟩
theorem pt7_ {X Y:Prop} (i:Nat) (h:Y) (r:HldI i Y→X:=by intro h;refine aA.takeI h ?_;(refine ZcU (n:=7) ?_;(first|exact qba72 h.out|exact q50d3 h.out|exact qddd4 h.out))):X:=r ⟨h⟩
theorem pg7_ {X Y:Prop} (i:Nat) (h:Y) (r:HldI i Y→X:=by intro h;first|(refine aA.yesI h ?_;(refine ZcU (n:=7) ?_;(first|exact qba72 h.out|exact q50d3 h.out|exact qddd4 h.out)))|exact aA.noI h h.out|exact aA.notI h h.out):X:=r ⟨h⟩
theorem pt9_ {X Y:Prop} (i:Nat) (h:Y) (r:HldI i Y→X:=by intro h;refine aA.takeI h ?_;(refine ZcU (n:=9) ?_;(first|exact q684f h.out))):X:=r ⟨h⟩
theorem pg9_ {X Y:Prop} (i:Nat) (h:Y) (r:HldI i Y→X:=by intro h;first|(refine aA.yesI h ?_;(refine ZcU (n:=9) ?_;(first|exact q684f h.out)))|exact aA.noI h h.out|exact aA.notI h h.out):X:=r ⟨h⟩
theorem Zbh {X Y:Prop} (i:Nat) (h:Y) (r:HldI i Y→X:=by intro h;refine aA.takeI h ?_;(refine ZcU (n:=10) ?_;(first|exact q058e h.out|exact q8176 h.out|exact q6b2a h.out|exact qf8ce h.out|exact qb7fa h.out|exact qdf77 h.out|exact q68f0 h.out|exact qe817 h.out|exact qb108 h.out))):X:=r ⟨h⟩
theorem ZcA {X Y:Prop} (i:Nat) (h:Y) (r:HldI i Y→X:=by intro h;first|(refine aA.yesI h ?_;(refine ZcU (n:=10) ?_;(first|exact q058e h.out|exact q8176 h.out|exact q6b2a h.out|exact qf8ce h.out|exact qb7fa h.out|exact qdf77 h.out|exact q68f0 h.out|exact qe817 h.out|exact qb108 h.out)))|exact aA.noI h h.out|exact aA.notI h h.out):X:=r ⟨h⟩
theorem Zf9 {X Y:Prop} (i:Nat) (h:Y) (r:HldI i Y→X:=by intro h;refine aA.takeI h ?_;(refine ZcU (n:=11) ?_;(first|exact q82cb h.out))):X:=r ⟨h⟩
theorem ZnK {X Y:Prop} (i:Nat) (h:Y) (r:HldI i Y→X:=by intro h;first|(refine aA.yesI h ?_;(refine ZcU (n:=11) ?_;(first|exact q82cb h.out)))|exact aA.noI h h.out|exact aA.notI h h.out):X:=r ⟨h⟩
theorem ZkV {X Y:Prop} (i:Nat) (h:Y) (r:HldI i Y→X:=by intro h;refine aA.takeI h ?_;(refine ZcU (n:=14) ?_;(first|exact q7ba4 h.out|exact q3d15 h.out|exact q467e h.out))):X:=r ⟨h⟩
theorem ZaC {X Y:Prop} (i:Nat) (h:Y) (r:HldI i Y→X:=by intro h;refine aA.takeI h ?_;(refine ZcU (n:=15) ?_;(first|exact q985e h.out|exact q07f5 h.out))):X:=r ⟨h⟩
theorem ZaK {X Y:Prop} (i:Nat) (h:Y) (r:HldI i Y→X:=by intro h;first|(refine aA.yesI h ?_;(refine ZcU (n:=15) ?_;(first|exact q985e h.out|exact q07f5 h.out)))|exact aA.noI h h.out|exact aA.notI h h.out):X:=r ⟨h⟩
theorem Za7 {X Y:Prop} (i:Nat) (h:Y) (r:HldI i Y→X:=by intro h;refine aA.takeI h ?_;(refine ZcU (n:=17) ?_;(first|exact qe495 h.out|exact q78a0 h.out|exact q9026 h.out|exact q9e71 h.out))):X:=r ⟨h⟩
theorem Zf8 {X Y:Prop} (i:Nat) (h:Y) (r:HldI i Y→X:=by intro h;first|(refine aA.yesI h ?_;(refine ZcU (n:=17) ?_;(first|exact qe495 h.out|exact q78a0 h.out|exact q9026 h.out|exact q9e71 h.out)))|exact aA.noI h h.out|exact aA.notI h h.out):X:=r ⟨h⟩
theorem pt18_ {X Y:Prop} (i:Nat) (h:Y) (r:HldI i Y→X:=by intro h;refine aA.takeI h ?_;(refine ZcU (n:=18) ?_;(first|exact q96c2 h.out))):X:=r ⟨h⟩
theorem Zes {X Y:Prop} (i:Nat) (h:Y) (r:HldI i Y→X:=by intro h;refine aA.takeI h ?_;(refine ZcU (n:=19) ?_;(first|exact q892c h.out))):X:=r ⟨h⟩
theorem Ziv {X Y:Prop} (i:Nat) (h:Y) (r:HldI i Y→X:=by intro h;refine aA.takeI h ?_;(refine ZcU (n:=20) ?_;(first|exact q0477 h.out|exact qc308 h.out|exact qa698 h.out|exact q367c h.out|exact qce0b h.out))):X:=r ⟨h⟩
theorem ZkT {X Y:Prop} (i:Nat) (h:Y) (r:HldI i Y→X:=by intro h;first|(refine aA.yesI h ?_;(refine ZcU (n:=20) ?_;(first|exact q0477 h.out|exact qc308 h.out|exact qa698 h.out|exact q367c h.out|exact qce0b h.out)))|exact aA.noI h h.out|exact aA.notI h h.out):X:=r ⟨h⟩
theorem pti {X Y:Prop} (i:Nat) (h:Y) (r:HldI i Y→X:=by intro h;exact aA.takeI h h.out):X:=r ⟨h⟩
theorem pty {X Y:Prop} (i:Nat) (h:Y) (r:HldI i Y→X:=by intro h;exact aA.yesI h h.out):X:=r ⟨h⟩
theorem ptn {X Y:Prop} (i:Nat) (h:Y) (r:HldI i Y→X:=by intro h;first|exact aA.noI h h.out|exact aA.notI h h.out):X:=r ⟨h⟩
section
variable {P:Program} {B:Nat→Prop} {W:En} {o:Oper} {os:List Nat} {st:St} {KE:V→List (Nat×Nat×Ob)→Prop} {ops:Array Oper} {l:List Oper} {K:St→Prop} {Q:Exit→St→Prop} {ls:Array Bool} {n i:Nat}
theorem aA.t_dI {Y:Prop} {j d:Nat} {want:Bool} {p:Prop} [Decidable p] {dd:Option Tmp} (hI:HldI i Y) (h1:p→aA P B W ops os n ls K st) (h2:¬ p→aA P B W ops os n ls K st) (hi:ops[i]?=some o:=by exact rfl) (hg:o.guard=some (j,want):=by exact rfl) (hdd:o.dst=dd:=by exact pU14) (hd:(ops[j]?).bind (·.dst)=some d:=by exact rfl) (hv:st.ev (.tmp d)=.t (.bool (decide p)):=by exact rfl):aA P B W ops os n ls K st:=aA.t_d hi hg hdd hd hv h1 h2
theorem aA.t_2I {Y:Prop} {j d:Nat} {want b:Bool} {dd:Option Tmp} (hI:HldI i Y) (h1:b=true→aA P B W ops os n ls K st) (h2:b=false→aA P B W ops os n ls K st) (hi:ops[i]?=some o:=by exact rfl) (hg:o.guard=some (j,want):=by exact rfl) (hdd:o.dst=dd:=by exact pU14) (hd:(ops[j]?).bind (·.dst)=some d:=by exact rfl) (hv:st.ev (.tmp d)=.t (.bool b):=by exact rfl):aA P B W ops os n ls K st:=aA.t_2 hi hg hdd hd hv h1 h2
end
theorem pt2 {X Y Z:Prop} (i:Nat) (h:Y) (h':Z) (r:HldI i Y→Hld Z→X:=by intro h h';first|exact aA.t_dI h h.out h'.out|exact aA.t_2I h h.out h'.out):X:=r ⟨h⟩ ⟨h'⟩
theorem pop {X Y:Prop} (h:Y) (r:Hld Y→X:=by intro h;exact q503a h.out):X:=r ⟨h⟩
theorem pog {X Y:Prop} (h:Y) (r:Hld Y→X:=by intro h;exact qab5a h.out):X:=r ⟨h⟩
theorem pon {X Y:Prop} (h:Y) (r:Hld Y→X:=by intro h;first|exact q2f38 h.out):X:=r ⟨h⟩
theorem po2 {X Y Z:Prop} (h:Y) (h':Z) (r:Hld Y→Hld Z→X:=by intro h h';first|exact q8b42 h.out h'.out|exact qece9 h.out h'.out):X:=r ⟨h⟩ ⟨h'⟩
theorem pxk1 {X Y:Prop} (h:Y) (r:Hld Y→X:=by intro h;(refine Zab (n:=17) ?_;(first|exact OpS.index_at (m:=1) rfl rfl rfl (Tryz.ti rfl) rfl (by decide) rfl rfl (by exact pU11) h.out))):X:=r ⟨h⟩
theorem pzk1 {X Y:Prop} (h:Y) (r:Hld Y→X:=by intro h;(refine ZcU (n:=17) ?_;(first|exact OpQ.index_at (m:=1) rfl rfl rfl (Tryz.ti rfl) rfl (by decide) rfl rfl (by exact pU11) h.out))):X:=r ⟨h⟩
theorem ZkW {X Y:Prop} (h:Y) (r:Hld Y→X:=by intro h;(refine Zab (n:=14) ?_;(first|exact q1765 h.out))):X:=r ⟨h⟩
theorem ZaX {X Y:Prop} (h:Y) (r:Hld Y→X:=by intro h;(refine Zab (n:=6) ?_;(first|exact OpS.lit3 rfl rfl (by exact pU6) rfl (Tryz.ti rfl) rfl (Tryz.ti rfl) rfl rfl rfl rfl rfl rfl (by exact pU13) rfl rfl (by first|exact ⟨(show List.flatten [[_,_]]=_ from rfl),rfl⟩|exact ⟨(show List.flatten [[_,_],[_,_]]=_ from rfl),rfl⟩|exact ⟨(show List.flatten [[_,_],[_,_],[_,_]]=_ from rfl),rfl⟩|exact ⟨(show List.flatten [[_]]=_ from rfl),rfl⟩|exact ⟨(show List.flatten [[_],[_]]=_ from rfl),rfl⟩|exact ⟨(show List.flatten [[_],[_],[_]]=_ from rfl),rfl⟩|exact ⟨(show List.flatten [[_],[_],[_],[_]]=_ from rfl),rfl⟩|exact ⟨(show List.flatten [[_],[_],[_],[_],[_]]=_ from rfl),rfl⟩|exact ⟨(show List.flatten [[_],[_],[_],[_],[_],[_]]=_ from rfl),rfl⟩|exact ⟨(show List.flatten [[_],[_],[_],[_],[_],[_],[_]]=_ from rfl),rfl⟩|exact ⟨(show List.flatten [[_],[_],[_],[_],[_],[_],[_],[_]]=_ from rfl),rfl⟩|exact ⟨(show List.flatten [[_],[_],[_],[_],[_],[_],[_],[_],[_]]=_ from rfl),rfl⟩|exact ⟨(show List.flatten [[_],[_],[_],[_],[_],[_],[_],[_],[_],[_]]=_ from rfl),rfl⟩|exact ⟨(show List.flatten [[_],[_],[_],[_],[_],[_],[_],[_],[_],[_],[_]]=_ from rfl),rfl⟩|exact ⟨(show List.flatten [[_],[_],[_],[_],[_],[_],[_],[_],[_],[_],[_],[_]]=_ from rfl),rfl⟩|exact ⟨(show List.flatten [[_,_,_,_,_]]=_ from rfl),rfl⟩|exact ⟨(show List.flatten [[_,_,_,_,_],[_,_,_,_,_]]=_ from rfl),rfl⟩|exact ⟨(show List.flatten [[_,_,_,_,_],[_,_,_,_,_],[_,_,_,_,_]]=_ from rfl),rfl⟩|exact ⟨(show List.flatten [[_,_,_,_,_,_,_,_,_]]=_ from rfl),rfl⟩|exact ⟨(show List.flatten [[_,_,_,_,_,_,_,_,_],[_,_,_,_,_,_,_,_,_]]=_ from rfl),rfl⟩|exact ⟨(show List.flatten [[_,_,_,_,_,_,_,_,_],[_,_,_,_,_,_,_,_,_],[_,_,_,_,_,_,_,_,_]]=_ from rfl),rfl⟩|exact ⟨(show List.flatten [[_,_,_]]=_ from rfl),rfl⟩|exact ⟨(show List.flatten [[_,_,_],[_,_,_]]=_ from rfl),rfl⟩|exact ⟨(show List.flatten [[_,_,_],[_,_,_],[_,_,_]]=_ from rfl),rfl⟩|exact ⟨(show List.flatten [[_,_,_,_,_,_,_,_,_,_]]=_ from rfl),rfl⟩|exact ⟨(show List.flatten [[_,_,_,_,_,_,_,_,_,_],[_,_,_,_,_,_,_,_,_,_]]=_ from rfl),rfl⟩|exact ⟨(show List.flatten [[_,_,_,_,_,_,_,_,_,_],[_,_,_,_,_,_,_,_,_,_],[_,_,_,_,_,_,_,_,_,_]]=_ from rfl),rfl⟩) rfl (by exact pU13) (by exact pU17) (by first|exact ed75 rfl|exact e444 rfl) h.out))):X:=r ⟨h⟩
theorem Zvh {X Y:Prop} (h:Y) (r:Hld Y→X:=by intro h;(refine Zab (n:=8) ?_;(first|exact OpS.store_own rfl rfl rfl (Tryz.ti rfl) (by exact pU4) rfl (by first|exact cvtA rfl|exact cvtB rfl|exact cvtC rfl) rfl rfl rfl (by exact pU7) (by first|exact getD_map (by omega)|rfl) (Tryz.ti rfl) rfl rfl (by first|exact ed75 rfl|exact e444 rfl) rfl h.out))):X:=r ⟨h⟩
theorem ZuQ {X Y:Prop} (h:Y) (r:Hld Y→X:=by intro h;(refine Zab (n:=7) ?_;(first|exact OpS.load_hole rfl rfl rfl (Tryz.ti rfl) (Tryz.ti rfl) rfl (by first|(simp;done)|(simp;omega)) rfl (by first|exact e6fb rfl|exact ed24 rfl|exact e228 rfl) h.out))):X:=r ⟨h⟩
theorem ZnM {X Y:Prop} (h:Y) (r:Hld Y→X:=by intro h;(refine Zab (n:=17) ?_;(first|exact OpS.index_at rfl rfl rfl (Tryz.ti rfl) rfl (by decide) rfl (by first|rfl|assumption) (by exact pU11) h.out))):X:=r ⟨h⟩
theorem ZrQ {X Y:Prop} (h:Y) (r:Hld Y→X:=by intro h;(refine ZcU (n:=17) ?_;(first|exact OpQ.index_at rfl rfl rfl (Tryz.ti rfl) rfl (by decide) rfl (by first|rfl|assumption) (by exact pU11) h.out))):X:=r ⟨h⟩
theorem ZgY {X Y:Prop} (h:Y) (r:Hld Y→X:=by intro h;(refine Zab (n:=17) ?_;(first|exact OpS.index_arr rfl rfl (Tryz.arr rfl) rfl rfl rfl (by first|decide|omega) h.out))):X:=r ⟨h⟩
theorem pxk0 {X Y:Prop} (h:Y) (r:Hld Y→X:=by intro h;(refine Zab (n:=17) ?_;(first|exact OpS.index_at (m:=0) rfl rfl rfl (Tryz.ti rfl) rfl (by decide) rfl rfl (by exact pU11) h.out|exact OpS.index_row (m:=0) rfl rfl rfl rfl (Tryz.ti rfl) rfl (by decide) rfl rfl (by exact pU7) h.out))):X:=r ⟨h⟩
theorem pzk0 {X Y:Prop} (h:Y) (r:Hld Y→X:=by intro h;(refine ZcU (n:=17) ?_;(first|exact OpQ.index_at (m:=0) rfl rfl rfl (Tryz.ti rfl) rfl (by decide) rfl rfl (by exact pU11) h.out|exact OpQ.index_row (m:=0) rfl rfl rfl rfl (Tryz.ti rfl) rfl (by decide) rfl rfl (by exact pU7) h.out))):X:=r ⟨h⟩
theorem Ziw {X Y:Prop} (h:Y) (r:Hld Y→X:=by intro h;(refine Zab (n:=8) ?_;(first|exact OpS.store_elem rfl rfl rfl (Tryz.ti rfl) (by exact pU4) rfl (by first|exact efaf rfl|exact e97d rfl|exact e5c4 rfl) rfl (by exact pU7) (by first|exact getD_map (by omega)|rfl) (Tryz.ti rfl) rfl rfl h.out))):X:=r ⟨h⟩
section
variable {P:Program} {B:Nat→Prop} {W:En} {o:Oper} {os:List Nat} {st:St} {KE:V→List (Nat×Nat×Ob)→Prop} {ops:Array Oper} {l:List Oper} {K:St→Prop} {Q:Exit→St→Prop} {ls:Array Bool} {n i:Nat}
theorem pall (rs:List Nat) {j:Nat} {r:List Nat} (h:aOs P B W ops os n ls K st rs) (hr:Region.ready .any ops ls=rs:=by kernel_rfl) (he:rs=j :: r:=by exact rfl):aA P B W ops os (n + 1) ls K st:=aA.all hr he h
theorem pto {n':Nat} {ls':Array Bool} (h:aA P B W ops os n' ls' K st) (hl:ls=ls':=by kernel_rfl) (hn:n=n':=by exact rfl):aA P B W ops os n ls K st:=aA.to hl hn h
theorem ptw {n' : Nat} {ls' : Array Bool} {s' : St} (h : aA P B W ops os n' ls' K s') (hl : ls = ls' := by kernel_rfl) (hn : n = n' := by exact rfl) (he : Le st s' := by exact Le.ofU rfl (by repeat' (first|exact trivial|refine And.intro ?_ ?_|exact Eq.refl _)) (by repeat' (first|exact trivial|refine And.intro ?_ ?_|exact Eq.refl _)) rfl) : aA P B W ops os n ls K st := aA.to hl hn (aA.weak h he)
theorem pA1 (n : Nat) {o : Array Oper} {b : Bool} {x y : Code} {s : St} (h : aW P B W (.seq (.seq (.region n o b) x) y) Q s) : aW P B W (.seq (.seq (.region n o b) x) y) Q s := h
theorem pA2 (n : Nat) {o : Array Oper} {b : Bool} {x : Code} {s : St} (h : aW P B W (.seq (.region n o b) x) Q s) : aW P B W (.seq (.region n o b) x) Q s := h
theorem pA3 (n : Nat) {o : Array Oper} {b : Bool} {s : St} (h : aW P B W (.region n o b) Q s) : aW P B W (.region n o b) Q s := h
theorem pq1 (i:Nat) (h:aO P B W ops os n ls K st i) (hr:Region.ready .any ops ls=[i]:=by kernel_rfl):aA P B W ops os (n+1) ls K st:=aA.all hr rfl ⟨h,trivial⟩
theorem pq2 (i j:Nat) (h:aO P B W ops os n ls K st i) (h2:aO P B W ops os n ls K st j) (hr:Region.ready .any ops ls=[i,j]:=by kernel_rfl):aA P B W ops os (n+1) ls K st:=aA.all hr rfl ⟨h,h2,trivial⟩
theorem pq3 (i j k:Nat) (h:aO P B W ops os n ls K st i) (h2:aO P B W ops os n ls K st j) (h3:aO P B W ops os n ls K st k) (hr:Region.ready .any ops ls=[i,j,k]:=by kernel_rfl):aA P B W ops os (n+1) ls K st:=aA.all hr rfl ⟨h,h2,h3,trivial⟩
theorem pdq (n:Nat) {os:List Nat} {id:Nat} {l:List Oper} {st':St} (hh:st.objs.map (·.1)=os∧P.follows .mixedOrders=true∧l.toArray.size=n) (h:aA P B W l.toArray os n (Array.replicate n false) (fun s=>Le s st') st) (hn:Q .normal st'):aW P B W (.region id l.toArray true) Q st:=aW.draw hh.2.1 hh.2.2 h hn
theorem pdr (os:List Nat) (n:Nat) {id:Nat} {l:List Oper} {st':St} (h:aA P B W l.toArray os n (Array.replicate n false) (fun s=>Le s st') st) (hn:Q .normal st') (hm:P.follows .mixedOrders=true:=by exact Checked.mixed Tryz.checked) (hsz:l.toArray.size=n:=by rfl):aW P B W (.region id l.toArray true) Q st:=aW.draw hm hsz h hn
theorem AC.go {f:FuncId} {fn:Func} {c:Code} {as_:List V} {r:V} {rl:List ResultVar} {n:Nat} (hf:P.funcs[f]?=some fn) (hnt:fn.ntmps=n) (h:∀ B (W:En),(∃ us,Pw (C1 P W.toWorld noLk noPl B) as_ us)→aW P B W c (Done P rl r) ⟨n,argT 0 as_,[]⟩) (hb:fn.body=some c:=by exact rfl) (hn:(fn.name == "runtime.NumGoroutine")=false:=by decide) (hrl:fn.results=rl.toArray:=by exact rfl) (hnn:as_.length≤n:=by exact Nat.le_of_ble_eq_true rfl):AC P f as_ r:=AC.body hf hb hn hrl hnt hnn h
theorem AM.go {f:FuncId} {fn:Func} {c:Code} {as_:List V} {objs objs':List (Nat×Nat×Ob)} {r:V} {rl:List ResultVar} {n:Nat} (hf:P.funcs[f]?=some fn) (hnt:fn.ntmps=n) (h:∀ B (W:En),(∃ pl Fr us,Pw (C1 P W.toWorld (look objs) pl Fr) as_ us)→aW P B W c (Zbu P rl objs objs' r) ⟨n,argT 0 as_,objs⟩) (hb:fn.body=some c:=by exact rfl) (hn:(fn.name == "runtime.NumGoroutine")=false:=by decide) (hrl:fn.results=rl.toArray:=by exact rfl) (hnn:as_.length≤n:=by exact Nat.le_of_ble_eq_true rfl) (h0:(objs.all fun x=>Nat.beq x.2.1 0)=true:=by exact rfl):AM P f objs as_ objs' r:=AM.body hf hb hn hrl hnt hnn h0 h
theorem AMP.go {f:FuncId} {fn:Func} {c:Code} {as_:List V} {objs:List (Nat×Nat×Ob)} {α:Type} {O:α→List (Nat×Nat×Ob)} {R:α→V} {Post:α→Prop} {rl:List ResultVar} {n:Nat} (hf:P.funcs[f]?=some fn) (hnt:fn.ntmps=n) (h:∀ B (W:En),(∃ pl Fr us,Pw (C1 P W.toWorld (look objs) pl Fr) as_ us)→aW P B W c (Zsp P rl objs O R Post) ⟨n,argT 0 as_,objs⟩) (hb:fn.body=some c:=by exact rfl) (hn:(fn.name == "runtime.NumGoroutine")=false:=by decide) (hrl:fn.results=rl.toArray:=by exact rfl) (hnn:as_.length≤n:=by exact Nat.le_of_ble_eq_true rfl) (h0:(objs.all fun x=>Nat.beq x.2.1 0)=true:=by exact rfl):AMP P f objs as_ O R Post:=AMP.body hf hb hn hrl hnt hnn h0 h
end
theorem ZaI {X Y:Prop} (h:Y) (r:Hld Y→X:=by intro h;exact q5333 h.out):X:=r ⟨h⟩
theorem pnorm {X Y:Prop} (h:Y) (r:Hld Y→X:=by intro h;dsimp only [St.put,St.upds,updl,List.append_nil,List.cons_append,List.nil_append,argT,Nat.reduceAdd,Nat.zero_add];exact h.out):X:=r ⟨h⟩
theorem pfin {X Y:Prop} (h:Y) (r:Hld Y→X:=by intro h;show Done _ _ _ _ _;exact q1058 h.out):X:=r ⟨h⟩
theorem ptm {X Y : Prop} (h : Y) (r : Hld Y → X := by intro h;((try refine pnorm ?_);exact pto h.out)) : X := r ⟨h⟩
theorem pz3 {A X Y : Prop} (a : A) (h : Y) (r : Hld A → Hld Y → X := by intro a h;first|exact q0cb1 a.out h.out|exact qdd4a a.out h.out|exact q3c89 a.out h.out) : X := r ⟨a⟩ ⟨h⟩
theorem pf10 {X Y : Prop} (h : Y) (r : Hld Y → X := by intro h;((refine pop ?_;refine pk10 ?_)<;>(exact ptm h.out))) : X := r ⟨h⟩
theorem pf12 {X Y : Prop} (h : Y) (r : Hld Y → X := by intro h;((refine pop ?_;refine pk12 ?_)<;>(exact ptm h.out))) : X := r ⟨h⟩
theorem pf13 {X Y : Prop} (h : Y) (r : Hld Y → X := by intro h;((refine pop ?_;refine pk13 ?_)<;>(exact ptm h.out))) : X := r ⟨h⟩
theorem pf14 {X Y : Prop} (h : Y) (r : Hld Y → X := by intro h;((refine pop ?_;refine pk14 ?_)<;>(exact ptm h.out))) : X := r ⟨h⟩
theorem pf20 {X Y : Prop} (h : Y) (r : Hld Y → X := by intro h;((refine pop ?_;refine pk20 ?_)<;>(exact ptm h.out))) : X := r ⟨h⟩
theorem pf3 {X Y : Prop} (h : Y) (r : Hld Y → X := by intro h;((refine pop ?_;refine pk3 ?_)<;>(exact ptm h.out))) : X := r ⟨h⟩
theorem pf5 {X Y : Prop} (h : Y) (r : Hld Y → X := by intro h;((refine pop ?_;refine pk5 ?_)<;>(exact ptm h.out))) : X := r ⟨h⟩
theorem pf6 {X Y : Prop} (h : Y) (r : Hld Y → X := by intro h;((refine pop ?_;refine pk6 ?_)<;>(exact ptm h.out))) : X := r ⟨h⟩
theorem pf7 {X Y : Prop} (h : Y) (r : Hld Y → X := by intro h;((refine pop ?_;refine pk7 ?_)<;>(exact ptm h.out))) : X := r ⟨h⟩
theorem pf8 {X Y : Prop} (h : Y) (r : Hld Y → X := by intro h;((refine pop ?_;refine pk8 ?_)<;>(exact ptm h.out))) : X := r ⟨h⟩
theorem pmk {st:St} {m:List (Nat×Nat×Nat)} {objs:List (Nat×Nat×Ob)} {as0 as1:List V} {d:Nat} {KE:V→List (Nat×Nat×Ob)→Prop} {objs':List (Nat×Nat×Ob)} {r v:V} {us us':List (Nat×Nat×Ob)} (h:KE v (us' ++ us)) (h1:Imp3 m (look st.objs) (1000 * d) r v us:=by exact pU20) (h2:nodupB (idsL (renO m objs' ++ us))=true:=by exact rfl) (h3:Zer st m objs objs'=true:=by exact rfl) (h4:(ZhQ r objs'=true∧((ZgX as0 as1).all fun o=>!(idsL (renO m objs)).contains o)=true)∨ZgX as0 as1=[]:=by first|exact .inr rfl|exact .inl ⟨rfl,rfl⟩) (h5:ZdY r=true:=by exact rfl) (h6:((idsL objs).all fun o=>(idsL objs').contains o)=true:=by exact rfl) (h7:RenR m objs' us':=by exact pU9):∃ v us us',MutK st m objs as0 as1 d KE objs' r v us us':=⟨v,us,us',⟨h1,h2,h3,h4,h5,h6,h7,h⟩⟩
theorem pdp {X:Prop} (r:X:=by exact ⟨pos_,Checked.mixed Tryz.checked,rfl⟩):X:=r
theorem pln {X Y:Prop} (h:Y) (r:Hld Y→X:=by intro h;dsimp only [List.cons_append,List.nil_append];exact h.out):X:=r ⟨h⟩
theorem pz9 {X Y : Prop} (h : Y) (r : Hld Y → X := by intro h;refine Zab (n:=20) ?_;exact h.out) : X := r ⟨h⟩
theorem pw13 {X Y : Prop} (h : Y) (r : Hld Y → X := by intro h;((refine pop ?_;refine pk13 ?_)<;>(exact ptw h.out))) : X := r ⟨h⟩
theorem pw20 {X Y : Prop} (h : Y) (r : Hld Y → X := by intro h;((refine pop ?_;refine pk20 ?_)<;>(exact ptw h.out))) : X := r ⟨h⟩
theorem pw3 {X Y : Prop} (h : Y) (r : Hld Y → X := by intro h;((refine pop ?_;refine pk3 ?_)<;>(exact ptw h.out))) : X := r ⟨h⟩
theorem pw5 {X Y : Prop} (h : Y) (r : Hld Y → X := by intro h;((refine pop ?_;refine pk5 ?_)<;>(exact ptw h.out))) : X := r ⟨h⟩
theorem pw6 {X Y : Prop} (h : Y) (r : Hld Y → X := by intro h;((refine pop ?_;refine pk6 ?_)<;>(exact ptw h.out))) : X := r ⟨h⟩
theorem pw7 {X Y : Prop} (h : Y) (r : Hld Y → X := by intro h;((refine pop ?_;refine pk7 ?_)<;>(exact ptw h.out))) : X := r ⟨h⟩
theorem pw8 {X Y : Prop} (h : Y) (r : Hld Y → X := by intro h;((refine pop ?_;refine pk8 ?_)<;>(exact ptw h.out))) : X := r ⟨h⟩
theorem pth {X Y : Prop} (h : Y) (r : Hld Y → X := by intro h;with_reducible first|exact Za5 h.out|exact Za4 h.out|exact ZaP h.out|exact ZaO h.out) : X := r ⟨h⟩
theorem pgiv {X:Prop} (r:X:=by repeat' (first|exact trivial|exact Or.inl rfl|exact rfl|refine And.intro ?_ ?_)):X:=r
theorem pfg {X:Prop} (r:X:=by refine pfin ?_;exact pgiv):X:=r
theorem pfr {X:Prop} (r:X:=by refine pfin ?_;exact .inl rfl):X:=r
theorem plei {X:Prop} (r:X:=by (refine qd6d5)):X:=r
theorem ple {X:Prop} (r:X:=by (refine qf3ef)):X:=r
theorem pos_ {X:Prop} (r:X:=by first|(dsimp only [List.map];exact rfl)|exact rfl):X:=r
def lsL:Nat→Nat→List Bool
 | 0,_=>[]
 | n + 1,b=>Nat.beq (b % 2) 1 :: lsL n (b / 2)
def lsN (n b:Nat):Array Bool:=(lsL n b).toArray
theorem pct (a b n:Nat) {P:Program} {B:Nat→Prop} {W:En} {os:List Nat} {ops:Array Oper} {K:St→Prop} {n0:Nat} {ls0:Array Bool} {st0 s:St} (rest:aA P B W ops os n (lsN a b) K s→aA P B W ops os n0 ls0 K st0) (main:aA P B W ops os n (lsN a b) K s):aA P B W ops os n0 ls0 K st0:=rest main
end Go.Proofs.YthfaongbpdnlnaaGreat.Ab
namespace Go.Proofs.YthfaongbpdnlnaaGreat
set_option maxHeartbeats 4000000
set_option maxRecDepth 20000
set_option linter.unusedSimpArgs false
set_option linter.unusedVariables false
open Go.RowKit Ab
theorem Zaq (n lo hi:Int):AC Tryz.prog 65 [.t (.int .i64 n),.t (.int .i64 lo),.t (.int .i64 hi)] (.t (.bool (inR n lo hi))):=by
 refine AC.go Tryz.func65 Tryz.ntmps65 fun B W hr=>?_
 repeat' (first|refine pa ?_|(refine pb ?_ ?_<;>intro hg)|refine po ?_|fail)
 all_goals refine pfin ?_
 all_goals exact .inl (congrArg T.bool (by simp [inR, *]))
def Zbl (xs:List Int):Bool:=xs.all fun n=>inR n 0 15
theorem ZfP (xs:List Int):AC Tryz.prog 172 [.t (ints 3 xs)] (.t (.bool (Zbl xs))):=by
 refine AC.go Tryz.func172 Tryz.ntmps172 fun B W hr=>?_
 obtain ⟨us,hus⟩:=hr
 obtain ⟨hl,hw⟩:=Zga (ZaR hus (i:=0) rfl)
 clear hus
 repeat' (first|refine pa ?_|(refine pb ?_ ?_<;>intro hg)|refine po ?_|fail)
 refine aW.loop (fun k:Nat=>⟨15,[(7,.t (.int .i64 k)),(6,.t (.int .i64 xs.length)),(5,.t (ints 3 xs))],[]⟩) (fun k=>k≤xs.length∧Zbl (xs.take k)=true) (fun k=>xs.length - k) 0 ⟨Nat.zero_le _,rfl⟩ (by (exact ple)) ?_
 rintro k ⟨hk,hok⟩
 repeat' (first|refine pa ?_|(refine pb ?_ ?_<;>intro hg)|(refine pz9 ?_;(first|refine Zaa (Zaq _ _ _) ?_))|refine po ?_|fail)
 ·refine pfin ?_
  refine .inl (congrArg T.bool ?_)
  have hk':k < xs.length:=by omega
  exact (ZlU hk' (f:=fun n=>inR n 0 15) (by simpa [hk'] using hg)).symm
 ·refine ⟨k + 1,⟨by omega,?_⟩,by omega,by (exact ple)⟩
  have hk':k < xs.length:=by omega
  exact Zjo hk' hok (by simpa [hk'] using hg)
 ·refine pfin ?_
  refine .inl (congrArg T.bool ?_)
  rw [List.take_of_length_le (by omega)] at hok
  exact hok.symm
theorem T2d1 {X Y:Prop} (h:Y) (r:Hld Y→X:=by intro h;(apply pdq 7;(focus exact pdp);(focus ((refine pt0_ 0 ?_<;>refine pt0_ 1 ?_<;>refine Zbh 2 ?_<;>refine pt0_ 3 ?_<;>refine Zbh 4 ?_<;>refine pt1_ 5 ?_<;>refine pt1_ 6 ?_<;>(refine ZaI ?_;exact ZaJ)))));exact h.out):X:=r ⟨h⟩
theorem Zah (n lo hi:Int):AC Tryz.prog 95 [.t (.int .i64 n),.t (.int .i64 lo),.t (.int .i64 hi)] (.t (.bool (inR n lo hi))):=by
 refine AC.go Tryz.func95 Tryz.ntmps95 fun B W hr=>?_
 repeat' (first|refine pa ?_|(refine pb ?_ ?_<;>intro hg)|refine po ?_|fail)
 all_goals refine pfin ?_
 all_goals exact .inl (congrArg T.bool (by simp [inR, *]))
theorem ZdC (s:Int):AC Tryz.prog 214 [.t (.int .i64 s)] (.t (.int .i64 (Zaz s))):=by
 refine AC.go Tryz.func214 Tryz.ntmps214 fun B W hr=>?_
 repeat' (first|refine pa ?_|(refine pb ?_ ?_<;>intro hg)|refine po ?_|fail)
 all_goals refine pfin ?_
 all_goals refine .inl (congrArg (T.int .i64) ?_)
 ·rw [Zaz,if_neg (by omega)]
 ·rw [Zaz,if_neg (by omega)]
 ·rw [Zaz,if_pos (by omega),Int.tmod_eq_emod_of_nonneg (by omega)]
theorem Zfk (s:Int):AC Tryz.prog 166 [.t (.int .i64 s)] (.t (.int .i64 (Zaz s))):=by
 by_cases h:0≤s∧s≤65535
 ·have hi:inR s 0 65535=true:=Zae.2 h
  obtain ⟨h1,h2⟩:=h
  refine AC.go Tryz.func166 Tryz.ntmps166 fun B W hr=>?_
  repeat' (first|refine pa ?_|(refine pb ?_ ?_<;>intro hg)|(refine pz9 ?_;(first|refine Zaa (Zah _ _ _) ?_))|refine po ?_|fail)
  all_goals refine pfin ?_
  refine .inl (congrArg (T.int .i64) ?_)
  rw [Zaz,if_pos ⟨h1,h2⟩]
  exact Zoc (s * 25173 + 13849) (by omega) (by omega)
 ·have hi:inR s 0 65535=false:=by rw [Bool.eq_false_iff];exact fun g=>h (Zae.1 g)
  refine AC.go Tryz.func166 Tryz.ntmps166 fun B W hr=>?_
  repeat' (first|refine pa ?_|(refine pb ?_ ?_<;>intro hg)|(refine pz9 ?_;(first|refine Zaa (Zah _ _ _) ?_))|refine po ?_|fail)
  all_goals refine pfin ?_
  refine .inl (congrArg (T.int .i64) ?_)
  rw [Zaz,if_neg h]
theorem Zhh (s n:Int):AC Tryz.prog 216 [.t (.int .i64 s),.t (.int .i64 n)] (.tup [.t (.int .i64 (Zaj s n).1),.t (.int .i64 (Zaj s n).2)]):=by
 have hx:=Zb1 s
 by_cases h:0≤s∧s≤65535∧1≤n∧n≤4096
 ·rw [show Zaj s n=(Zaz s,Zaz s / 16 % n) from if_pos h]
  refine AC.go Tryz.func216 Tryz.ntmps216 fun B W hr=>?_
  repeat' (first|refine pa ?_|(refine pb ?_ ?_<;>intro hg)|(refine pz9 ?_;(first|refine Zaa (ZdC _) ?_))|refine po ?_|(refine T2d1 ?_)|fail)
  all_goals refine pfin ?_
  exact ⟨.inl rfl,.inl (congrArg (T.int .i64) (Int.tmod_eq_emod_of_nonneg (by omega))),trivial⟩
 ·rw [show Zaj s n=(0,0) from if_neg h]
  refine AC.go Tryz.func216 Tryz.ntmps216 fun B W hr=>?_
  repeat' (first|refine pa ?_|(refine pb ?_ ?_<;>intro hg)|(refine pz9 ?_;(first|refine Zaa (ZdC _) ?_))|refine po ?_|(refine T2d1 ?_)|fail)
  all_goals refine pfin ?_
  all_goals exact ⟨.inl rfl,.inl rfl,trivial⟩
abbrev F2:=Int×ByteArray×Unit
def strC (s:List UInt8):List T:=[.str s]
def Zai (l:List (List UInt8)):List (List T):=l.map strC
theorem Zbs (l:List (List UInt8)):(Zai l).length=l.length:=List.length_map _
theorem Ze5 {P:Program} {e:TypeId} {xs:List (List UInt8)} (h:RdT P (.lst true e (Zai xs))):xs.length≤9223372036854775807∧∀ k,k < xs.length→(xs.getD k default).length≤9223372036854775807:=by
 obtain ⟨h1,h2,h3⟩:=ZhS h
 refine ⟨by simpa [Zai] using h1,fun k hk=>?_⟩
 have hu:∀ x ∈ xs.map strC,x.length=1:=fun x hx=>by obtain ⟨p,_,rfl⟩:=List.mem_map.1 hx;rfl
 have h4:=Zb0 hu (i:=k) (j:=0) (by simpa using hk) (by omega)
 rw [getD_map hk] at h4
 exact ZeK (h3 _ _ h4)
abbrev Sv:=Int×List UInt8
def saveC (p:Sv):List T:=[.int .i64 p.1,.str p.2]
open Go.RowKit
theorem Zg0 (r:List Char):wordsSigns (Char.ofNat 32 :: r)=[] :: wordsSigns r:=rfl
theorem Zcy:∀ (w r:List Char),(∀ c ∈ w,c ≠ Char.ofNat 32)→wordsSigns (w++Char.ofNat 32 :: r)=w :: wordsSigns r
 | [],r,_=>Zg0 r
 | c :: w,r,h=>by
  have hc:c ≠ Char.ofNat 32:=h c (by simp)
  have ih:=Zcy w r (fun d hd=>h d (by simp [hd]))
  rw [List.cons_append,wordsSigns.eq_3 c _ hc,ih]
def Tryz.w0:List Char:=([104,97,114,110,101,115,115]:List Nat).map Char.ofNat
def Tryz.w1:List Char:=([51,56,57,57,100,98,97,100,97,53,97,49,56,98,100,55,102,101,97,49,55,56,102,54,54,50,100,52,97,51,55,51,56,48,48,98,53,48,54,56,48,99,48,50,53,55,97,99,57,49,57,50,51,54,98,54,57,101,50,54,98,99,52,56]:List Nat).map Char.ofNat
def Tryz.w2:List Char:=([99,117,116]:List Nat).map Char.ofNat
def Tryz.w3:List Char:=([97,116,32,108,111,111,112,46,101,120,97,109,112,108,101,47,103,48,51,51,49,53,47,108,97,119,115,46,70,110,82,111,108,108,98,97,99,107,32,108,111,111,112,46,101,120,97,109,112,108,101,47,103,48,51,51,49,53,47,108,97,119,115,46,70,110,69,120,97,99,116,83,97,118,101,65,116,32,108,111,111,112,46,101,120,97,109,112,108,101,47,103,48,51,51,49,53,47,108,97,119,115,46,70,110,69,120,97,99,116,82,111,108,108,84,111,32,108,111,111,112,46,101,120,97,109,112,108,101,47,103,48,51,51,49,53,47,108,97,119,115,46,70,110,69,120,97,99,116,82,101,112,108,97,121,101,100,32,108,111,111,112,46,101,120,97,109,112,108,101,47,103,48,51,51,49,53,47,108,97,119,115,46,70,110,83,117,109,115,32,108,111,111,112,46,101,120,97,109,112,108,101,47,103,48,51,51,49,53,47,108,97,119,115,46,70,110,69,120,97,99,116,67,111,110,102,105,114,109,32,108,111,111,112,46,101,120,97,109,112,108,101,47,103,48,51,51,49,53,47,108,97,119,115,46,70,110,83,97,118,101,115,32,108,111,111,112,46,101,120,97,109,112,108,101,47,103,48,51,51,49,53,47,108,97,119,115,46,70,110,76,101,97,114,110,101,100,84,119,105,99,101,32,108,111,111,112,46,101,120,97,109,112,108,101,47,103,48,51,51,49,53,47,108,97,119,115,46,70,110,69,120,97,99,116,65,100,118,97,110,99,101,32,108,111,111,112,46,101,120,97,109,112,108,101,47,103,48,51,51,49,53,47,108,97,119,115,46,70,110,69,120,97,99,116,82,101,112,97,105,114,32,108,111,111,112,46,101,120,97,109,112,108,101,47,103,48,51,51,49,53,47,108,97,119,115,46,70,110,69,120,97,99,116,76,101,97,114,110]:List Nat).map Char.ofNat
theorem Tryz.head:Tryz.prog.initOrder=String.ofList (Tryz.w0++Char.ofNat 32 :: (Tryz.w1++Char.ofNat 32 :: (Tryz.w2++Char.ofNat 32 :: Tryz.w3))):=by kernel_rfl
theorem Tryz.w0_ok:∀ c ∈ Tryz.w0,c ≠ Char.ofNat 32:=by decide +kernel
theorem Tryz.w1_ok:∀ c ∈ Tryz.w1,c ≠ Char.ofNat 32:=by decide +kernel
theorem Tryz.w2_ok:∀ c ∈ Tryz.w2,c ≠ Char.ofNat 32:=by decide +kernel
theorem Tryz.words:wordsSigns Tryz.prog.initOrder.toList=Tryz.w0 :: Tryz.w1 :: Tryz.w2 :: wordsSigns Tryz.w3:=by
 rw [Tryz.head,String.toList_ofList,Zcy _ _ Tryz.w0_ok,Zcy _ _ Tryz.w1_ok,Zcy _ _ Tryz.w2_ok]
theorem Tryz.behind (r:List (List Char)):behindMainWord (Tryz.w0 :: Tryz.w1 :: Tryz.w2 :: r)=Tryz.w2 :: r:=by kernel_rfl
theorem Tryz.strip (r:List (List Char)):stripLifts liftWords (Tryz.w2 :: r)=([],Tryz.w2 :: r):=by kernel_rfl
theorem Tryz.laysLater:Tryz.prog.laysLater=false:=by kernel_rfl
theorem Tryz.bearsReflect:Tryz.prog.bearsReflect=false:=by kernel_rfl
theorem Tryz.doorFits:Tryz.prog.doorFits []=true:=by kernel_rfl
theorem Tryz.is_gc:(Tryz.w2 == "gc".toList)=false:=by decide +kernel
theorem Tryz.is_spec:(Tryz.w2 == "spec".toList)=false:=by decide +kernel
theorem Tryz.is_cut:(Tryz.w2 == "cut".toList)=true:=by decide +kernel
theorem Tryz.is_carried:(Tryz.w2 == "carried".toList)=false:=by decide +kernel
theorem Tryz.some_cut:((some Tryz.w2:Option (List Char)) == some "cut".toList)=true:=by decide +kernel
theorem Zl6 {P:Program} {a b c:List Char} {r:List (List Char)} (hw:wordsSigns P.initOrder.toList=a :: b :: c :: r) (hb:behindMainWord (a :: b :: c :: r)=c :: r) (hs:stripLifts liftWords (c :: r)=([],c :: r))
  (h1:P.laysLater=false) (h2:P.bearsReflect=false) (h3:P.doorFits []=true) (g1:(c == "gc".toList)=false) (g2:(c == "spec".toList)=false) (g3:(c == "carried".toList)=false) (g4:((some c:Option (List Char)) == some "cut".toList)=true):P.mayEnter=true:=by
 unfold Program.mayEnter
 rw [hw,hb]
 simp only [hs,h1,h2,h3,g1,g2,g3,g4,List.head?_cons,Bool.false_or,Bool.false_and,Bool.true_and,Bool.not_false,Bool.or_true,Bool.and_true,List.contains_nil]
theorem Tryz.mayEnter:Tryz.prog.mayEnter=true:=Zl6 Tryz.words (Tryz.behind _) (Tryz.strip _) Tryz.laysLater Tryz.bearsReflect Tryz.doorFits Tryz.is_gc Tryz.is_spec Tryz.is_carried Tryz.some_cut
theorem make_of {P:Program} {a b c:List Char} {r:List (List Char)} (hw:wordsSigns P.initOrder.toList=a :: b :: c :: r) (hb:behindMainWord (a :: b :: c :: r)=c :: r)
  (g1:(c == "gc".toList)=false) (g2:(c == "spec".toList)=false) (g3:(c == "cut".toList)=true):P.make=some .cut:=by
 unfold Program.make
 rw [hw,hb]
 simp only [g1,g2,g3,Bool.false_or,Bool.true_or,Bool.false_eq_true,if_false,if_true]
theorem Tryz.make:Tryz.prog.make=some .cut:=make_of Tryz.words (Tryz.behind _) Tryz.is_gc Tryz.is_spec Tryz.is_cut
theorem Tryz.headLifts:Tryz.prog.headLifts=[]:=by
 unfold Program.headLifts
 rw [Tryz.words,Tryz.behind,Tryz.strip]
 generalize wordsSigns Tryz.w3=r
 kernel_rfl
theorem Tryz.liftsFinal:Tryz.prog.liftsFinal=false:=by
 unfold Program.liftsFinal
 rw [Tryz.words,Tryz.behind,Tryz.headLifts]
 generalize wordsSigns Tryz.w3=r
 kernel_rfl
theorem Tryz.own:ownKnob Tryz.prog.godebug=none:=by kernel_rfl
theorem Tryz.laidOut:laidOutB Tryz.prog=true:=by kernel_rfl
theorem ZhJ {P:Program} {b:Bool} (h:P.liftsFinal=b):(b == P.liftsFinal)=true:=by rw [h];exact beq_self_eq_true b
theorem Zl5 {P:Program} {m:Make} (h:P.make=some m):(P.make == some m)=true:=by rw [h];exact beq_self_eq_true _
end Go.Proofs.YthfaongbpdnlnaaGreat
namespace Go.Proofs.YthfaongbpdnlnaaGreat.Ab
set_option maxHeartbeats 4000000
set_option maxRecDepth 20000
set_option linter.unusedSimpArgs false
set_option linter.unusedVariables false
open Go.RowKit
section
variable {P:Program} {B:Nat→Prop} {W:En} {o:Oper} {st:St} {KE:V→List (Nat×Nat×Ob)→Prop}
theorem Zot {s x:Operand} {c:Call} {t xt:TypeId} {a:Act} {w w':World} {u:Value} (ho:o.op=.call c) (h1:c.callee=.builtin .copy) (h2:c.args=#[s,x]) (h3:c.argTypes=#[t,xt]) (hr:(Builtin.copy_ #[t,xt] o.type #[a.eval s,a.eval x]).run P w=.ok u w'):(execOp a.eval o).run P w=.ok (.value u) w':=by
 unfold execOp
 rw [ho]
 simp [resolve,h1,h2,h3,invoke,builtin,hr]
theorem ZnQ {w w':World} {t xt ty e:TypeId} {y ye:Ty} {es eb:Nat} (hy:Zac P t=some y) (hk:y.k=.slice e es eb) (hye:Zac P e=some ye) {g off n cap:Nat} {x:Value} {news:List Value} (hlen:(Builtin.lenOf x).run P w=.ok n w) (hcells:(Builtin.firstCells es n x).run P w=.ok news.toArray w)
  (hst:(storeCells ⟨g,off,none⟩ news 0).run P w=.ok () w'):(Builtin.copy_ #[t,xt] ty #[.slice (some ⟨g,off,none⟩) n cap,x]).run P w=.ok (goInt n) w':=by
 obtain ⟨ht,hes',heb⟩:=ZaM hy hk
 obtain ⟨de,i,hue,hi,_,hsz,hby,hzero⟩:=Zaw hye
 have hsi:i.size=es:=by rw [← hes'];simp [Program.cellsOf,hi]
 simp [Builtin.copy_,run_underlying ht,sizeOf,typeInfo,hi,hsi,hlen,hcells,hst]
theorem OpS.copy_flat {s x:Operand} {c:Call} {t xt e e' es eb i ep n:Nat} {y ye:Ty} {els0 els:List (List T)} {d0 d:Bool} (ho:o.op=.call c) (h1:c.callee=.builtin .copy) (h2:c.args=#[s,x]) (h3:c.argTypes=#[t,xt])
  (hy:Zac P t=some y) (hk:y.k=.slice e es eb) (hye:Zac P e=some ye) (hs:st.ev s=.hnd i ep) (hl:look st.objs i=some (ep,.row true d0 e' els0)) (he:e'=e)
  (hsrc:∀ a w pl F,SimW P B W st a w pl F→Zdo P B W st a w F x es els [] d) (hu:∀ a w pl F,SimW P B W st a w pl F→(∀ x ∈ els,x.length=es)∧(∀ x ∈ els.flatten,x.flat=true)) (hn:els.length=n) (hn0:els0.length=n) (hpos:0 < n)
  (hK:KE (.t (.int .i64 n)) [(i,ep,.row true d0 e els)]):OpS P B W o st KE:=by
 subst he hn
 obtain ⟨ht,hes',heb⟩:=ZaM hy hk
 refine OpS.chg (ks:=[]) (i:=i) (ep:=ep) hK (fun x e h=>by cases h) fun a w pl F h=>?_
 obtain ⟨us,q1,q2,q3,q4⟩:=hsrc a w pl F h
 obtain ⟨hu1,hu2⟩:=hu a w pl F h
 obtain ⟨g1,us0,hp⟩:=h.hnd_at hs hl
 have hlen:us.length=els.length * es:=by rw [q4.len,ZaE hu1]
 rcases hp.own.2 with ⟨_,h0⟩|⟨g,off,cap,cur,fz,e1,k3,k4,k5,k6,k7,k8⟩
 ·omega
 have hcap:off + els.length * es≤cur.size:=by
  have h5:els0.length * P.cellsOf e'≤cap * P.cellsOf e':=Nat.mul_le_mul_right _ k5
  rw [hn0,hes'] at h5
  rw [hes'] at k7
  omega
 have hst:=ZbQ P g off e' fz us 0 cur w k3 k4 (by omega) q4.one
 have hrun:=ZnQ (P:=P) (xt:=xt) (ty:=o.type) (cap:=cap) hy hk hye q1 (q2 0) hst
 rw [← hn0,← e1] at hrun
 have hcur:(cur.toList.take (off + 0)++us++cur.toList.drop (off + 0 + us.length))=setRange cur.toList off us:=rfl
 rw [hcur] at hrun
 have htop:(pl i).ownBlock=some g:=by rw [e1];rfl
 have hFg:F i g:=hp.top g htop
 have k2:W.o g:=(h.range i _ g hl hFg).1
 have hown:ZbZ (w.setRow g (setRange cur.toList off us).toArray) e' (P.cellsOf e') (pl i) els.length us:=by
  refine ⟨by rw [hes'];exact hlen,.inr ⟨g,off,cap,_,fz,by rw [← hn0];exact e1,setRow_heap w g cur _ e' fz k3,?_,by rw [← hn0];exact k5,k6,?_,?_⟩⟩
  ·rcases k4 with k4|k4
   ·exact .inl k4
   ·exact .inr (by rw [List.size_toArray,ZaL _ _ _ (by simp;omega)];simpa using k4)
  ·rw [List.size_toArray,ZaL _ _ _ (by simp;omega)];simpa using k7
  ·rw [List.toList_toArray,hes',← hlen]
   unfold setRange
   rw [List.append_assoc,List.drop_append_of_le_length (by rw [List.length_take];simp;omega),List.drop_take]
   simp
 have huni:∀ x ∈ els,x.length=P.cellsOf e':=fun x hx=>by rw [hes'];exact hu1 x hx
 have hll:els.flatten.length=us.length:=q4.len.symm
 have hrd:∀ (k:Nat) (x:T) (u:Value),els.flatten[k]?=some x→us[k]?=some u→Rd P w (fun _=>False) x u:=fun k x u hx hu=>(q4.rd k x u hx hu).flat (hu2 x (List.mem_of_getElem? hx))
 refine ⟨_,_,pl i,fun b=>(pl i).ownBlock=some b,goInt els0.length,Zot ho h1 h2 h3 (by rw [g1];exact hrun),.inl rfl,below_setRow k2 _,fun b hb hf=>setRow_other w g _ b fun e=>hf _ hl (e▸hFg),fun ep0 ob0 h0=>?_,fun h0=>(by rw [hl] at h0;cases h0),fun b hb=>.inr (.inl ⟨_,hl,hp.top b hb⟩),fun lk' pl' Fr' gg _ _ _=>⟨?_,?_⟩⟩
 ·rw [hl] at h0;cases h0;exact .inr ⟨rfl,rfl,rfl,rfl⟩
 ·cases d0 with
  | true=>exact .inl ⟨rfl,.lst us (fun _ _=>False) hown huni (fun _=>hu2) hll (fun k x u hx hu=>.flat (hu2 x (List.mem_of_getElem? hx)) ((hrd k x u hx hu).flat (hu2 x (List.mem_of_getElem? hx))) fun _ h=>h) (fun _ _ _ _ h=>h.elim) (fun _ _ h=>h.elim) fun b=>⟨fun h=>.inl h,fun h=>h.elim id fun ⟨_,h⟩=>h.elim⟩⟩
  | false=>exact .inr ⟨rfl,us,hown,huni,fun _=>hu2,hll,fun k x u hx hu=>(hrd k x u hx hu).flat (hu2 x (List.mem_of_getElem? hx)),fun b=>Iff.rfl⟩
 ·rw [hn0]
  exact Rd.int (ZeU q3)
theorem OpS.copy_view {s x:Operand} {c:Call} {t xt e e' es eb i ep n j ej k0 e2:Nat} {y ye:Ty} {els0 els els2:List (List T)} {d0 d:Bool} (ho:o.op=.call c) (h1:c.callee=.builtin .copy) (h2:c.args=#[s,x]) (h3:c.argTypes=#[t,xt])
  (hy:Zac P t=some y) (hk:y.k=.slice e es eb) (hye:Zac P e=some ye) (hs:st.ev s=.hnd i ep) (hl:look st.objs i=some (ep,.row true d0 e' els0)) (he:e'=e)
  (hx:st.ev x=.view j ej k0 n) (hlx:look st.objs j=some (ej,.row true d e2 els)) (he2:e2=e) (hjn:k0 + n≤els.length) (hn0:els0.length=n) (hpos:0 < n) (hels:(els.drop k0).take n=els2)
  (hK:KE (.t (.int .i64 n)) [(i,ep,.row true d0 e els2)]):OpS P B W o st KE:=by
 have hes:P.cellsOf e=es:=(ZaM hy hk).2.1
 subst hels he2
 have hln:(((els.drop k0).take n)).length=n:=by rw [List.length_take,List.length_drop];omega
 have hsrc:∀ a w pl F,SimW P B W st a w pl F→Zdo P B W st a w F x es ((els.drop k0).take n) [] true:=fun a w pl F h=>by rw [← hes];exact h.src_view hx hlx (.inl rfl) hjn
 have huni:∀ a w pl F,SimW P B W st a w pl F→(∀ y ∈ ((els.drop k0).take n),y.length=es)∧(∀ y ∈ (((els.drop k0).take n)).flatten,y.flat=true):=fun a w pl F h=>by rw [← hes];exact ⟨fun x hx=>(ZdI h hlx).1 x (Zju hx),fun x hx=>(ZdI h hlx).2 rfl x (Zjs hx)⟩
 exact OpS.copy_flat ho h1 h2 h3 hy hk hye hs hl he hsrc huni hln hn0 hpos hK
end
end Go.Proofs.YthfaongbpdnlnaaGreat.Ab
namespace Go.Proofs.YthfaongbpdnlnaaGreat
set_option maxHeartbeats 4000000
set_option maxRecDepth 20000
set_option linter.unusedSimpArgs false
set_option linter.unusedVariables false
open Go.RowKit Ab
theorem wrap_u8 (x:Int):IntKind.u8.wrap x=x % 256:=by
 simp [IntKind.wrap,IntKind.bits,IntKind.signed]
theorem Zhx (x:Int):Ab.byteOf [T.int .u8 (IntKind.u8.wrap x)]=UInt8.ofNat (x % 256).toNat:=by rw [wrap_u8];rfl
theorem Zoj {n:Int} (h:0≤n):Ab.byteOf [T.int .u8 (IntKind.u8.wrap (n.tmod 128 + 128))]=UInt8.ofNat (n.toNat % 128 + 128):=by
 rw [Zhx,Int.tmod_eq_emod_of_nonneg h]
 congr 1
 omega
theorem Zkg {n:Int} (h:0≤n∧n < 128):Ab.byteOf [T.int .u8 (IntKind.u8.wrap n)]=UInt8.ofNat n.toNat:=by
 rw [Zhx]
 congr 1
 omega
theorem Zkn {n:Int} (h:128≤n):encN n.toNat=UInt8.ofNat (n.toNat % 128 + 128) :: encN (n / 128).toNat:=by
 rw [Zfv (by omega)]
 congr 2
 omega
theorem Zcb (n:Int):AC Tryz.prog 152 [.t (.int .i64 n)] (.t (.str (Zaf n))):=by
 by_cases h:0≤n∧n≤1099511627775
 ·have hl:(encN n.toNat).length≤6:=by have:=ZaA n;rwa [Zaf,if_pos h] at this
  rw [Zaf,if_pos h]
  obtain ⟨h0,h1⟩:=h
  refine AC.go Tryz.func152 Tryz.ntmps152 fun B W hr=>?_
  repeat' (first|refine pa ?_|(refine pb ?_ ?_<;>intro hg)|refine po ?_|fail)
  refine aW.nilrow (s:=3) (i:=18) true 5 rfl rfl ?_
  refine aW.loopF rfl (fun q:Int×Nat×List (List T)=>[(3,.hnd 18 q.2.1),(0,.t (.int .i64 q.1))]) [] (fun q=>[(18,q.2.1,.row true true 5 q.2.2)]) [] (fun q=>0≤q.1∧q.1≤1099511627775∧(∀ x ∈ q.2.2,Ab.isByte x=true)∧q.2.2.map Ab.byteOf++encN q.1.toNat=encN n.toNat) (fun q=>q.1.toNat) (n,1,[]) ⟨h0,h1,ZhG,rfl⟩ (by (exact plei)) ?_
  rintro ⟨v,ep,els⟩ hI
  obtain ⟨hv0,hv1,hb,he⟩:0≤v∧v≤1099511627775∧(∀ x ∈ els,Ab.isByte x=true)∧els.map Ab.byteOf++encN v.toNat=encN n.toNat:=hI
  have hle:=congrArg List.length he
  rw [List.length_append,List.length_map] at hle
  have hp:=Zg2 v.toNat
  refine pln ?_
  have ht:v.tmod 128=v % 128:=Int.tmod_eq_emod_of_nonneg hv0
  by_cases hv:128≤v
  ·repeat' (first|refine pa ?_|(refine pb ?_ ?_<;>intro hg)|refine po ?_|fail)
   refine ⟨(v / 128,_,_),⟨?_,?_,Zfx hb (Zjz rfl),?_⟩,?_,by (exact ple)⟩
   ·show 0≤v / 128;omega
   ·show v / 128≤1099511627775;omega
   ·show List.map Ab.byteOf (els++[_])++encN (v / 128).toNat=_
    rw [List.map_append,List.append_assoc,← he,Zkn hv]
    simp only [List.map_cons,List.map_nil,List.singleton_append,Zoj hv0]
   ·show (v / 128).toNat < v.toNat;omega
  ·repeat' (first|refine pa ?_|(refine pb ?_ ?_<;>intro hg)|refine po ?_|fail)
   refine pfin ?_
   refine .inl (congrArg T.str ?_)
   rw [List.map_append,← he,Zd3 (n:=v.toNat) (by omega)]
   simp only [List.map_cons,List.map_nil,Zkg ⟨hv0,Int.not_le.1 hv⟩]
 ·rw [Zaf,if_neg h]
  refine AC.go Tryz.func152 Tryz.ntmps152 fun B W hr=>?_
  repeat' (first|refine pa ?_|(refine pb ?_ ?_<;>intro hg)|refine po ?_|fail)
  all_goals refine pfin ?_
  all_goals exact .inl rfl
def unpI (s:List UInt8) (p:Int):List Int×Int×Bool:=match Za6 s p with
 | some (l,q)=>(l,q - p,true)
 | none=>([],0,false)
def unpX (s:List UInt8) (p:Int):List UInt8×Int×Bool:=match ZaY s p with
 | some (t,n)=>(t,n,true)
 | none=>([],0,false)
theorem Znf {s:List UInt8} {p n m:Int} (h:Zag s p=(n,m,false)):unpI s p=([],0,false):=by
 unfold unpI Za6
 rw [h]
theorem Zh3 {s:List UInt8} {p n m:Int} (h:Zag s p=(n,m,true)) (hu:Zbj s n.toNat [] (p + m)=none):unpI s p=([],0,false):=by
 unfold unpI Za6
 rw [h]
 simp only [hu]
theorem Zld {s:List UInt8} {p n m q:Int} {l:List Int} (h:Zag s p=(n,m,true)) (hu:Zbj s n.toNat [] (p + m)=some (l,q)):unpI s p=(l,q - p,true):=by
 unfold unpI Za6
 rw [h]
 simp only [hu]
theorem Znh {s:List UInt8} {p n m:Int} (h:Zag s p=(n,m,false)):unpX s p=([],0,false):=by
 unfold unpX ZaY
 rw [h]
theorem Zle {s:List UInt8} {p n m:Int} (h:Zag s p=(n,m,true)) (hl:(s.length:Int) - p - m < n):unpX s p=([],0,false):=by
 unfold unpX ZaY
 rw [h]
 simp only [if_pos hl]
theorem Zpm {s:List UInt8} {p n m:Int} (h:Zag s p=(n,m,true)) (hl:¬ (s.length:Int) - p - m < n):unpX s p=((s.drop (p + m).toNat).take n.toNat,m + n,true):=by
 unfold unpX ZaY
 rw [h]
 simp only [if_neg hl]
theorem ZgS {s:List UInt8} {n:Nat} {acc:List Int} {p v m:Int} {ok:Bool} (h:Zag s p=(v,m,ok)):Zbj s (n + 1) acc p=if ok=true then Zbj s n (acc++[signed v]) (p + m) else none:=by
 rw [Zbj,h]
 cases ok<;>rfl
theorem Zkx (acc:List Int) (x:Int):Zak acc++[[T.int .i64 x]]=Zak (acc++[x]):=by simp [Zak,intC]
theorem Zfo {l:Lv} {s:List UInt8} (h:Za6 s 0=none):Za2 l s=none:=by
 unfold Za2;rw [h]
theorem Zfp {l:Lv} {s:List UInt8} {xs:List Int} {q:Int} (h:Za6 s 0=some (xs,q)):Za2 l s=if q=(s.length:Int)∧ZfL xs∧ZaW (Zb7 l xs)=true then some (Zb7 l xs) else none:=by
 unfold Za2;rw [h]
theorem Zpl {s:List UInt8} (h:Za6 s 0=none):unpI s 0=([],0,false):=by
 unfold unpI;rw [h]
theorem Zng {s:List UInt8} {xs:List Int} {q:Int} (h:Za6 s 0=some (xs,q)):unpI s 0=(xs,q,true):=by
 unfold unpI;rw [h];simp
theorem ZiX {l:Lv} {xs:List Int} {n:Nat} (hn:xs.getD 2 0=(n:Int)):Zb7 l xs=⟨l,xs.getD 0 0,xs.getD 1 0,(xs.drop 3).take n,ZbI (xs.drop (3 + n))⟩:=by
 unfold Zb7
 rw [hn,Int.toNat_natCast,List.drop_drop]
theorem Ze0 {xs:List Int} {n:Nat} (hn:xs.getD 2 0=(n:Int)):ZfL xs↔3≤xs.length∧(1≤n∧n≤4)∧3 + n≤xs.length∧(xs.drop (3 + n)).length % 9=0:=by
 unfold ZfL
 rw [hn,List.length_drop]
 constructor
 ·intro h
  omega
 ·intro h
  omega
def ZcB:Wd:=⟨[],0,0,[],[]⟩
def ZbJ (r:List Int) (j:Nat):List Bd:=(List.range j).map fun i=>Zcj r (9 * i)
theorem ZfT (r:List Int) (j:Nat):ZbJ r (j + 1)=ZbJ r j++[Zcj r (9 * j)]:=by
 unfold ZbJ
 rw [List.range_succ,List.map_append]
 rfl
theorem ZgN {r:List Int} {j:Nat} (h:r.length=9 * j):ZbJ r j=ZbI r:=by
 unfold ZbJ ZbI
 rw [h,Nat.mul_div_cancel_left j (by omega)]
theorem Zdy (r:List Int) (j:Nat):(ZbJ r j).length=j:=by simp [ZbJ]
def Cell (l:Lv) (n w:Nat) (R C:Nat→Nat) (r c:Nat):Prop :=
 (Zam l r c=35∨Zam l r c=111∨Zam l r c=46∨(49≤Zam l r c∧Zam l r c≤52))∧((r=0∨r + 1=n∨c=0∨c + 1=w)→Zam l r c=35)∧((49≤Zam l r c∧Zam l r c≤52)→r=R (Zam l r c)∧c=C (Zam l r c))
instance (l:Lv) (n w:Nat) (R C:Nat→Nat) (r c:Nat):Decidable (Cell l n w R C r c):=by unfold Cell;infer_instance
def Looks (l:Lv) (n w:Nat) (R C:Nat→Nat):Prop :=
 ∀ r,r < n→(l.getD r []).length=w∧∀ c,c < w→Cell l n w R C r c
instance (l:Lv) (n w:Nat) (R C:Nat→Nat):Decidable (Looks l n w R C):=by unfold Looks;infer_instance
end Go.Proofs.YthfaongbpdnlnaaGreat
