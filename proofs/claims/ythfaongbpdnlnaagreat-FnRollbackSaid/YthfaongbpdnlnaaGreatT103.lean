/- What is proved: contracts on learning from a packet, program and reference alike.
   Conditions: the peer's lists and differences can be walked. -/
import Derived.Test.YthfaongbpdnlnaaGreatAbsVf
namespace Go.Proofs.YthfaongbpdnlnaaGreat
set_option linter.unusedSimpArgs false
set_option linter.unusedVariables false
open Go.RowKit Ab
def Zsq (t:List Int) (f:Nat) (ins:List Int):Bool:=decide (∀ k,k < ins.length→f + k < t.length→t.getD (f + k) 0=ins.getD k 0)
theorem ZtV (t:List Int) (f:Nat):Zsq t f []=true:=by simp [Zsq]
theorem ZsQ {t ins:List Int} {f k:Nat} (hk:k < ins.length) (h:Zsq t f (ins.take k)=true) (hx:∀ (h:f + k < t.length),t[f + k]=ins[k]):Zsq t f (ins.take (k + 1))=true:=by
 unfold Zsq at *
 rw [decide_eq_true_eq] at *
 intro j hj hjt
 simp only [List.length_take] at hj
 by_cases e:j < k
 ·have:=h j (by simp only [List.length_take];omega) hjt
  rw [this]
  simp [List.getD_eq_getElem?_getD,List.getElem?_take,e,show j < k + 1 by omega]
 ·have e2:j=k:=by omega
  subst e2
  have:=hx hjt
  simp [List.getD_eq_getElem?_getD,hjt,hk,this]
theorem ZtW {t ins:List Int} {f k:Nat} (hk:k < ins.length) (hf:f + k < t.length) (hx:t[f + k] ≠ ins[k]):Zsq t f ins=false:=by
 unfold Zsq
 rw [decide_eq_false_iff_not]
 intro h
 have:=h k hk hf
 simp [List.getD_eq_getElem?_getD,hf,hk] at this
 exact hx this
def Ztj (t:List Int) (first:Int) (ins:List Int):Bool :=
 ZaH t && decide (0≤first∧first≤t.length) && decide ((ins.length:Int)≤400 - first) && Zbl ins && Zsq t first.toNat ins
def Zsl (t:List Int) (f:Nat) (ins:List Int):List Int:=t++ins.drop (t.length - f)
def Zka (t:List Int) (first:Int) (ins:List Int):List Int×Bool:=if Ztj t first ins=true then (Zsl t first.toNat ins,true) else (t,false)
theorem Ztl {t ins:List Int} {f k:Nat} (hk:k < ins.length) (hf:f≤t.length):Zsl t f (ins.take (k + 1))=if f + k < t.length then Zsl t f (ins.take k) else Zsl t f (ins.take k)++[ins[k]]:=by
 unfold Zsl
 split
 ·rw [List.drop_of_length_le (by simp;omega),List.drop_of_length_le (by simp;omega)]
 ·rw [List.take_succ_eq_append_getElem hk,List.drop_append_of_le_length (by simp;omega),List.append_assoc]
theorem ZsF {t ins:List Int} {f:Nat} (hf:f≤t.length):(Zsl t f ins).length=max t.length (f + ins.length):=by
 unfold Zsl
 rw [List.length_append,List.length_drop]
 omega
theorem Zuk (t:List Int) (f:Nat):Zsl t f []=t:=by simp [Zsl]
theorem Zuj {t ins:List Int} {f k:Nat} (hk:k < ins.length) (hf:f≤t.length) (h:¬ f + k < t.length):Zak (Zsl t f (ins.take (k + 1)))=Zak (Zsl t f (ins.take k))++[[T.int .i64 (ins.getD k default)]]:=by
 rw [Ztl hk hf,if_neg h,Zl4,Zb6 hk]
def ZtB (ts:TS) (fr tk fs:Int) (ins acks:List Int) (stk sm tm ec:Int):TS×Bool :=
 if Zan ts=true∧ZhP fr tk fs ins acks stk sm tm ec=true∧acks.length=ts.length then
  (if (Zka (ts.getD fr.toNat default) fs ins).2=true then (ts.set fr.toNat (Zka (ts.getD fr.toNat default) fs ins).1,true) else (ts,false)) else (ts,false)
theorem Zsy {fr tk fs stk sm tm ec:Int} {ins acks:List Int} (h:ZhP fr tk fs ins acks stk sm tm ec=true):1≤acks.length∧acks.length≤4∧0≤fr∧fr≤acks.length - 1∧ins.length≤40∧Zbl ins=true∧0≤fs∧fs≤400 - ins.length:=by
 unfold ZhP at h
 simp only [Bool.and_eq_true,decide_eq_true_eq,Zae] at h
 exact ⟨by omega,by omega,by omega,by omega,by omega,h.1.1.1.1.1.1.2,by omega,by omega⟩
structure PkV where
 fr:Int
 tk:Int
 fs:Int
 ins:List Int
 acks:List Int
 stk:Int
 sm:Int
 tm:Int
 ec:Int
def Zsk (p:Pr) (x:PkV):TS×Bool:=ZtB p.tracks x.fr x.tk x.fs x.ins x.acks x.stk x.sm x.tm x.ec
noncomputable def Zsj (p:Pr) (x:PkV):Option Pr:=if Zb9 p=true∧x.fr ≠ p.me∧(Zsk p x).2=true then (Zqk { p with tracks:=(Zsk p x).1 }).map confirmV else none
theorem Ztm {t:Int}:∀ {f:Nat} {p q:Pr},Zc0 p→Zqm f t p=some q→Zc0 q
 | 0,p,q,h,ha=>by cases ha;exact h
 | f + 1,p,q,h,ha=>by
  unfold Zqm at ha
  split at ha
  ·cases hd:ZpB p with
   | none=>rw [hd] at ha;cases ha
   | some r =>
    rw [hd] at ha
    exact Ztm (ZqX h hd) ha
  ·cases ha;exact h
theorem Zs9 {p q:Pr} (h:Zc0 p) (hr:Zqk p=some q):Zc0 q:=by
 unfold Zqk at hr
 split at hr
 ·split at hr
  ·cases hr;exact h
  ·cases ho:Zcv p (ZdR p) with
   | none=>rw [ho] at hr;cases hr
   | some r =>
    rw [ho] at hr
    replace hr:(Zqm (p.now.tick - r.now.tick).toNat p.now.tick r).map (ZpG p)=some q:=hr
    cases hg:Zqm (p.now.tick - r.now.tick).toNat p.now.tick r with
    | none=>rw [hg] at hr;cases hr
    | some s =>
     rw [hg] at hr
     cases hr
     have:=Ztm (ZrF h ho) hg
     exact fun x hx=>this x hx
 ·cases hr
theorem Zso {t:List Int}:ZaH t=true↔t.length≤400∧∀ x ∈ t,0≤x∧x≤15:=by
 unfold ZaH Zbl
 rw [Bool.and_eq_true,decide_eq_true_eq,List.all_eq_true]
 exact ⟨fun h=>⟨h.1,fun x hx=>Zae.1 (h.2 x hx)⟩,fun h=>⟨h.1,fun x hx=>Zae.2 (h.2 x hx)⟩⟩
theorem Ztd {ts:TS} (h:1≤ts.length∧ts.length≤4) (ha:∀ k,k < ts.length→ZaH (ts.getD k default)=true):Zan ts=true:=by
 unfold Zan
 rw [Bool.and_eq_true,Zae,List.all_eq_true]
 refine ⟨by omega,fun t ht=>?_⟩
 obtain ⟨k,hk,rfl⟩:=List.mem_iff_getElem.1 ht
 have:=ha k hk
 rwa [Zb6 hk] at this
theorem ZsJ {ts:TS} {m k:Nat} {x:List Int} (hm:m < ts.length):(ts.set m x).getD k default=if m=k then x else ts.getD k default:=ZcG hm
theorem ZsX {ts:TS} (h:Zan ts=true) {m:Nat} (hm:m < ts.length) {x:List Int} (hx:ZaH x=true):Zan (ts.set m x)=true:=by
 refine Ztd (by rw [List.length_set];exact Zbi h) fun k hk=>?_
 rw [List.length_set] at hk
 rw [ZsJ hm]
 split
 ·exact hx
 ·exact ZfG h hk
theorem ZuF {ts:TS} {m:Nat} (hm:m < ts.length) (s:List Int):Ext ts (ts.set m (ts.getD m default++s)):=by
 refine ⟨List.length_set,fun k hk=>?_⟩
 rw [ZsJ hm]
 split
 ·rename_i e
  exact ⟨s,by rw [e]⟩
 ·exact ⟨[],by rw [List.append_nil]⟩
theorem ZuW {t ins:List Int} {f:Int} (h:Ztj t f ins=true):ZaH (Zsl t f.toNat ins)=true:=by
 unfold Ztj at h
 simp only [Bool.and_eq_true,decide_eq_true_eq] at h
 obtain ⟨⟨⟨⟨h1,h2⟩,h3⟩,h4⟩,h5⟩:=h
 obtain ⟨t1,t2⟩:=Zso.1 h1
 refine Zso.2 ⟨by rw [ZsF (by omega)];omega,fun x hx=>?_⟩
 unfold Zsl at hx
 rcases List.mem_append.1 hx with hx|hx
 ·exact t2 x hx
 ·unfold Zbl at h4
  exact Zae.1 (List.all_eq_true.1 h4 x (List.mem_of_mem_drop hx))
theorem Ztb {p:Pr} {x:PkV} (hp:Zic p) (h:(Zsk p x).2=true):Ext p.tracks (Zsk p x).1∧Zan (Zsk p x).1=true∧x.fr.toNat < p.tracks.length∧0≤x.fr∧(Zsk p x).1=p.tracks.set x.fr.toNat (Zsl (p.tracks.getD x.fr.toNat default) x.fs.toNat x.ins)∧Ztj (p.tracks.getD x.fr.toNat default) x.fs x.ins=true:=by
 unfold Zsk ZtB at h ⊢
 split at h
 ·rename_i hc
  rw [if_pos hc]
  have hpk:=Zsy hc.2.1
  have hlt:x.fr.toNat < p.tracks.length:=by have:=hc.2.2;omega
  split at h
  ·rename_i ha
   rw [if_pos ha]
   unfold Zka at ha ⊢
   split at ha
   ·rename_i hao
    rw [if_pos hao]
    exact ⟨ZuF hlt _,ZsX hp.tracks hlt (ZuW hao),hlt,hpk.2.2.1,rfl,hao⟩
   ·cases ha
  ·cases h
 ·cases h
theorem Ztz {p:Pr} {x:PkV} (h:¬ (Zb9 p=true∧x.fr ≠ p.me∧(Zsk p x).2=true)):Zsj p x=none:=if_neg h
theorem ZuK {p:Pr} {x:PkV} (h:Zb9 p=true∧x.fr ≠ p.me∧(Zsk p x).2=true):Zsj p x=(Zqk { p with tracks:=(Zsk p x).1 }).map confirmV:=if_pos h
theorem Zt3 {p q:Pr} (hp:Zeq p) (h:Zqk p=some q):Zeq q:=by
 have:=ZrR p hp
 rwa [h] at this
end Go.Proofs.YthfaongbpdnlnaaGreat
