/- What is proved: contracts on numbers read from bytes, program and reference alike.
   Conditions: none. -/
import Derived.Test.YthfaongbpdnlnaaGreatV30
namespace Go.Proofs.YthfaongbpdnlnaaGreat
set_option maxHeartbeats 4000000
set_option maxRecDepth 20000
set_option linter.unusedSimpArgs false
set_option linter.unusedVariables false
open Go.RowKit Ab
theorem Zci (k:Int):AC Tryz.prog 223 [.t (.int .i64 k)] (.t (.int .i64 (Zas k))):=by
 refine AC.go Tryz.func223 Tryz.ntmps223 fun B W hr=>?_
 repeat' (first|refine pa ?_|(refine pb ?_ ?_<;>intro hg)|refine po ?_|fail)
 all_goals refine pfin ?_
 all_goals exact .inl (congrArg (T.int .i64) (by unfold Zas;first|rw [if_pos (by omega)]|rw [if_neg (by omega),if_pos (by omega)]|rw [if_neg (by omega),if_neg (by omega),if_pos (by omega)]|rw [if_neg (by omega),if_neg (by omega),if_neg (by omega)]))
theorem ZdL (k:Int):AC Tryz.prog 219 [.t (.int .i64 k)] (.t (.int .i64 (Zas k))):=by
 refine AC.go Tryz.func219 Tryz.ntmps219 fun B W hr=>?_
 repeat' (first|refine pa ?_|(refine pb ?_ ?_<;>intro hg)|refine po ?_|fail)
 all_goals refine pfin ?_
 all_goals exact .inl (congrArg (T.int .i64) (by unfold Zas;first|rw [if_pos (by omega)]|rw [if_neg (by omega),if_pos (by omega)]|rw [if_neg (by omega),if_neg (by omega),if_pos (by omega)]|rw [if_neg (by omega),if_neg (by omega),if_neg (by omega)]))
def ZfM (l:Lv) (x y s:Int) (r:Nat):Prop:=∀ p q:Nat,y / 16≤p→p < r→x / 16≤q→(q:Int)≤(x + s - 1) / 16→¬ Wall l p q
def Zet (l:Lv) (x:Int) (r c:Nat):Prop:=∀ q:Nat,x / 16≤q→q < c→¬ Wall l r q
theorem ZfM.succ {l:Lv} {x y s:Int} {r c:Nat} (h:ZfM l x y s r) (hc:Zet l x r c) (h2:(x + s - 1) / 16 < c):ZfM l x y s (r + 1):=fun p q h3 h4 h5 h6=>by
 by_cases e:p=r
 ·subst e;exact hc q h5 (by omega)
 ·exact h p q h3 (by omega) h5 h6
theorem Zet.succ {l:Lv} {x:Int} {r c:Nat} (h:Zet l x r c) (hw:¬ Wall l r c):Zet l x r (c + 1):=fun q h1 h2=>by
 by_cases e:q=c
 ·subst e;exact hw
 ·exact h q h1 (by omega)
theorem ZfM.done {l:Lv} {x y s:Int} {r:Nat} (h:ZfM l x y s r) (h2:(y + s - 1) / 16 < r) (hx:0≤x∧x≤1000) (hy:0≤y∧y≤1000):ZaG l x y s=false:=by
 rw [ZeQ]
 rintro (hn|⟨p,q,h3,h4,h5,h6,hw⟩)
 ·omega
 ·exact h p q h3 (by omega) h5 h6 hw
theorem Zm6 {l:Lv} {x y s:Int} {r c:Nat} (h1:y / 16≤r) (h2:(r:Int)≤(y + s - 1) / 16) (h3:x / 16≤c) (h4:(c:Int)≤(x + s - 1) / 16) (hw:Wall l r c):ZaG l x y s=true:=Ze7.2 (.inr ⟨r,c,h1,h2,h3,h4,hw⟩)
theorem Zhl (l:Lv) (x y s:Int) (hl:ZaZ l) (hs:1≤s∧s≤16):AC Tryz.prog 246 [.agg [.t (.lst true 9 (Zai l))],.t (.int .i64 x),.t (.int .i64 y),.t (.int .i64 s)] (.t (.bool (ZaG l x y s))):=by
 have hll:=Zbs l
 have hwd:(l.getD 0 default).length=Zad l:=rfl
 have g1:=hl.n3;have g2:=hl.n12;have g3:=hl.w4;have g4:=hl.w20
 refine AC.go Tryz.func246 Tryz.ntmps246 fun B W hr=>?_
 obtain ⟨us,hus⟩:=hr
 have k1:=ZcJ (ZaR hus (i:=1) rfl)
 have k2:=ZcJ (ZaR hus (i:=2) rfl)
 clear hus
 by_cases ho:x < 0∨y < 0∨(Zad l:Int) * 16 - s < x∨(l.length:Int) * 16 - s < y
 ·rw [Zk7 hl hs.1 ho]
  repeat' (first|refine pa ?_|(refine pb ?_ ?_<;>intro hg)|refine pxk0 ?_|refine po ?_|fail)
  all_goals first|(exfalso;omega)|(refine pfin ?_;exact .inl rfl)
 repeat' (first|refine pa ?_|(refine pb ?_ ?_<;>intro hg)|refine pxk0 ?_|refine po ?_|fail)
 rw [show y / 16=(((y / 16).toNat:Nat):Int) by omega]
 refine aW.loopF rfl (fun q:Nat=>[(11,.t (.int .i64 (q:Nat)))]) [(4,_),(3,_),(2,_),(1,_)] (fun q=>[]) [(4,_,_)] (fun q=>(y / 16).toNat≤q∧ZfM l x y s q) (fun q=>l.length - q) ((y / 16).toNat) ⟨Nat.le_refl _,fun p q h1 h2=>by omega⟩ (by (exact plei)) ?_
 rintro r hI
 obtain ⟨hr0,hno⟩:(y / 16).toNat≤r∧ZfM l x y s r:=hI
 refine pln ?_
 by_cases hrn:(r:Int)≤(y + s - 1) / 16
 ·repeat' (first|refine pa ?_|(refine pb ?_ ?_<;>intro hg)|refine po ?_|fail)
  rw [show x / 16=(((x / 16).toNat:Nat):Int) by omega]
  refine aW.loopF rfl (fun q:Nat=>[(12,.t (.int .i64 (q:Nat)))]) [(11,_),(4,_),(3,_),(2,_),(1,_)] (fun q=>[]) [(4,_,_)] (fun q=>(x / 16).toNat≤q∧Zet l x r q) (fun q=>Zad l - q) ((x / 16).toNat) ⟨Nat.le_refl _,fun q h1 h2=>by omega⟩ (by (exact plei)) ?_
  rintro c hI
  obtain ⟨hc0,hnc⟩:(x / 16).toNat≤c∧Zet l x r c:=hI
  refine pln ?_
  have hrow:=hl.rows r (by omega)
  have hrow2:(l.getD r default).length=Zad l:=hrow
  by_cases hcn:(c:Int)≤(x + s - 1) / 16
  ·have hX:((l.getD r default).getD (Int.toNat (c:Int)) 0).toNat=Zam l r c:=rfl
   by_cases ht:Zam l r c=35
   ·rw [Zm6 (l:=l) (x:=x) (y:=y) (s:=s) (r:=r) (c:=c) (by omega) hrn (by omega) hcn (fun h=>h.2.2 ht)]
    repeat' (first|refine pa ?_|(refine pb ?_ ?_<;>intro hg)|refine po ?_|fail)
    all_goals first|(exfalso;omega)|(refine pfin ?_;exact .inl rfl)
   ·have hw:¬ Wall l r c:=fun h=>h ⟨by omega,by rw [hrow];omega,ht⟩
    repeat' (first|refine pa ?_|(refine pb ?_ ?_<;>intro hg)|refine po ?_|fail)
    all_goals first|(exfalso;omega)|exact ⟨c + 1,⟨by omega,hnc.succ hw⟩,by show Zad l - (c + 1) < Zad l - c;omega,by (exact ple)⟩
  ·repeat' (first|refine pa ?_|(refine pb ?_ ?_<;>intro hg)|refine po ?_|fail)
   exact ⟨r + 1,⟨by omega,hno.succ hnc (by omega)⟩,by show l.length - (r + 1) < l.length - r;omega,by (exact ple)⟩
 ·rw [hno.done (by omega) (by omega) (by omega)]
  repeat' (first|refine pa ?_|(refine pb ?_ ?_<;>intro hg)|refine po ?_|fail)
  exact pfr
theorem Zdx (l:Lv) (x y s:Int) (hs:1≤s∧s≤16) (hll:l.length≤1048576):AC Tryz.prog 218 [.agg [.t (.lst true 9 (Zai l))],.t (.int .i64 x),.t (.int .i64 y),.t (.int .i64 s)] (.t (.bool (ZaG l x y s))):=by
 have hsl:=Zbs l
 have hb1:=Zah x 0 1000
 have hb2:=Zah y 0 1000
 by_cases h1:0≤x∧x≤1000
 ·rw [Zae.2 h1] at hb1
  by_cases h2:0≤y∧y≤1000
  ·rw [Zae.2 h2] at hb2
   refine AC.go Tryz.func218 Tryz.ntmps218 fun B W hr=>?_
   repeat' (first|refine pa ?_|(refine pb ?_ ?_<;>intro hg)|(refine pz9 ?_;(first|refine Zaa hb1 ?_|refine Zaa hb2 ?_))|refine po ?_|fail)
   rw [show y / 16=(((y / 16).toNat:Nat):Int) by omega]
   refine aW.loopF rfl (fun q:Nat=>[(9,.t (.int .i64 (q:Nat)))]) [(4,_),(3,_),(2,_),(1,_)] (fun q=>[]) [(4,_,_)] (fun q=>(y / 16).toNat≤q∧ZfM l x y s q) (fun q=>2000 - q) ((y / 16).toNat) ⟨Nat.le_refl _,fun p q h1 h2=>by omega⟩ (by (exact plei)) ?_
   rintro r hI
   obtain ⟨hr0,hno⟩:(y / 16).toNat≤r∧ZfM l x y s r:=hI
   refine pln ?_
   by_cases hrn:(r:Int)≤(y + s - 1) / 16
   ·repeat' (first|refine pa ?_|(refine pb ?_ ?_<;>intro hg)|refine po ?_|fail)
    rw [show x / 16=(((x / 16).toNat:Nat):Int) by omega]
    refine aW.loopF rfl (fun q:Nat=>[(10,.t (.int .i64 (q:Nat)))]) [(9,_),(4,_),(3,_),(2,_),(1,_)] (fun q=>[]) [(4,_,_)] (fun q=>(x / 16).toNat≤q∧Zet l x r q) (fun q=>2000 - q) ((x / 16).toNat) ⟨Nat.le_refl _,fun q h1 h2=>by omega⟩ (by (exact plei)) ?_
    rintro c hI
    obtain ⟨hc0,hnc⟩:(x / 16).toNat≤c∧Zet l x r c:=hI
    refine pln ?_
    by_cases hcn:(c:Int)≤(x + s - 1) / 16
    ·have hX:((l.getD r default).getD (Int.toNat (c:Int)) 0).toNat=Zam l r c:=rfl
     by_cases hw:Wall l r c
     ·rw [Zm6 (l:=l) (x:=x) (y:=y) (s:=s) (r:=r) (c:=c) (by omega) hrn (by omega) hcn hw]
      by_cases q1:r < l.length
      ·by_cases q2:c < (l.getD r default).length
       ·have q3:Zam l r c=35:=Classical.byContradiction fun hn=>hw ⟨q1,q2,hn⟩
        repeat' (first|refine pa ?_|(refine pb ?_ ?_<;>intro hg)|refine po ?_|fail)
        all_goals first|(exfalso;omega)|(refine pfin ?_;exact .inl rfl)
       ·repeat' (first|refine pa ?_|(refine pb ?_ ?_<;>intro hg)|refine po ?_|fail)
        all_goals first|(exfalso;omega)|(refine pfin ?_;exact .inl rfl)
      ·repeat' (first|refine pa ?_|(refine pb ?_ ?_<;>intro hg)|refine po ?_|fail)
       all_goals first|(exfalso;omega)|(refine pfin ?_;exact .inl rfl)
     ·obtain ⟨q1,q2,q3⟩:r < l.length∧c < (l.getD r default).length∧Zam l r c ≠ 35:=Classical.byContradiction hw
      repeat' (first|refine pa ?_|(refine pb ?_ ?_<;>intro hg)|refine po ?_|fail)
      all_goals first|(exfalso;omega)|exact ⟨c + 1,⟨by omega,hnc.succ hw⟩,by show 2000 - (c + 1) < 2000 - c;omega,by (exact ple)⟩
    ·repeat' (first|refine pa ?_|(refine pb ?_ ?_<;>intro hg)|refine po ?_|fail)
     exact ⟨r + 1,⟨by omega,hno.succ hnc (by omega)⟩,by show 2000 - (r + 1) < 2000 - r;omega,by (exact ple)⟩
   ·rw [hno.done (by omega) h1 h2]
    repeat' (first|refine pa ?_|(refine pb ?_ ?_<;>intro hg)|refine po ?_|fail)
    exact pfr
  ·rw [show inR y 0 1000=false by rw [Bool.eq_false_iff,Ne,Zae];exact h2] at hb2
   rw [Ze7.2 (.inl fun h=>h2 ⟨h.2.2.1,h.2.2.2⟩)]
   refine AC.go Tryz.func218 Tryz.ntmps218 fun B W hr=>?_
   repeat' (first|refine pa ?_|(refine pb ?_ ?_<;>intro hg)|(refine pz9 ?_;(first|refine Zaa hb1 ?_|refine Zaa hb2 ?_))|refine po ?_|fail)
   exact pfr
 ·rw [show inR x 0 1000=false by rw [Bool.eq_false_iff,Ne,Zae];exact h1] at hb1
  rw [Ze7.2 (.inl fun h=>h1 ⟨h.1,h.2.1⟩)]
  refine AC.go Tryz.func218 Tryz.ntmps218 fun B W hr=>?_
  repeat' (first|refine pa ?_|(refine pb ?_ ?_<;>intro hg)|(refine pz9 ?_;(first|refine Zaa hb1 ?_|refine Zaa hb2 ?_))|refine po ?_|fail)
  exact pfr
theorem ZnY (c:UInt8):IntKind.u8.wrap (((BitVec.ofInt IntKind.u8.bits ((c.toNat:Nat):Int) &&& BitVec.ofInt IntKind.u8.bits 127).toNat:Nat):Int)=((c.toNat % 128:Nat):Int):=by
 have hc:=c.toNat_lt
 have h1:(BitVec.ofInt 8 ((c.toNat:Nat):Int)).toNat=c.toNat:=by
  rw [BitVec.ofInt_natCast,BitVec.toNat_ofNat]
  exact Nat.mod_eq_of_lt (by omega)
 have h2:(BitVec.ofInt 8 127).toNat=127:=by decide
 show IntKind.u8.wrap ((BitVec.ofInt 8 ((c.toNat:Nat):Int) &&& BitVec.ofInt 8 127).toNat:Int)=_
 rw [BitVec.toNat_and,h1,h2,show (127:Nat)=2 ^ 7 - 1 from rfl,Nat.and_two_pow_sub_one_eq_mod,wrap_u8]
 omega
theorem ZoS (k:Nat):(2:Nat) ^ (7 * k)=128 ^ k:=by rw [Nat.pow_mul]
theorem ZjF {k:Nat} (h:k≤6):128 ^ k≤4398046511104:=by
 have:k=0∨k=1∨k=2∨k=3∨k=4∨k=5∨k=6:=by omega
 rcases this with rfl|rfl|rfl|rfl|rfl|rfl|rfl<;>decide
theorem Zmp {n k c:Nat} (hk:k < 6) (hn:n < 128 ^ k):n + c % 128 * 128 ^ k < 128 ^ (k + 1):=by
 have h1:c % 128 + 1≤128:=Nat.mod_lt _ (by decide)
 have h2:=Nat.mul_le_mul_right (128 ^ k) h1
 rw [Nat.add_mul,Nat.one_mul] at h2
 rw [Nat.pow_succ,Nat.mul_comm (128 ^ k) 128]
 omega
def shB (c:UInt8) (k:Nat):Int:=IntKind.i64.wrap (IntKind.i64.wrap (IntKind.u8.wrap (((BitVec.ofInt IntKind.u8.bits ((c.toNat:Nat):Int) &&& BitVec.ofInt IntKind.u8.bits 127).toNat:Nat):Int)) * 2 ^ (min (Int.toNat (7 * (k:Int))) IntKind.i64.bits))
theorem shB_eq {c:UInt8} {k:Nat} (hk:k < 6):shB c k=((c.toNat % 128 * 128 ^ k:Nat):Int):=by
 have hp:=ZjF (k:=k) (by omega)
 have hc:c.toNat % 128 < 128:=Nat.mod_lt _ (by decide)
 have hm:c.toNat % 128 * 128 ^ k≤128 * 4398046511104:=Nat.mul_le_mul (by omega) hp
 unfold shB
 rw [ZnY,wrap_i64 (n:=((c.toNat % 128:Nat):Int)) (by omega)]
 have h1:min (Int.toNat (7 * (k:Int))) IntKind.i64.bits=7 * k:=by
  have:(7 * (k:Int)).toNat=7 * k:=by omega
  rw [this]
  show min (7 * k) 64=7 * k
  omega
 rw [h1]
 have h2:((c.toNat % 128:Nat):Int) * 2 ^ (7 * k)=((c.toNat % 128 * 128 ^ k:Nat):Int):=by
  rw [Int.natCast_mul]
  congr 1
  have:=congrArg (fun x:Nat=>(x:Int)) (ZoS k)
  simpa using this
 rw [h2,wrap_i64 (by omega)]
theorem Zmx {s:List UInt8} {p:Nat} (h:p < s.length):s.drop p=s.getD p 0 :: s.drop (p + 1):=by
 rw [List.drop_eq_getElem_cons h];simp [h]
theorem Zbb {s:List UInt8} {p:Nat} (h:decI 6 0 0 (s.drop p)=none):Zag s (p:Int)=(0,0,false):=by
 unfold Zag
 rw [if_neg (by omega),Int.toNat_natCast,h]
theorem ZdO {s:List UInt8} {p v m:Nat} (h:decI 6 0 0 (s.drop p)=some (v,m)):Zag s (p:Int)=((v:Int),(m:Int),true):=by
 unfold Zag
 rw [if_neg (by omega),Int.toNat_natCast,h]
theorem Zjv (f k n:Nat):decI f k n []=none:=by cases f<;>rfl
theorem Zel {s:List UInt8} {p:Int} (h:¬ (0≤p∧p < s.length)):Zag s p=(0,0,false):=by
 unfold Zag
 by_cases h0:p < 0
 ·rw [if_pos h0]
 ·rw [if_neg h0,List.drop_of_length_le (by omega),Zjv]
end Go.Proofs.YthfaongbpdnlnaaGreat
