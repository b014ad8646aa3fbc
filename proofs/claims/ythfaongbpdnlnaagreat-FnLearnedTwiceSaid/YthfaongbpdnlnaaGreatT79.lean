/- What is proved: the contract on the items of a tick, the program's.
   Conditions: the world is valid. -/
import Derived.Test.YthfaongbpdnlnaaGreatT75
import Derived.Test.YthfaongbpdnlnaaGreatT76
namespace Go.Proofs.YthfaongbpdnlnaaGreat
set_option maxHeartbeats 4000000
set_option maxRecDepth 20000
set_option linter.unusedSimpArgs false
set_option linter.unusedVariables false
open Go.RowKit Ab
theorem Zop {ps rs left:List Bd} {n:Nat} (h:ps.length=n):List.map bodyC (((ps++rs).drop (Int.toNat 0)).take (Int.toNat (n:Int) - Int.toNat 0))++List.map bodyC left=List.map bodyC (ps++left):=by
 have:((ps++rs).drop (Int.toNat 0)).take (Int.toNat (n:Int) - Int.toNat 0)=ps:=by
  show (ps++rs).take n=ps
  rw [← h,List.take_left]
 rw [this,List.map_append]
theorem Zoq {ps rs:List Bd} {n:Nat} (h:ps.length=n):(((ps++rs).drop (Int.toNat 0)).take (Int.toNat (n:Int) - Int.toNat 0)).length=n:=by
 show ((ps++rs).take n).length=n
 rw [← h,List.take_left]
theorem ZdN {ps rs:List Bd} {n q:Nat} (h:ps.length=n):(ps++rs).getD (n + q) default=rs.getD q default:=by
 rw [Zd5,if_neg (by omega),h,Nat.add_sub_cancel_left]
structure ShI (l:Lv) (n:Nat) (h0:Hs) (rs:List Bd) (q:Nat) (s:Hs):Prop where
 le:q≤rs.length
 eq:s=Zed h0 (rs.take q)
 ok:HsOk l n s
 len:s.left.length≤q
theorem ShI.next {l:Lv} {n:Nat} {h0 s s':Hs} {rs:List Bd} {q:Nat} (h:ShI l n h0 rs q s) (hq:q < rs.length) (hr:RsOk l n rs) (e:s'=ZeP s (rs.getD q default)):ShI l n h0 rs (q + 1) s':=by
 subst e
 refine ⟨hq,by rw [ZnS hq,← h.eq],Zm4 h.ok (hr.at hq).1 (hr.at hq).2,?_⟩
 have:=Zk6 s (rs.getD q default)
 have:=h.len
 omega
theorem ZpR {b:Bd} (h:b.life - 1=0):hitV b={ b with life:=0,vx:=0,vy:=0,timer:=20 }:=if_pos h
theorem ZpQ {b:Bd} (h:b.life - 1 ≠ 0):hitV b={ b with life:=b.life - 1 }:=if_neg h
theorem sh_not {s:Hs} {b:Bd} (h:b.kind ≠ 1):ZeP s b={ s with left:=s.left++[b] }:=if_pos h
theorem Zo3 {s:Hs} {b:Bd} (h:b.kind=1) (hm:metV s.ps b b.owner=-1):ZeP s b={ s with left:=s.left++[b] }:=by
 unfold ZeP
 rw [if_neg (fun e=>e h),if_pos (by rw [hm];decide)]
theorem Zo2 {s:Hs} {b:Bd} {k:Nat} (h:b.kind=1) (hm:metV s.ps b b.owner=k) (hz:(s.ps.getD k default).life - 1 ≠ 0):ZeP s b=⟨s.ps.set k { s.ps.getD k default with life:=(s.ps.getD k default).life - 1 },s.sc,s.left⟩:=by
 unfold ZeP
 rw [if_neg (fun e=>e h),if_neg (by rw [hm];omega),hm,Int.toNat_natCast,ZpQ hz,if_neg hz]
theorem Zo1 {s:Hs} {b:Bd} {k w:Nat} (h:b.kind=1) (hm:metV s.ps b b.owner=k) (hz:(s.ps.getD k default).life - 1=0) (ho:b.owner=w):ZeP s b=⟨s.ps.set k { s.ps.getD k default with life:=0,vx:=0,vy:=0,timer:=20 },Zdj s.sc w,s.left⟩:=by
 unfold ZeP
 rw [if_neg (fun e=>e h),if_neg (by rw [hm];omega),hm,Int.toNat_natCast,ZpR hz,if_pos hz,ho,Int.toNat_natCast]
theorem Zi7 (l:Lv) (tick seed:Int) (sc:List Int) (ps rs:List Bd) (hl:ZaZ l) (hn:1≤sc.length∧sc.length≤4) (hok:HsOk l sc.length ⟨ps,sc,[]⟩) (hrs:RsOk l sc.length rs) (hm:ps.length + rs.length≤24) :
  AM Tryz.prog 212 [(0,0,.box 30 [.hnd 1 0,.t (.int .i64 tick),.t (.int .i64 seed),.hnd 2 0,.hnd 3 0]),(1,0,.row true true 9 (Zai l)),(2,0,.row true true 3 (Zak sc)),(3,0,.row true true 114 (List.map bodyC (ps++rs)))] [.ptr 0 0 0 0] [(0,0,.box 30 [.hnd 1 0,.t (.int .i64 tick),.t (.int .i64 seed),.hnd 2 0,.hnd 3 2]),(1,0,.row true true 9 (Zai l)),(2,0,.row true true 3 (Zak (Zed ⟨ps,sc,[]⟩ rs).sc)),(3,2,.row true true 114 (List.map bodyC ((Zed ⟨ps,sc,[]⟩ rs).ps++(Zed ⟨ps,sc,[]⟩ rs).left)))] (.tup []):=by
 have hpl0:ps.length=sc.length:=hok.ps.len
 have hbl0:(List.map bodyC (ps++rs)).length=ps.length + rs.length:=by rw [List.length_map,List.length_append]
 have hal0:(ps++rs).length=ps.length + rs.length:=List.length_append
 have hM:(ps++rs).length - sc.length=rs.length:=by omega
 refine AM.go Tryz.func212 Tryz.ntmps212 fun B W hr=>?_
 repeat' (first|refine pa ?_|(refine pb ?_ ?_<;>intro hg)|refine po ?_|((apply pdq 12;(focus exact pdp);(focus ((refine pt0_ 0 ?_<;>refine pt9_ 1 ?_<;>refine ZaC 2 ?_<;>refine pt7_ 3 ?_<;>refine pt0_ 4 ?_<;>refine pt9_ 5 ?_<;>refine ZaC 6 ?_<;>refine pt7_ 7 ?_<;>refine Ziv 8 ?_<;>refine ZkV 9 ?_<;>refine Ziv 10 ?_<;>refine pt0_ 11 ?_<;>(refine ZaI ?_;exact ZaJ))))))|fail)
 refine aW.nilrow (s:=2) (i:=500) true 114 rfl rfl ?_
 refine aW.loopF rfl (fun q:Nat×Nat×Hs=>[(18,.t (.int .i64 (q.1:Nat))),(17,.t (.int .i64 (((ps++rs).length - sc.length:Nat):Int))),(16,.view 3 0 sc.length ((ps++rs).length - sc.length)),(2,.hnd 500 (q.2.1 + 1))]) [(0,_)] (fun q=>[(3,0,.row true true 114 (List.map bodyC (q.2.2.ps++rs))),(2,0,.row true true 3 (Zak q.2.2.sc)),(500,q.2.1 + 1,.row true true 114 (List.map bodyC q.2.2.left))]) [(0,_,_),(1,_,_)] (fun q=>ShI l sc.length ⟨ps,sc,[]⟩ rs q.1 q.2.2) (fun q=>rs.length - q.1) (0,0,⟨ps,sc,[]⟩) ⟨Nat.zero_le _,rfl,hok,Nat.le_refl _⟩ (by (exact plei)) ?_
 rintro ⟨q,e,s⟩ hI
 have hI:ShI l sc.length ⟨ps,sc,[]⟩ rs q s:=hI
 have hq:=hI.le
 have hpl:s.ps.length=sc.length:=hI.ok.ps.len
 have hscl:s.sc.length=sc.length:=hI.ok.sc.1
 have hll:=hI.len
 have hbl:(List.map bodyC (s.ps++rs)).length=s.ps.length + rs.length:=by rw [List.length_map,List.length_append]
 have hal:(s.ps++rs).length=s.ps.length + rs.length:=List.length_append
 have hel:(List.map bodyC s.left).length=s.left.length:=List.length_map _
 have hsl:=Zal s.sc
 refine pln ?_
 by_cases hqn:q < rs.length
 ·have hg:(s.ps++rs).getD (sc.length + q) default=rs.getD q default:=ZdN hpl
  obtain ⟨hB,hB0⟩:=hrs.at hqn
  have hone:=fun s' e=>hI.next (s':=s') hqn hrs e
  rw [← hg] at hB hB0 hone
  by_cases hk1:((s.ps++rs).getD (sc.length + q) default).kind=1
  case neg =>
   repeat' (first|refine pa ?_|(refine pb ?_ ?_<;>intro hg)|refine ZaX ?_|refine po ?_|fail)
   exact ⟨(q + 1,e + 1,{ s with left:=s.left++[((s.ps++rs).getD (sc.length + q) default)] }),hone _ (sh_not hk1).symm,by show rs.length - (q + 1) < rs.length - q;omega,by rw [ZbK];(exact ple)⟩
  have hpm:=ZfQ l tick seed s.sc (s.ps++rs) s.ps ((s.ps++rs).getD (sc.length + q) default) ((s.ps++rs).getD (sc.length + q) default).owner (by omega) (hpl.trans hscl.symm) (by omega) (by omega) (fun k hk=>(Zbt (by omega)).symm) (fun k hk=>(hI.ok.ps.ok k (by omega)).pos) hB.pos
  rcases ZhM s.ps ((s.ps++rs).getD (sc.length + q) default) ((s.ps++rs).getD (sc.length + q) default).owner with hme|⟨k,hme,hkl,hlife⟩
  ·rw [hme] at hpm
   repeat' (first|refine pa ?_|(refine pb ?_ ?_<;>intro hg)|refine ZaX ?_|(refine Zab (n:=20) ?_;(first|refine Zca (m:=[(0,_,_),(1,_,_),(2,_,_),(3,_,_)]) (hpm) ?_))|refine po ?_|fail)
   exact ⟨(q + 1,e + 1,{ s with left:=s.left++[((s.ps++rs).getD (sc.length + q) default)] }),hone _ (Zo3 hk1 hme).symm,by show rs.length - (q + 1) < rs.length - q;omega,by rw [ZbK];(exact ple)⟩
  rw [hme] at hpm
  have hkn:k < sc.length:=by omega
  have hP:(s.ps++rs).getD k default=s.ps.getD k default:=Zbt hkl
  have hPb:=hI.ok.ps.ok k hkn
  have hP3:(s.ps.getD k default).life≤3:=by rcases hPb.life with e|e<;>omega
  rw [← hP] at hlife hP3
  have hset:∀ b:Bd,(List.map bodyC (s.ps++rs)).set k (bodyC b)=List.map bodyC (s.ps.set k b++rs):=fun b=>by rw [← Zde hkl,ZbC]
  obtain ⟨ow,how⟩:=Int.eq_ofNat_of_zero_le hB.owner.1
  have hown:ow < sc.length:=by have:=hB.owner.2;omega
  repeat' (first|(refine pth ?_)|((fail_if_success (with_reducible show aW _ _ _ (Code.seq (Code.seq (Code.region 11 _ _) _) _) _ _));(fail_if_success (with_reducible show aW _ _ _ (Code.seq (Code.region 11 _ _) _) _ _));(fail_if_success (with_reducible show aW _ _ _ (Code.region 11 _ _) _ _));(first|refine pc ?_|(refine pbc ?_ ?_<;>intro hg)))|(first|refine pl ?_|(refine pbl ?_ ?_<;>intro hg))|(first|(refine Zab (n:=20) ?_;(first|refine Zca (m:=[(0,_,_),(1,_,_),(2,_,_),(3,_,_)]) (hpm) ?_))|refine po ?_)|fail)
  obtain ⟨ps1,hps1⟩:∃ x,x=s.ps.set k { (s.ps++rs).getD k default with life:=((s.ps++rs).getD k default).life - 1 }:=⟨_,rfl⟩
  have hpl1:ps1.length=s.ps.length:=by rw [hps1,List.length_set]
  have e1:(ps1++rs).getD k default={ (s.ps++rs).getD k default with life:=((s.ps++rs).getD k default).life - 1 }:=by rw [Zbt (by omega),hps1,ZcG hkl,if_pos rfl]
  have hal1:(ps1++rs).length=s.ps.length + rs.length:=by rw [List.length_append,hpl1]
  have hbl1:(List.map bodyC (ps1++rs)).length=s.ps.length + rs.length:=by rw [List.length_map,List.length_append,hpl1]
  refine aW.reF rfl [] [(18,_),(17,_),(16,_),(6,_),(4,_),(2,_),(0,_)] [(3,0,.row true true 114 (List.map bodyC (ps1++rs)))] [(0,_,_),(1,_,_),(2,_,_),(4,_,_),(500,_,_)] (by rw [hps1,← hset];(exact plei)) ?_
  refine pln ?_
  by_cases hz:((ps1++rs).getD k default).life=0
  case neg =>
   repeat' (first|refine pa ?_|(refine pb ?_ ?_<;>intro hg)|refine po ?_|fail)
   refine ⟨(q + 1,e,⟨ps1,s.sc,s.left⟩),hone _ ?_,by show rs.length - (q + 1) < rs.length - q;omega,by (exact ple)⟩
   have hz':(s.ps.getD k default).life - 1 ≠ 0:=by rw [e1,hP] at hz;exact hz
   rw [Zo2 hk1 hme hz',hps1,hP]
  have has:=ZgI l tick seed s.sc (ps1++rs) ow (by omega) (by omega) (hI.ok.sc.2 ow hown)
  rw [← how] at has
  repeat' (first|(refine pth ?_)|((fail_if_success (with_reducible show aW _ _ _ (Code.seq (Code.seq (Code.region 14 _ _) _) _) _ _));(fail_if_success (with_reducible show aW _ _ _ (Code.seq (Code.region 14 _ _) _) _ _));(fail_if_success (with_reducible show aW _ _ _ (Code.region 14 _ _) _ _));(first|refine pc ?_|(refine pbc ?_ ?_<;>intro hg)))|(first|refine pl ?_|(refine pbl ?_ ?_<;>intro hg))|(first|(refine Zab (n:=20) ?_;(first|refine Zca (m:=[(0,_,_),(1,_,_),(2,_,_),(3,_,_)]) (has) ?_))|refine po ?_)|fail)
  obtain ⟨ps2,hps2⟩:∃ x,x=ps1.set k { (ps1++rs).getD k default with vx:=0 }:=⟨_,rfl⟩
  have hpl2:ps2.length=s.ps.length:=by rw [hps2,List.length_set,hpl1]
  have e2:(ps2++rs).getD k default={ (ps1++rs).getD k default with vx:=0 }:=by rw [Zbt (by omega),hps2,ZcG (by omega),if_pos rfl]
  have hal2:(ps2++rs).length=s.ps.length + rs.length:=by rw [List.length_append,hpl2]
  have hbl2:(List.map bodyC (ps2++rs)).length=s.ps.length + rs.length:=by rw [List.length_map,List.length_append,hpl2]
  have hset1:∀ b:Bd,(List.map bodyC (ps1++rs)).set k (bodyC b)=List.map bodyC (ps1.set k b++rs):=fun b=>by rw [← Zde (by omega),ZbC]
  refine aW.reF rfl [] [(18,_),(17,_),(16,_),(6,_),(4,_),(2,_),(0,_)] [(3,0,.row true true 114 (List.map bodyC (ps2++rs)))] [(0,_,_),(1,_,_),(2,_,_),(4,_,_),(500,_,_)] (by rw [hps2,← hset1];(exact plei)) ?_
  refine pln ?_
  repeat' (first|(refine pth ?_)|((fail_if_success (with_reducible show aW _ _ _ (Code.seq (Code.seq (Code.region 15 _ _) _) _) _ _));(fail_if_success (with_reducible show aW _ _ _ (Code.seq (Code.region 15 _ _) _) _ _));(fail_if_success (with_reducible show aW _ _ _ (Code.region 15 _ _) _ _));(first|refine pc ?_|(refine pbc ?_ ?_<;>intro hg)))|(first|refine pl ?_|(refine pbl ?_ ?_<;>intro hg))|(first|refine po ?_)|fail)
  obtain ⟨ps3,hps3⟩:∃ x,x=ps2.set k { (ps2++rs).getD k default with vy:=0 }:=⟨_,rfl⟩
  have hpl3:ps3.length=s.ps.length:=by rw [hps3,List.length_set,hpl2]
  have e3:(ps3++rs).getD k default={ (ps2++rs).getD k default with vy:=0 }:=by rw [Zbt (by omega),hps3,ZcG (by omega),if_pos rfl]
  have hal3:(ps3++rs).length=s.ps.length + rs.length:=by rw [List.length_append,hpl3]
  have hbl3:(List.map bodyC (ps3++rs)).length=s.ps.length + rs.length:=by rw [List.length_map,List.length_append,hpl3]
  have hset2:∀ b:Bd,(List.map bodyC (ps2++rs)).set k (bodyC b)=List.map bodyC (ps2.set k b++rs):=fun b=>by rw [← Zde (by omega),ZbC]
  refine aW.reF rfl [] [(18,_),(17,_),(16,_),(6,_),(4,_),(2,_),(0,_)] [(3,0,.row true true 114 (List.map bodyC (ps3++rs)))] [(0,_,_),(1,_,_),(2,_,_),(4,_,_),(500,_,_)] (by rw [hps3,← hset2];(exact plei)) ?_
  refine pln ?_
  have hset3:∀ b:Bd,(List.map bodyC (ps3++rs)).set k (bodyC b)=List.map bodyC (ps3.set k b++rs):=fun b=>by rw [← Zde (by omega),ZbC]
  repeat' (first|refine pa ?_|(refine pb ?_ ?_<;>intro hg)|refine po ?_|fail)
  refine ⟨(q + 1,e,⟨ps3.set k { (ps3++rs).getD k default with timer:=20 },Zdj s.sc ow,s.left⟩),hone _ ?_,by show rs.length - (q + 1) < rs.length - q;omega,by rw [← hset3];(exact ple)⟩
  have hz':(s.ps.getD k default).life - 1=0:=by rw [e1,hP] at hz;exact hz
  rw [Zo1 hk1 hme hz' how,e3,e2,e1,hP,hps3,List.set_set,hps2,List.set_set,hps1,List.set_set,hz']
 ·obtain rfl:q=rs.length:=by omega
  have he:=hI.eq
  rw [List.take_length] at he
  have hcl:=Zoq (rs:=rs) hpl
  rw [← he]
  rw [← hscl] at hcl
  repeat' (first|refine pa ?_|(refine pb ?_ ?_<;>intro hg)|refine ZkW ?_|refine po ?_|(refine pdr [] 16 (by (apply pct 16 65535 0;(focus (intro hd7;(apply pct 16 8191 3;(focus (intro hd6;(apply pct 16 4095 4;(focus (intro hd5;(apply pct 16 3071 5;(focus (intro hd4;(apply pct 16 2559 6;(focus (intro hd3;(apply pct 16 2543 7;(focus (intro hd2;(apply pct 16 2303 7;(focus (intro hd1;(refine pt0_ 0 ?_<;>refine pt0_ 1 ?_<;>refine pt9_ 2 ?_<;>refine ZaC 3 ?_<;>refine pt0_ 5 ?_<;>refine pt9_ 6 ?_<;>refine ZaC 7 ?_<;>refine pt0_ 11 ?_<;>(refine pq2 4 8 ?_ ?_;(focus ((refine pop ?_;refine pk7 ?_)<;>(exact ptm hd1)));(focus ((refine pop ?_;refine pk7 ?_)<;>(exact ptm hd2)))))));(case main=>((refine pq1 8 ?_;(focus ((refine pop ?_;refine pk7 ?_)<;>(exact ptm hd3)))))))));(case main=>(refine Ziv 9 ?_<;>(refine pq1 4 ?_;(focus ((refine pop ?_;refine pk7 ?_)<;>(exact ptm hd4)))))))));(case main=>(refine Ziv 9 ?_<;>(refine pq1 10 ?_;(focus ((refine pop ?_;(first|refine ZkW ?_|refine pk14 ?_))<;>(exact ptm hd5)))))))));(case main=>((refine pq1 10 ?_;(focus ((refine pop ?_;(first|refine ZkW ?_|refine pk14 ?_))<;>(exact ptw hd5)))))))));(case main=>((refine pq1 12 ?_;(focus ((refine pop ?_;refine pk20 ?_)<;>(exact ptm hd6)))))))));(case main=>(refine pt9_ 13 ?_<;>refine ZaC 14 ?_<;>(refine pq1 15 ?_;(focus ((refine pop ?_;refine pk8 ?_)<;>(exact ptm hd7)))))))));(case main=>((refine ZaI ?_;exact ZaJ))))) ?_)|fail)
  rw [← Zop (rs:=rs) (left:=s.left) (hpl.trans hscl.symm)]
  (show Zbu _ _ _ _ _ _ _;refine Zbu.intro (by exact pU12) (vs:=[]) rfl rfl rfl (by exact pU3) rfl rfl (.inr ⟨rfl,True.intro,List.nodup_nil,rfl⟩))
structure ItI (l:Lv) (n:Nat) (h0:Hs) (rs:List Bd) (q:Nat) (s:Hs):Prop where
 le:q≤rs.length
 eq:s=ZdS h0 (rs.take q)
 ok:HsOk l n s
 len:s.left.length≤q
theorem ItI.next {l:Lv} {n:Nat} {h0 s s':Hs} {rs:List Bd} {q:Nat} (h:ItI l n h0 rs q s) (hq:q < rs.length) (hr:RsOk l n rs) (e:s'=Zfh s (rs.getD q default)):ItI l n h0 rs (q + 1) s':=by
 subst e
 refine ⟨hq,by rw [ZnG hq,← h.eq],Zg3 h.ok (hr.at hq).1 (hr.at hq).2,?_⟩
 have:=ZkF s (rs.getD q default)
 have:=h.len
 omega
theorem ZmH {s:Hs} {b:Bd} (h:b.kind ≠ 2∨metV s.ps b (-1)=-1):Zfh s b={ s with left:=s.left++[b] }:=by
 unfold Zfh
 rw [if_neg fun e=>?_]
 rcases h with h|h
 ·exact h e.1
 ·rw [h] at e;exact absurd e.2 (by decide)
theorem it_yes {s:Hs} {b:Bd} {k:Nat} (h:b.kind=2) (hm:metV s.ps b (-1)=k):Zfh s b={ s with sc:=Zdj s.sc k }:=by
 unfold Zfh
 rw [if_pos ⟨h,by rw [hm];omega⟩,hm,Int.toNat_natCast]
theorem Zi5 (l:Lv) (tick seed:Int) (sc:List Int) (ps rs:List Bd) (hl:ZaZ l) (hn:1≤sc.length∧sc.length≤4) (hok:HsOk l sc.length ⟨ps,sc,[]⟩) (hrs:RsOk l sc.length rs) (hm:ps.length + rs.length≤24) :
  AM Tryz.prog 213 [(0,0,.box 30 [.hnd 1 0,.t (.int .i64 tick),.t (.int .i64 seed),.hnd 2 0,.hnd 3 0]),(1,0,.row true true 9 (Zai l)),(2,0,.row true true 3 (Zak sc)),(3,0,.row true true 114 (List.map bodyC (ps++rs)))] [.ptr 0 0 0 0] [(0,0,.box 30 [.hnd 1 0,.t (.int .i64 tick),.t (.int .i64 seed),.hnd 2 0,.hnd 3 2]),(1,0,.row true true 9 (Zai l)),(2,0,.row true true 3 (Zak (ZdS ⟨ps,sc,[]⟩ rs).sc)),(3,2,.row true true 114 (List.map bodyC (ps++(ZdS ⟨ps,sc,[]⟩ rs).left)))] (.tup []):=by
 have hpl0:ps.length=sc.length:=hok.ps.len
 have hbl0:(List.map bodyC (ps++rs)).length=ps.length + rs.length:=by rw [List.length_map,List.length_append]
 have hal0:(ps++rs).length=ps.length + rs.length:=List.length_append
 have hM:(ps++rs).length - sc.length=rs.length:=by omega
 refine AM.go Tryz.func213 Tryz.ntmps213 fun B W hr=>?_
 repeat' (first|refine pa ?_|(refine pb ?_ ?_<;>intro hg)|refine po ?_|((apply pdq 12;(focus exact pdp);(focus ((refine pt0_ 0 ?_<;>refine pt9_ 1 ?_<;>refine ZaC 2 ?_<;>refine pt7_ 3 ?_<;>refine pt0_ 4 ?_<;>refine pt9_ 5 ?_<;>refine ZaC 6 ?_<;>refine pt7_ 7 ?_<;>refine Ziv 8 ?_<;>refine ZkV 9 ?_<;>refine Ziv 10 ?_<;>refine pt0_ 11 ?_<;>(refine ZaI ?_;exact ZaJ))))))|fail)
 refine aW.nilrow (s:=2) (i:=500) true 114 rfl rfl ?_
 refine aW.loopF rfl (fun q:Nat×Nat×Hs=>[(17,.t (.int .i64 (q.1:Nat))),(16,.t (.int .i64 (((ps++rs).length - sc.length:Nat):Int))),(15,.view 3 0 sc.length ((ps++rs).length - sc.length)),(2,.hnd 500 (q.2.1 + 1))]) [(0,_)] (fun q=>[(2,0,.row true true 3 (Zak q.2.2.sc)),(500,q.2.1 + 1,.row true true 114 (List.map bodyC q.2.2.left))]) [(0,_,_),(1,_,_),(3,_,_)] (fun q=>ItI l sc.length ⟨ps,sc,[]⟩ rs q.1 q.2.2) (fun q=>rs.length - q.1) (0,0,⟨ps,sc,[]⟩) ⟨Nat.zero_le _,rfl,hok,Nat.le_refl _⟩ (by (exact plei)) ?_
 rintro ⟨q,e,s⟩ hI
 have hI:ItI l sc.length ⟨ps,sc,[]⟩ rs q s:=hI
 have hq:=hI.le
 have hps:s.ps=ps:=by rw [hI.eq,Zf1]
 have hscl:s.sc.length=sc.length:=hI.ok.sc.1
 have hll:=hI.len
 have hel:(List.map bodyC s.left).length=s.left.length:=List.length_map _
 have hsl:=Zal s.sc
 refine pln ?_
 by_cases hqn:q < rs.length
 ·have hg:(ps++rs).getD (sc.length + q) default=rs.getD q default:=ZdN hpl0
  obtain ⟨hB,hB0⟩:=hrs.at hqn
  have hone:=fun s' e=>hI.next (s':=s') hqn hrs e
  rw [← hg] at hB hB0 hone
  by_cases hk2:((ps++rs).getD (sc.length + q) default).kind=2
  case neg =>
   repeat' (first|refine pa ?_|(refine pb ?_ ?_<;>intro hg)|refine ZaX ?_|refine po ?_|fail)
   exact ⟨(q + 1,e + 1,{ s with left:=s.left++[(ps++rs).getD (sc.length + q) default] }),hone _ (ZmH (.inl hk2)).symm,by show rs.length - (q + 1) < rs.length - q;omega,by rw [ZbK];(exact ple)⟩
  have hpm:=ZfQ l tick seed s.sc (ps++rs) ps ((ps++rs).getD (sc.length + q) default) (-1) (by omega) (hpl0.trans hscl.symm) (by omega) (by omega) (fun k hk=>(Zbt (by omega)).symm) (fun k hk=>(hok.ps.ok k (by omega)).pos) hB.pos
  rcases ZhM ps ((ps++rs).getD (sc.length + q) default) (-1) with hme|⟨k,hme,hkl,hlife⟩
  ·rw [hme] at hpm
   repeat' (first|refine pa ?_|(refine pb ?_ ?_<;>intro hg)|refine ZaX ?_|(refine Zab (n:=20) ?_;(first|refine Zca (m:=[(0,_,_),(1,_,_),(2,_,_),(3,_,_)]) (hpm) ?_))|refine po ?_|fail)
   exact ⟨(q + 1,e + 1,{ s with left:=s.left++[(ps++rs).getD (sc.length + q) default] }),hone _ (ZmH (.inr (by rw [hps];exact hme))).symm,by show rs.length - (q + 1) < rs.length - q;omega,by rw [ZbK];(exact ple)⟩
  ·rw [hme] at hpm
   have has:=ZgI l tick seed s.sc (ps++rs) k (by omega) (by omega) (hI.ok.sc.2 k (by omega))
   repeat' (first|refine pa ?_|(refine pb ?_ ?_<;>intro hg)|refine ZaX ?_|(refine Zab (n:=20) ?_;(first|refine Zca (m:=[(0,_,_),(1,_,_),(2,_,_),(3,_,_)]) (hpm) ?_|refine Zca (m:=[(0,_,_),(1,_,_),(2,_,_),(3,_,_)]) (has) ?_))|refine po ?_|fail)
   exact ⟨(q + 1,e,{ s with sc:=Zdj s.sc k }),hone _ (it_yes hk2 (by rw [hps];exact hme)).symm,by show rs.length - (q + 1) < rs.length - q;omega,by (exact ple)⟩
 ·obtain rfl:q=rs.length:=by omega
  have he:=hI.eq
  rw [List.take_length] at he
  have hcl:=Zoq (rs:=rs) hpl0
  rw [← he]
  rw [← hscl] at hcl
  repeat' (first|refine pa ?_|(refine pb ?_ ?_<;>intro hg)|refine ZkW ?_|refine po ?_|(refine pdr [] 16 (by (apply pct 16 65535 0;(focus (intro hd7;(apply pct 16 8191 3;(focus (intro hd6;(apply pct 16 4095 4;(focus (intro hd5;(apply pct 16 3071 5;(focus (intro hd4;(apply pct 16 2559 6;(focus (intro hd3;(apply pct 16 2543 7;(focus (intro hd2;(apply pct 16 2303 7;(focus (intro hd1;(refine pt0_ 0 ?_<;>refine pt0_ 1 ?_<;>refine pt9_ 2 ?_<;>refine ZaC 3 ?_<;>refine pt0_ 5 ?_<;>refine pt9_ 6 ?_<;>refine ZaC 7 ?_<;>refine pt0_ 11 ?_<;>(refine pq2 4 8 ?_ ?_;(focus ((refine pop ?_;refine pk7 ?_)<;>(exact ptm hd1)));(focus ((refine pop ?_;refine pk7 ?_)<;>(exact ptm hd2)))))));(case main=>((refine pq1 8 ?_;(focus ((refine pop ?_;refine pk7 ?_)<;>(exact ptm hd3)))))))));(case main=>(refine Ziv 9 ?_<;>(refine pq1 4 ?_;(focus ((refine pop ?_;refine pk7 ?_)<;>(exact ptm hd4)))))))));(case main=>(refine Ziv 9 ?_<;>(refine pq1 10 ?_;(focus ((refine pop ?_;(first|refine ZkW ?_|refine pk14 ?_))<;>(exact ptm hd5)))))))));(case main=>((refine pq1 10 ?_;(focus ((refine pop ?_;(first|refine ZkW ?_|refine pk14 ?_))<;>(exact ptw hd5)))))))));(case main=>((refine pq1 12 ?_;(focus ((refine pop ?_;refine pk20 ?_)<;>(exact ptm hd6)))))))));(case main=>(refine pt9_ 13 ?_<;>refine ZaC 14 ?_<;>(refine pq1 15 ?_;(focus ((refine pop ?_;refine pk8 ?_)<;>(exact ptm hd7)))))))));(case main=>((refine ZaI ?_;exact ZaJ))))) ?_)|fail)
  rw [← Zop (rs:=rs) (left:=s.left) (hpl0.trans hscl.symm)]
  (show Zbu _ _ _ _ _ _ _;refine Zbu.intro (by exact pU12) (vs:=[]) rfl rfl rfl (by exact pU3) rfl rfl (.inr ⟨rfl,True.intro,List.nodup_nil,rfl⟩))
end Go.Proofs.YthfaongbpdnlnaaGreat
