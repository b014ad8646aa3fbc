/- What is proved: the contract on shots that hit and items that are collected, the reference's.
   Conditions: the world is valid. -/
import Derived.Test.YthfaongbpdnlnaaGreatT79
namespace Go.Proofs.YthfaongbpdnlnaaGreat
set_option maxHeartbeats 4000000
set_option maxRecDepth 20000
set_option linter.unusedSimpArgs false
set_option linter.unusedVariables false
open Go.RowKit Ab
def Zgv (b:Bool):List T:=[.bool b]
def Zck (gone:List Bool) (n:Nat) (rs:List Bd) (q:Nat):List Bd:=(List.range q).filterMap fun j=>if gone.getD (n + j) default=true then none else some (rs.getD j default)
theorem ZoG (gone:List Bool) (n:Nat) (rs:List Bd):Zck gone n rs 0=[]:=rfl
theorem Zfy {gone:List Bool} {n q:Nat} {rs:List Bd} (h:gone.getD (n + q) default=true):Zck gone n rs (q + 1)=Zck gone n rs q:=by
 unfold Zck
 rw [List.range_succ,List.filterMap_append]
 have:List.filterMap (fun j=>if gone.getD (n + j) default=true then none else some (rs.getD j default)) [q]=[]:=by
  simp only [List.filterMap_cons,List.filterMap_nil,h,if_true]
 rw [this,List.append_nil]
theorem Zd8 {gone:List Bool} {n q:Nat} {rs:List Bd} (h:gone.getD (n + q) default=false):Zck gone n rs (q + 1)=Zck gone n rs q++[rs.getD q default]:=by
 unfold Zck
 rw [List.range_succ,List.filterMap_append]
 have:List.filterMap (fun j=>if gone.getD (n + j) default=true then none else some (rs.getD j default)) [q]=[rs.getD q default]:=by
  simp only [List.filterMap_cons,List.filterMap_nil,h,Bool.false_eq_true,if_false]
 rw [this]
theorem Zg4 {gone:List Bool} {n k:Nat} {rs:List Bd} {v:Bool}:∀ {q:Nat},n + q≤k→Zck (gone.set k v) n rs q=Zck gone n rs q
 | 0,_=>rfl
 | q + 1,h=>by
  have e:(gone.set k v).getD (n + q) default=gone.getD (n + q) default:=by
   rw [List.getD_eq_getElem?_getD,List.getD_eq_getElem?_getD,List.getElem?_set_ne (by omega)]
  cases hg:gone.getD (n + q) default with
  | true=>rw [Zfy hg,Zfy (e.trans hg),Zg4 (by omega)]
  | false=>rw [Zd8 hg,Zd8 (e.trans hg),Zg4 (by omega)]
theorem ZpU (gone:List Bool) (n:Nat) (rs:List Bd) (q:Nat):(Zck gone n rs q).length≤q:=by
 unfold Zck
 exact Nat.le_trans (List.length_filterMap_le _ _) (by simp)
theorem Zke {gone:List Bool} {k:Nat} {v:Bool}:List.map Zgv (gone.set k v)=(List.map Zgv gone).set k (Zgv v):=List.map_set
theorem Zgf {gone:List Bool} {k j:Nat} {v:Bool} (h:k < gone.length):(gone.set k v).getD j default=if k=j then v else gone.getD j default:=ZcG h
structure SfI (l:Lv) (n:Nat) (h0:Hs) (rs:List Bd) (q:Nat) (s:Hs) (gone:List Bool):Prop where
 sh:ShI l n h0 rs q s
 len:gone.length=n + rs.length
 left:s.left=Zck gone n rs q
 rest:∀ j,q≤j→j < rs.length→gone.getD (n + j) default=false
 shot:∀ j,j < rs.length→gone.getD (n + j) default=true→(rs.getD j default).kind=1
theorem SfI.keep {l:Lv} {n:Nat} {h0 s s':Hs} {rs:List Bd} {q:Nat} {gone:List Bool} (h:SfI l n h0 rs q s gone) (hq:q < rs.length) (hr:RsOk l n rs) (e:s'=ZeP s (rs.getD q default)) (hl:s'.left=s.left++[rs.getD q default]):SfI l n h0 rs (q + 1) s' gone :=
 ⟨h.sh.next hq hr e,h.len,by rw [hl,h.left,Zd8 (h.rest q (Nat.le_refl _) hq)],fun j hj=>h.rest j (by omega),h.shot⟩
theorem SfI.gone {l:Lv} {n:Nat} {h0 s s':Hs} {rs:List Bd} {q:Nat} {gone:List Bool} (h:SfI l n h0 rs q s gone) (hq:q < rs.length) (hr:RsOk l n rs) (e:s'=ZeP s (rs.getD q default)) (hl:s'.left=s.left) (hk:(rs.getD q default).kind=1):SfI l n h0 rs (q + 1) s' (gone.set (n + q) true):=by
 have hlt:n + q < gone.length:=by rw [h.len];omega
 refine ⟨h.sh.next hq hr e,by rw [List.length_set,h.len],?_,fun j hj hj2=>?_,fun j hj hg=>?_⟩
 ·rw [hl,h.left,Zfy (by rw [Zgf hlt,if_pos rfl]),Zg4 (by omega)]
 ·rw [Zgf hlt,if_neg (by omega)];exact h.rest j (by omega) hj2
 ·rw [Zgf hlt] at hg
  by_cases e:n + q=n + j
  ·rw [show j=q by omega];exact hk
  ·rw [if_neg e] at hg;exact h.shot j hj hg
structure IfI (l:Lv) (n:Nat) (h0:Hs) (rs:List Bd) (g0:List Bool) (q:Nat) (s:Hs) (gone:List Bool):Prop where
 le:q≤rs.length
 eq:s=ZdS h0 (Zck g0 n rs q)
 ok:HsOk l n s
 len:gone.length=n + rs.length
 left:s.left=Zck gone n rs q
 rest:∀ j,q≤j→j < rs.length→gone.getD (n + j) default=g0.getD (n + j) default
theorem IfI.skip {l:Lv} {n:Nat} {h0 s:Hs} {rs:List Bd} {q:Nat} {g0 gone:List Bool} (h:IfI l n h0 rs g0 q s gone) (hq:q < rs.length) (hg:g0.getD (n + q) default=true):IfI l n h0 rs g0 (q + 1) s gone:=by
 have h1:=h.rest q (Nat.le_refl _) hq
 exact ⟨hq,by rw [Zfy hg];exact h.eq,h.ok,h.len,by rw [Zfy (h1.trans hg)];exact h.left,fun j hj=>h.rest j (by omega)⟩
theorem IfI.keep {l:Lv} {n:Nat} {h0 s s':Hs} {rs:List Bd} {q:Nat} {g0 gone:List Bool} (h:IfI l n h0 rs g0 q s gone) (hq:q < rs.length) (hr:RsOk l n rs) (hg:g0.getD (n + q) default=false) (e:s'=Zfh s (rs.getD q default)) (hl:s'.left=s.left++[rs.getD q default]):IfI l n h0 rs g0 (q + 1) s' gone:=by
 have h1:=h.rest q (Nat.le_refl _) hq
 refine ⟨hq,?_,by rw [e];exact Zg3 h.ok (hr.at hq).1 (hr.at hq).2,h.len,by rw [hl,h.left,Zd8 (h1.trans hg)],fun j hj=>h.rest j (by omega)⟩
 rw [Zd8 hg,e,h.eq,ZdS,ZdS,List.foldl_append]
 rfl
theorem IfI.gone {l:Lv} {n:Nat} {h0 s s':Hs} {rs:List Bd} {q:Nat} {g0 gone:List Bool} (h:IfI l n h0 rs g0 q s gone) (hq:q < rs.length) (hr:RsOk l n rs) (hg:g0.getD (n + q) default=false) (e:s'=Zfh s (rs.getD q default)) (hl:s'.left=s.left):IfI l n h0 rs g0 (q + 1) s' (gone.set (n + q) true):=by
 have hlt:n + q < gone.length:=by rw [h.len];omega
 refine ⟨hq,?_,by rw [e];exact Zg3 h.ok (hr.at hq).1 (hr.at hq).2,by rw [List.length_set,h.len],?_,fun j hj hj2=>?_⟩
 ·rw [Zd8 hg,e,h.eq,ZdS,ZdS,List.foldl_append]
  rfl
 ·rw [hl,h.left,Zfy (by rw [Zgf hlt,if_pos rfl]),Zg4 (by omega)]
 ·rw [Zgf hlt,if_neg (by omega)];exact h.rest j (by omega) hj2
theorem Zoi (n:Nat):List.replicate n [T.bool false]=List.map Zgv (List.replicate n false):=by rw [List.map_replicate];rfl
theorem Zne {ps rs:List Bd} {n:Nat} (h:ps.length=n):List.take (Int.toNat (n:Int) - Int.toNat 0) (List.drop (Int.toNat 0) (List.map bodyC (ps++rs)))=List.map bodyC ps:=by
 show List.take n (List.map bodyC (ps++rs))=_
 rw [List.map_append,← h,← List.length_map (f:=bodyC),List.take_left]
theorem ZpH {ps rs:List Bd} {n:Nat} (h:ps.length=n):List.map bodyC (((ps++rs).drop (Int.toNat 0)).take (Int.toNat (n:Int) - Int.toNat 0))=List.map bodyC ps:=by
 rw [List.map_take,List.map_drop]
 exact Zne h
theorem ZlN (l:Lv) (tick seed:Int) (sc:List Int) (ps rs:List Bd) (hl:ZaZ l) (hn:1≤sc.length∧sc.length≤4) (hok:HsOk l sc.length ⟨ps,sc,[]⟩) (hrs:RsOk l sc.length rs) (hm:ps.length + rs.length≤24) :
  AMP Tryz.prog 165 [(0,0,.box 30 [.hnd 1 0,.t (.int .i64 tick),.t (.int .i64 seed),.hnd 2 0,.hnd 3 0]),(1,0,.row true true 9 (Zai l)),(2,0,.row true true 3 (Zak sc)),(3,0,.row true true 114 (List.map bodyC (ps++rs)))] [.ptr 0 0 0 0] (fun x:Nat=>[(0,0,.box 30 [.hnd 1 0,.t (.int .i64 tick),.t (.int .i64 seed),.hnd 2 0,.hnd 16 (x + 1)]),(1,0,.row true true 9 (Zai l)),(2,0,.row true true 3 (Zak (ZdS ⟨(Zed ⟨ps,sc,[]⟩ rs).ps,(Zed ⟨ps,sc,[]⟩ rs).sc,[]⟩ (Zed ⟨ps,sc,[]⟩ rs).left).sc)),(3,0,.row true true 114 (List.map bodyC ((Zed ⟨ps,sc,[]⟩ rs).ps++rs))),(16,x + 1,.row true true 114 (List.map bodyC ((Zed ⟨ps,sc,[]⟩ rs).ps++(ZdS ⟨(Zed ⟨ps,sc,[]⟩ rs).ps,(Zed ⟨ps,sc,[]⟩ rs).sc,[]⟩ (Zed ⟨ps,sc,[]⟩ rs).left).left)))]) (fun _=>.tup []) (fun _=>True):=by
 have hpl0:ps.length=sc.length:=hok.ps.len
 have hbl0:(List.map bodyC (ps++rs)).length=ps.length + rs.length:=by rw [List.length_map,List.length_append]
 have hal0:(ps++rs).length=ps.length + rs.length:=List.length_append
 refine AMP.go Tryz.func165 Tryz.ntmps165 fun B W hr=>?_
 repeat' (first|(refine pth ?_)|((fail_if_success (with_reducible show aW _ _ _ (Code.seq (Code.seq (Code.region 3 _ _) _) _) _ _));(fail_if_success (with_reducible show aW _ _ _ (Code.seq (Code.region 3 _ _) _) _ _));(fail_if_success (with_reducible show aW _ _ _ (Code.region 3 _ _) _ _));(first|refine pc ?_|(refine pbc ?_ ?_<;>intro hg)))|(first|refine pl ?_|(refine pbl ?_ ?_<;>intro hg))|(first|refine po ?_)|fail)
 refine aW.reF rfl [] [(4,_),(3,_),(2,_),(0,_)] [(29,1,.row true true 4 (List.map Zgv (List.replicate (ps++rs).length false))),(16,2,.row true true 114 (List.map bodyC ps))] [(0,_,_),(1,_,_),(2,_,_),(3,_,_)] (by rw [← Zne (rs:=rs) hpl0,← Zoi];(exact plei)) ?_
 refine pln ?_
 repeat' (first|refine pa ?_|(refine pb ?_ ?_<;>intro hg)|refine po ?_|fail)
 refine aW.joinF rfl (fun z:Hs×List Bool=>[]) [(4,_),(3,_),(2,_),(0,_)] (fun z:Hs×List Bool=>[(3,0,.row true true 114 (List.map bodyC (z.1.ps++rs))),(2,0,.row true true 3 (Zak z.1.sc)),(29,1,.row true true 4 (List.map Zgv z.2))]) [(0,_,_),(1,_,_),(16,_,_)] (fun z:Hs×List Bool=>SfI l sc.length ⟨ps,sc,[]⟩ rs rs.length z.1 z.2) (⟨ps,sc,[]⟩,List.replicate (ps++rs).length false) (by (exact plei)) ?_ ?_
 ·refine aW.loopF rfl (fun q:Nat×Hs×List Bool=>[(5,.t (.int .i64 ((sc.length + q.1:Nat):Int)))]) [(4,_),(3,_),(2,_),(0,_)] (fun q=>[(3,0,.row true true 114 (List.map bodyC (q.2.1.ps++rs))),(2,0,.row true true 3 (Zak q.2.1.sc)),(29,1,.row true true 4 (List.map Zgv q.2.2))]) [(0,_,_),(1,_,_),(16,_,_)] (fun q=>SfI l sc.length ⟨ps,sc,[]⟩ rs q.1 q.2.1 q.2.2) (fun q=>rs.length - q.1) (0,⟨ps,sc,[]⟩,List.replicate (ps++rs).length false) ?_ (by (exact plei)) ?_
  ·exact ⟨⟨Nat.zero_le _,rfl,hok,Nat.le_refl _⟩,by rw [List.length_replicate,hal0,hpl0],rfl,fun j _ hj=>by rw [List.getD_eq_getElem?_getD,List.getElem?_replicate,if_pos (by omega)];rfl,fun j hj hg=>by rw [List.getD_eq_getElem?_getD,List.getElem?_replicate,if_pos (by omega)] at hg;cases hg⟩
  rintro ⟨q,s,gone⟩ hI
  have hI:SfI l sc.length ⟨ps,sc,[]⟩ rs q s gone:=hI
  have hq:=hI.sh.le
  have hpl:s.ps.length=sc.length:=hI.sh.ok.ps.len
  have hscl:s.sc.length=sc.length:=hI.sh.ok.sc.1
  have hgl:=hI.len
  have hgl2:(List.map Zgv gone).length=gone.length:=List.length_map _
  have hbl:(List.map bodyC (s.ps++rs)).length=s.ps.length + rs.length:=by rw [List.length_map,List.length_append]
  have hal:(s.ps++rs).length=s.ps.length + rs.length:=List.length_append
  have hsl:=Zal s.sc
  refine pln ?_
  by_cases hqn:q < rs.length
  case neg =>
   obtain rfl:q=rs.length:=by omega
   repeat' (first|refine pa ?_|(refine pb ?_ ?_<;>intro hg)|refine po ?_|fail)
   exact .inl ⟨rfl,(s,gone),hI,by (exact ple)⟩
  have hg:(s.ps++rs).getD (sc.length + q) default=rs.getD q default:=ZdN hpl
  obtain ⟨hB,hB0⟩:=hrs.at hqn
  have hkeep:=fun s'=>hI.keep (s':=s') hqn hrs
  have hgone:=fun s'=>hI.gone (s':=s') hqn hrs
  rw [← hg] at hB hB0 hkeep hgone
  by_cases hk1:((s.ps++rs).getD (sc.length + q) default).kind=1
  case neg =>
   repeat' (first|refine pa ?_|(refine pb ?_ ?_<;>intro hg)|refine po ?_|fail)
   exact ⟨(q + 1,{ s with left:=s.left++[((s.ps++rs).getD (sc.length + q) default)] },gone),hkeep _ (sh_not hk1).symm rfl,by show rs.length - (q + 1) < rs.length - q;omega,by (exact ple)⟩
  have hpm:=ZgK l tick seed s.sc (s.ps++rs) s.ps ((s.ps++rs).getD (sc.length + q) default) ((s.ps++rs).getD (sc.length + q) default).owner (by omega) (hpl.trans hscl.symm) (by omega) (by omega) (fun k hk=>(Zbt (by omega)).symm) (fun k hk=>(hI.sh.ok.ps.ok k (by omega)).pos) hB.pos
  rcases ZhM s.ps ((s.ps++rs).getD (sc.length + q) default) ((s.ps++rs).getD (sc.length + q) default).owner with hme|⟨k,hme,hkl,hlife⟩
  ·rw [hme] at hpm
   repeat' (first|refine pa ?_|(refine pb ?_ ?_<;>intro hg)|(refine Zab (n:=20) ?_;(first|refine Zca (m:=[(0,_,_),(1,_,_),(2,_,_),(3,_,_)]) (hpm) ?_))|refine po ?_|fail)
   exact ⟨(q + 1,{ s with left:=s.left++[((s.ps++rs).getD (sc.length + q) default)] },gone),hkeep _ (Zo3 hk1 hme).symm rfl,by show rs.length - (q + 1) < rs.length - q;omega,by (exact ple)⟩
  rw [hme] at hpm
  have hkn:k < sc.length:=by omega
  have hP:(s.ps++rs).getD k default=s.ps.getD k default:=Zbt hkl
  have hPb:=hI.sh.ok.ps.ok k hkn
  have hP3:(s.ps.getD k default).life≤3:=by rcases hPb.life with e|e<;>omega
  rw [← hP] at hlife hP3
  have hset:∀ b:Bd,(List.map bodyC (s.ps++rs)).set k (bodyC b)=List.map bodyC (s.ps.set k b++rs):=fun b=>by rw [← Zde hkl,ZbC]
  obtain ⟨ow,how⟩:=Int.eq_ofNat_of_zero_le hB.owner.1
  have hown:ow < sc.length:=by have:=hB.owner.2;omega
  repeat' (first|(refine pth ?_)|((fail_if_success (with_reducible show aW _ _ _ (Code.seq (Code.seq (Code.region 12 _ _) _) _) _ _));(fail_if_success (with_reducible show aW _ _ _ (Code.seq (Code.region 12 _ _) _) _ _));(fail_if_success (with_reducible show aW _ _ _ (Code.region 12 _ _) _ _));(first|refine pc ?_|(refine pbc ?_ ?_<;>intro hg)))|(first|refine pl ?_|(refine pbl ?_ ?_<;>intro hg))|(first|(refine Zab (n:=20) ?_;(first|refine Zca (m:=[(0,_,_),(1,_,_),(2,_,_),(3,_,_)]) (hpm) ?_))|refine po ?_)|fail)
  obtain ⟨ps1,hps1⟩:∃ x,x=s.ps.set k { (s.ps++rs).getD k default with life:=((s.ps++rs).getD k default).life - 1 }:=⟨_,rfl⟩
  have hpl1:ps1.length=s.ps.length:=by rw [hps1,List.length_set]
  have e1:(ps1++rs).getD k default={ (s.ps++rs).getD k default with life:=((s.ps++rs).getD k default).life - 1 }:=by rw [Zbt (by omega),hps1,ZcG hkl,if_pos rfl]
  have hal1:(ps1++rs).length=s.ps.length + rs.length:=by rw [List.length_append,hpl1]
  have hbl1:(List.map bodyC (ps1++rs)).length=s.ps.length + rs.length:=by rw [List.length_map,List.length_append,hpl1]
  refine aW.reF rfl [] [(7,_),(6,_),(5,_),(4,_),(3,_),(2,_),(0,_)] [(3,0,.row true true 114 (List.map bodyC (ps1++rs))),(29,1,.row true true 4 (List.map Zgv (gone.set (sc.length + q) true)))] [(0,_,_),(1,_,_),(2,_,_),(6,_,_),(16,_,_)] (by rw [hps1,← hset,Zke];(exact plei)) ?_
  refine pln ?_
  by_cases hz:((ps1++rs).getD k default).life=0
  case neg =>
   repeat' (first|refine pa ?_|(refine pb ?_ ?_<;>intro hg)|refine po ?_|fail)
   have hz':(s.ps.getD k default).life - 1 ≠ 0:=by rw [e1,hP] at hz;exact hz
   refine ⟨(q + 1,⟨ps1,s.sc,s.left⟩,gone.set (sc.length + q) true),hgone _ ?_ rfl hk1,by show rs.length - (q + 1) < rs.length - q;omega,by (exact ple)⟩
   rw [Zo2 hk1 hme hz',hps1,hP]
  have has:=ZgL l tick seed s.sc (ps1++rs) ow (by omega) (by omega) (hI.sh.ok.sc.2 ow hown)
  rw [← how] at has
  repeat' (first|(refine pth ?_)|((fail_if_success (with_reducible show aW _ _ _ (Code.seq (Code.seq (Code.region 15 _ _) _) _) _ _));(fail_if_success (with_reducible show aW _ _ _ (Code.seq (Code.region 15 _ _) _) _ _));(fail_if_success (with_reducible show aW _ _ _ (Code.region 15 _ _) _ _));(first|refine pc ?_|(refine pbc ?_ ?_<;>intro hg)))|(first|refine pl ?_|(refine pbl ?_ ?_<;>intro hg))|(first|(refine Zab (n:=20) ?_;(first|refine Zca (m:=[(0,_,_),(1,_,_),(2,_,_),(3,_,_)]) (has) ?_))|refine po ?_)|fail)
  obtain ⟨ps2,hps2⟩:∃ x,x=ps1.set k { (ps1++rs).getD k default with vx:=0 }:=⟨_,rfl⟩
  have hpl2:ps2.length=s.ps.length:=by rw [hps2,List.length_set,hpl1]
  have e2:(ps2++rs).getD k default={ (ps1++rs).getD k default with vx:=0 }:=by rw [Zbt (by omega),hps2,ZcG (by omega),if_pos rfl]
  have hal2:(ps2++rs).length=s.ps.length + rs.length:=by rw [List.length_append,hpl2]
  have hbl2:(List.map bodyC (ps2++rs)).length=s.ps.length + rs.length:=by rw [List.length_map,List.length_append,hpl2]
  have hset1:∀ b:Bd,(List.map bodyC (ps1++rs)).set k (bodyC b)=List.map bodyC (ps1.set k b++rs):=fun b=>by rw [← Zde (by omega),ZbC]
  refine aW.reF rfl [] [(7,_),(6,_),(5,_),(4,_),(3,_),(2,_),(0,_)] [(3,0,.row true true 114 (List.map bodyC (ps2++rs)))] [(0,_,_),(1,_,_),(2,_,_),(6,_,_),(16,_,_),(29,_,_)] (by rw [hps2,← hset1];(exact plei)) ?_
  refine pln ?_
  repeat' (first|(refine pth ?_)|((fail_if_success (with_reducible show aW _ _ _ (Code.seq (Code.seq (Code.region 16 _ _) _) _) _ _));(fail_if_success (with_reducible show aW _ _ _ (Code.seq (Code.region 16 _ _) _) _ _));(fail_if_success (with_reducible show aW _ _ _ (Code.region 16 _ _) _ _));(first|refine pc ?_|(refine pbc ?_ ?_<;>intro hg)))|(first|refine pl ?_|(refine pbl ?_ ?_<;>intro hg))|(first|refine po ?_)|fail)
  obtain ⟨ps3,hps3⟩:∃ x,x=ps2.set k { (ps2++rs).getD k default with vy:=0 }:=⟨_,rfl⟩
  have hpl3:ps3.length=s.ps.length:=by rw [hps3,List.length_set,hpl2]
  have e3:(ps3++rs).getD k default={ (ps2++rs).getD k default with vy:=0 }:=by rw [Zbt (by omega),hps3,ZcG (by omega),if_pos rfl]
  have hal3:(ps3++rs).length=s.ps.length + rs.length:=by rw [List.length_append,hpl3]
  have hbl3:(List.map bodyC (ps3++rs)).length=s.ps.length + rs.length:=by rw [List.length_map,List.length_append,hpl3]
  have hset2:∀ b:Bd,(List.map bodyC (ps2++rs)).set k (bodyC b)=List.map bodyC (ps2.set k b++rs):=fun b=>by rw [← Zde (by omega),ZbC]
  refine aW.reF rfl [] [(7,_),(6,_),(5,_),(4,_),(3,_),(2,_),(0,_)] [(3,0,.row true true 114 (List.map bodyC (ps3++rs)))] [(0,_,_),(1,_,_),(2,_,_),(6,_,_),(16,_,_),(29,_,_)] (by rw [hps3,← hset2];(exact plei)) ?_
  refine pln ?_
  have hset3:∀ b:Bd,(List.map bodyC (ps3++rs)).set k (bodyC b)=List.map bodyC (ps3.set k b++rs):=fun b=>by rw [← Zde (by omega),ZbC]
  repeat' (first|refine pa ?_|(refine pb ?_ ?_<;>intro hg)|refine po ?_|fail)
  have hz':(s.ps.getD k default).life - 1=0:=by rw [e1,hP] at hz;exact hz
  refine ⟨(q + 1,⟨ps3.set k { (ps3++rs).getD k default with timer:=20 },Zdj s.sc ow,s.left⟩,gone.set (sc.length + q) true),hgone _ ?_ rfl hk1,by show rs.length - (q + 1) < rs.length - q;omega,by rw [← hset3];(exact ple)⟩
  rw [Zo1 hk1 hme hz' how,e3,e2,e1,hP,hps3,List.set_set,hps2,List.set_set,hps1,List.set_set,hz']
 rintro ⟨s,g0⟩ hS
 have hS:SfI l sc.length ⟨ps,sc,[]⟩ rs rs.length s g0:=hS
 have hsA:=hS.sh.eq
 rw [List.take_length] at hsA
 rw [← hsA]
 have hpl:s.ps.length=sc.length:=hS.sh.ok.ps.len
 have hscl0:s.sc.length=sc.length:=hS.sh.ok.sc.1
 have hgl0:=hS.len
 have hleft:=hS.left
 have hll:=hS.sh.len
 have hbl:(List.map bodyC (s.ps++rs)).length=s.ps.length + rs.length:=by rw [List.length_map,List.length_append]
 have hal:(s.ps++rs).length=s.ps.length + rs.length:=List.length_append
 refine pln ?_
 repeat' (first|refine pa ?_|(refine pb ?_ ?_<;>intro hg)|refine po ?_|fail)
 refine aW.joinF rfl (fun z:Hs×List Bool=>[]) [(4,_),(3,_),(2,_),(0,_)] (fun z:Hs×List Bool=>[(2,0,.row true true 3 (Zak z.1.sc)),(29,1,.row true true 4 (List.map Zgv z.2))]) [(0,_,_),(1,_,_),(3,_,_),(16,_,_)] (fun z:Hs×List Bool=>IfI l sc.length ⟨s.ps,s.sc,[]⟩ rs g0 rs.length z.1 z.2) (⟨s.ps,s.sc,[]⟩,g0) (by (exact plei)) ?_ ?_
 ·refine aW.loopF rfl (fun q:Nat×Hs×List Bool=>[(8,.t (.int .i64 ((sc.length + q.1:Nat):Int)))]) [(4,_),(3,_),(2,_),(0,_)] (fun q=>[(2,0,.row true true 3 (Zak q.2.1.sc)),(29,1,.row true true 4 (List.map Zgv q.2.2))]) [(0,_,_),(1,_,_),(3,_,_),(16,_,_)] (fun q=>IfI l sc.length ⟨s.ps,s.sc,[]⟩ rs g0 q.1 q.2.1 q.2.2) (fun q=>rs.length - q.1) (0,⟨s.ps,s.sc,[]⟩,g0) ⟨Nat.zero_le _,rfl,⟨hS.sh.ok.ps,hS.sh.ok.sc,RsOk.nil⟩,hgl0,rfl,fun _ _ _=>rfl⟩ (by (exact plei)) ?_
  rintro ⟨q,t,gone⟩ hI
  have hI:IfI l sc.length ⟨s.ps,s.sc,[]⟩ rs g0 q t gone:=hI
  have hq:=hI.le
  have htp:t.ps=s.ps:=by rw [hI.eq,Zf1]
  have hscl:t.sc.length=sc.length:=hI.ok.sc.1
  have hgl:=hI.len
  have hgl2:(List.map Zgv gone).length=gone.length:=List.length_map _
  have hsl:=Zal t.sc
  refine pln ?_
  by_cases hqn:q < rs.length
  case neg =>
   obtain rfl:q=rs.length:=by omega
   repeat' (first|refine pa ?_|(refine pb ?_ ?_<;>intro hg)|refine po ?_|fail)
   exact .inl ⟨rfl,(t,gone),hI,by (exact ple)⟩
  have hg:(s.ps++rs).getD (sc.length + q) default=rs.getD q default:=ZdN hpl
  obtain ⟨hB,hB0⟩:=hrs.at hqn
  have hskip:=hI.skip hqn
  have hkeep:=fun s'=>hI.keep (s':=s') hqn hrs
  have hgone:=fun s'=>hI.gone (s':=s') hqn hrs
  have hshot:=hS.shot q hqn
  rw [← hg] at hB hB0 hkeep hgone hshot
  by_cases hk2:((s.ps++rs).getD (sc.length + q) default).kind=2
  case neg =>
   repeat' (first|refine pa ?_|(refine pb ?_ ?_<;>intro hg)|refine po ?_|fail)
   cases hgq:g0.getD (sc.length + q) default with
   | true=>exact ⟨(q + 1,t,gone),hskip hgq,by show rs.length - (q + 1) < rs.length - q;omega,by (exact ple)⟩
   | false=>exact ⟨(q + 1,{ t with left:=t.left++[((s.ps++rs).getD (sc.length + q) default)] },gone),hkeep _ hgq (ZmH (.inl hk2)).symm rfl,by show rs.length - (q + 1) < rs.length - q;omega,by (exact ple)⟩
  have hgq:g0.getD (sc.length + q) default=false:=by
   cases hx:g0.getD (sc.length + q) default with
   | true=>have:=hshot hx;omega
   | false=>rfl
  have hpm:=ZgK l tick seed t.sc (s.ps++rs) s.ps ((s.ps++rs).getD (sc.length + q) default) (-1) (by omega) (hpl.trans hscl.symm) (by omega) (by omega) (fun k hk=>(Zbt (by omega)).symm) (fun k hk=>(hS.sh.ok.ps.ok k (by omega)).pos) hB.pos
  rcases ZhM s.ps ((s.ps++rs).getD (sc.length + q) default) (-1) with hme|⟨k,hme,hkl,hlife⟩
  ·rw [hme] at hpm
   repeat' (first|refine pa ?_|(refine pb ?_ ?_<;>intro hg)|(refine Zab (n:=20) ?_;(first|refine Zca (m:=[(0,_,_),(1,_,_),(2,_,_),(3,_,_)]) (hpm) ?_))|refine po ?_|fail)
   exact ⟨(q + 1,{ t with left:=t.left++[((s.ps++rs).getD (sc.length + q) default)] },gone),hkeep _ hgq (ZmH (.inr (by rw [htp];exact hme))).symm rfl,by show rs.length - (q + 1) < rs.length - q;omega,by (exact ple)⟩
  ·rw [hme] at hpm
   have has:=ZgL l tick seed t.sc (s.ps++rs) k (by omega) (by omega) (hI.ok.sc.2 k (by omega))
   repeat' (first|refine pa ?_|(refine pb ?_ ?_<;>intro hg)|(refine Zab (n:=20) ?_;(first|refine Zca (m:=[(0,_,_),(1,_,_),(2,_,_),(3,_,_)]) (hpm) ?_|refine Zca (m:=[(0,_,_),(1,_,_),(2,_,_),(3,_,_)]) (has) ?_))|refine po ?_|fail)
   exact ⟨(q + 1,{ t with sc:=Zdj t.sc k },gone.set (sc.length + q) true),hgone _ hgq (it_yes hk2 (by rw [htp];exact hme)).symm rfl,by show rs.length - (q + 1) < rs.length - q;omega,by rw [Zke];(exact ple)⟩
 rintro ⟨t,gone⟩ hT
 have hT:IfI l sc.length ⟨s.ps,s.sc,[]⟩ rs g0 rs.length t gone:=hT
 have htA:ZdS ⟨s.ps,s.sc,[]⟩ s.left=t:=by rw [hleft];exact hT.eq.symm
 rw [htA]
 have hgl:=hT.len
 have hgl2:(List.map Zgv gone).length=gone.length:=List.length_map _
 have hbp:(List.map bodyC ps).length=ps.length:=List.length_map _
 have hpos:0 < Int.toNat (sc.length:Int) - Int.toNat 0:=by omega
 refine pln ?_
 repeat' (first|(refine pth ?_)|((fail_if_success (with_reducible show aW _ _ _ (Code.seq (Code.seq (Code.region 26 _ _) _) _) _ _));(fail_if_success (with_reducible show aW _ _ _ (Code.seq (Code.region 26 _ _) _) _ _));(fail_if_success (with_reducible show aW _ _ _ (Code.region 26 _ _) _ _));(first|refine pc ?_|(refine pbc ?_ ?_<;>intro hg)))|(first|refine pl ?_|(refine pbl ?_ ?_<;>intro hg))|(first|(refine Zab (n:=20) ?_;(first|refine OpS.copy_view rfl rfl rfl rfl (Tryz.ti rfl) rfl (Tryz.ti rfl) rfl rfl rfl rfl rfl rfl (by first|assumption|omega|(simp;omega)) (by first|assumption|omega|(simp;omega)) (by first|assumption|omega|(simp;omega)) (by first|exact Zjt _ _ _ _|rfl) ?_))|refine po ?_)|fail)
 refine aW.reF rfl [] [(4,_),(3,_),(2,_),(0,_)] [(16,2,.row true true 114 (List.map bodyC (s.ps++Zck gone sc.length rs 0)))] [(0,_,_),(1,_,_),(2,_,_),(3,_,_),(29,_,_)] (by rw [ZoG,List.append_nil,← ZpH (rs:=rs) hpl];(exact plei)) ?_
 refine pln ?_
 repeat' (first|refine pa ?_|(refine pb ?_ ?_<;>intro hg)|refine po ?_|fail)
 refine aW.loopF rfl (fun q:Nat×Nat=>[(10,.t (.int .i64 ((sc.length + q.1:Nat):Int))),(3,.hnd 16 (q.2 + 2))]) [(4,_),(2,_),(0,_)] (fun q=>[(16,q.2 + 2,.row true true 114 (List.map bodyC (s.ps++Zck gone sc.length rs q.1)))]) [(0,_,_),(1,_,_),(2,_,_),(3,_,_),(29,_,_)] (fun q=>q.1≤rs.length) (fun q=>rs.length - q.1) (0,0) (Nat.zero_le _) (by (exact plei)) ?_
 rintro ⟨q,e⟩ hq
 have hq:q≤rs.length:=hq
 have hkl:=ZpU gone sc.length rs q
 have hel:(List.map bodyC (s.ps++Zck gone sc.length rs q)).length=s.ps.length + (Zck gone sc.length rs q).length:=by rw [List.length_map,List.length_append]
 have hel2:(s.ps++Zck gone sc.length rs q).length=s.ps.length + (Zck gone sc.length rs q).length:=List.length_append
 refine pln ?_
 by_cases hqn:q < rs.length
 ·have hg:(s.ps++rs).getD (sc.length + q) default=rs.getD q default:=ZdN hpl
  cases hx:gone.getD (sc.length + q) default with
  | true =>
   repeat' (first|refine pa ?_|(refine pb ?_ ?_<;>intro hg)|refine po ?_|fail)
   exact ⟨(q + 1,e),hqn,by show rs.length - (q + 1) < rs.length - q;omega,by rw [Zfy hx];(exact ple)⟩
  | false =>
   repeat' (first|refine pa ?_|(refine pb ?_ ?_<;>intro hg)|refine ZaX ?_|refine po ?_|fail)
   exact ⟨(q + 1,e + 1),hqn,by show rs.length - (q + 1) < rs.length - q;omega,by rw [Zd8 hx,← List.append_assoc,ZbK,← hg];(exact ple)⟩
 ·obtain rfl:q=rs.length:=by omega
  rw [hT.left]
  repeat' (first|refine pa ?_|(refine pb ?_ ?_<;>intro hg)|refine po ?_|fail)
  refine ⟨e + 1,trivial,?_⟩
  (show Zbu _ _ _ _ _ _ _;refine Zbu.intro (by exact pU12) (vs:=[]) rfl rfl rfl (by exact pU3) rfl rfl (.inr ⟨rfl,True.intro,List.nodup_nil,rfl⟩))
end Go.Proofs.YthfaongbpdnlnaaGreat
