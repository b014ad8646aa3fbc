/- What is proved: contracts on bodies that meet, are fired and move, program and reference alike.
   Conditions: the bodies are valid. -/
import Derived.Test.YthfaongbpdnlnaaGreatT3
namespace Go.Proofs.YthfaongbpdnlnaaGreat
set_option maxHeartbeats 4000000
set_option maxRecDepth 20000
set_option linter.unusedSimpArgs false
set_option linter.unusedVariables false
open Go.RowKit Ab
structure Zhd (b:Bd):Prop where
 kind:0≤b.kind∧b.kind≤2
 x:0≤b.x∧b.x≤1000
 y:0≤b.y∧b.y≤1000
theorem ZbF.pos {l:Lv} {n:Int} {b:Bd} (h:ZbF l n b):Zhd b:=by
 have hi:=Zef h.free
 exact ⟨h.kind,⟨hi.1,hi.2.1⟩,hi.2.2⟩
theorem Zie (a b:Bd) (ha:Zhd a) (hb:Zhd b):AC Tryz.prog 250 [.agg [.t (.int .i64 a.kind),.t (.int .i64 a.owner),.t (.int .i64 a.x),.t (.int .i64 a.y),.t (.int .i64 a.vx),.t (.int .i64 a.vy),.t (.int .i64 a.aim),.t (.int .i64 a.life),.t (.int .i64 a.timer)],.agg [.t (.int .i64 b.kind),.t (.int .i64 b.owner),.t (.int .i64 b.x),.t (.int .i64 b.y),.t (.int .i64 b.vx),.t (.int .i64 b.vy),.t (.int .i64 b.aim),.t (.int .i64 b.life),.t (.int .i64 b.timer)]] (.t (.bool (Zl7 a b))):=by
 obtain ⟨k1,x1,y1⟩:=ha
 obtain ⟨k2,x2,y2⟩:=hb
 have s1:=ZbE k1;have s2:=ZbE k2
 have z1:=Zci a.kind;have z2:=Zci b.kind
 refine AC.go Tryz.func250 Tryz.ntmps250 fun B W hr=>?_
 repeat' (first|refine pa ?_|(refine pb ?_ ?_<;>intro hg)|(refine pz9 ?_;(first|refine Zaa z1 ?_|refine Zaa z2 ?_))|refine po ?_|fail)
 refine aW.loopF rfl (fun q:Nat=>[(31,.t (.int .i64 (q:Nat))),(30,.t (.int .i64 ((4:Nat):Int)))]) [(29,_),(6,_),(5,_),(3,_),(2,_)] (fun q=>[]) [(29,_,_),(3,_,_),(2,_,_)] (fun q=>q≤4) (fun q=>4 - q) 0 (Nat.zero_le _) (by (exact plei)) ?_
 intro q hq
 refine pln ?_
 have l0:0 < ([[T.int .i64 a.x],[T.int .i64 a.y],[T.int .i64 b.x],[T.int .i64 b.y]]:List (List T)).length:=by show (0:Nat) < 4;omega
 have l1:1 < ([[T.int .i64 a.x],[T.int .i64 a.y],[T.int .i64 b.x],[T.int .i64 b.y]]:List (List T)).length:=by show (1:Nat) < 4;omega
 have l2:2 < ([[T.int .i64 a.x],[T.int .i64 a.y],[T.int .i64 b.x],[T.int .i64 b.y]]:List (List T)).length:=by show (2:Nat) < 4;omega
 have l3:3 < ([[T.int .i64 a.x],[T.int .i64 a.y],[T.int .i64 b.x],[T.int .i64 b.y]]:List (List T)).length:=by show (3:Nat) < 4;omega
 rcases (show q=0∨q=1∨q=2∨q=3∨q=4 by omega) with rfl|rfl|rfl|rfl|rfl
 ·repeat' (first|refine pa ?_|(refine pb ?_ ?_<;>intro hg)|refine po ?_|fail)
  exact ⟨1,by omega,by omega,by (exact ple)⟩
 ·repeat' (first|refine pa ?_|(refine pb ?_ ?_<;>intro hg)|refine po ?_|fail)
  exact ⟨2,by omega,by omega,by (exact ple)⟩
 ·repeat' (first|refine pa ?_|(refine pb ?_ ?_<;>intro hg)|refine po ?_|fail)
  exact ⟨3,by omega,by omega,by (exact ple)⟩
 ·repeat' (first|refine pa ?_|(refine pb ?_ ?_<;>intro hg)|refine po ?_|fail)
  exact ⟨4,by omega,by omega,by (exact ple)⟩
 ·repeat' (first|refine pa ?_|(refine pb ?_ ?_<;>intro hg)|refine po ?_|fail)
  all_goals refine pfin ?_
  all_goals exact .inl (congrArg T.bool (by unfold Zl7;rw [Bool.eq_iff_iff];simp only [decide_eq_true_eq,Bool.false_eq_true,false_iff];omega))
theorem Zin (a b:Bd) (ha:Zhd a) (hb:Zhd b):AC Tryz.prog 245 [.agg [.t (.int .i64 a.kind),.t (.int .i64 a.owner),.t (.int .i64 a.x),.t (.int .i64 a.y),.t (.int .i64 a.vx),.t (.int .i64 a.vy),.t (.int .i64 a.aim),.t (.int .i64 a.life),.t (.int .i64 a.timer)],.agg [.t (.int .i64 b.kind),.t (.int .i64 b.owner),.t (.int .i64 b.x),.t (.int .i64 b.y),.t (.int .i64 b.vx),.t (.int .i64 b.vy),.t (.int .i64 b.aim),.t (.int .i64 b.life),.t (.int .i64 b.timer)]] (.t (.bool (Zl7 a b))):=by
 obtain ⟨k1,x1,y1⟩:=ha
 obtain ⟨k2,x2,y2⟩:=hb
 have s1:=ZbE k1;have s2:=ZbE k2
 have z1:=ZdL a.kind;have z2:=ZdL b.kind
 have i1:=Zae.2 x1;have i2:=Zae.2 y1;have i3:=Zae.2 x2;have i4:=Zae.2 y2
 refine AC.go Tryz.func245 Tryz.ntmps245 fun B W hr=>?_
 repeat' (first|refine pa ?_|(refine pb ?_ ?_<;>intro hg)|(refine pz9 ?_;(first|refine Zaa z1 ?_|refine Zaa z2 ?_|refine Zaa (Zah _ _ _) ?_))|refine po ?_|fail)
 all_goals refine pfin ?_
 all_goals exact .inl (congrArg T.bool (by unfold Zl7;rw [Bool.eq_iff_iff];simp only [decide_eq_true_eq,Bool.false_eq_true,false_iff];omega))
theorem Zns (b:Bd) (hb:Zhd b) (ha:b.aim=1∨b.aim=-1):AC Tryz.prog 241 [.agg [.t (.int .i64 b.kind),.t (.int .i64 b.owner),.t (.int .i64 b.x),.t (.int .i64 b.y),.t (.int .i64 b.vx),.t (.int .i64 b.vy),.t (.int .i64 b.aim),.t (.int .i64 b.life),.t (.int .i64 b.timer)]] (.agg [.t (.int .i64 (Zcn b).kind),.t (.int .i64 (Zcn b).owner),.t (.int .i64 (Zcn b).x),.t (.int .i64 (Zcn b).y),.t (.int .i64 (Zcn b).vx),.t (.int .i64 (Zcn b).vy),.t (.int .i64 (Zcn b).aim),.t (.int .i64 (Zcn b).life),.t (.int .i64 (Zcn b).timer)]):=by
 obtain ⟨k1,x1,y1⟩:=hb
 have i1:=Zae.2 x1;have i2:=Zae.2 y1;have i3:=Zae.2 (show -1≤b.aim∧b.aim≤1 by omega)
 rw [show Zcn b=⟨1,b.owner,b.x + 4,b.y + 4,6 * b.aim,0,0,0,25⟩ by unfold Zcn;rw [if_pos ⟨x1,y1,by omega⟩]]
 refine AC.go Tryz.func241 Tryz.ntmps241 fun B W hr=>?_
 repeat' (first|refine pa ?_|(refine pb ?_ ?_<;>intro hg)|(refine pz9 ?_;(first|refine Zaa (Zaq _ _ _) ?_))|refine po ?_|fail)
 exact pfg
theorem Znz (b:Bd) (hb:Zhd b) (ha:b.aim=1∨b.aim=-1):AC Tryz.prog 163 [.agg [.t (.int .i64 b.kind),.t (.int .i64 b.owner),.t (.int .i64 b.x),.t (.int .i64 b.y),.t (.int .i64 b.vx),.t (.int .i64 b.vy),.t (.int .i64 b.aim),.t (.int .i64 b.life),.t (.int .i64 b.timer)]] (.agg [.t (.int .i64 (Zcn b).kind),.t (.int .i64 (Zcn b).owner),.t (.int .i64 (Zcn b).x),.t (.int .i64 (Zcn b).y),.t (.int .i64 (Zcn b).vx),.t (.int .i64 (Zcn b).vy),.t (.int .i64 (Zcn b).aim),.t (.int .i64 (Zcn b).life),.t (.int .i64 (Zcn b).timer)]):=by
 obtain ⟨k1,x1,y1⟩:=hb
 have i1:=Zae.2 x1;have i2:=Zae.2 y1;have i3:=Zae.2 (show -1≤b.aim∧b.aim≤1 by omega)
 rw [show Zcn b=⟨1,b.owner,b.x + 4,b.y + 4,6 * b.aim,0,0,0,25⟩ by unfold Zcn;rw [if_pos ⟨x1,y1,by omega⟩]]
 refine AC.go Tryz.func163 Tryz.ntmps163 fun B W hr=>?_
 repeat' (first|refine pa ?_|(refine pb ?_ ?_<;>intro hg)|(refine pz9 ?_;(first|refine Zaa (Zah _ _ _) ?_))|refine po ?_|fail)
 exact pfg
theorem ZfO (v:Int) (h:-15≤v∧v≤15):AC Tryz.prog 249 [.t (.int .i64 v)] (.tup [.t (.int .i64 (sgnV v)),.t (.int .i64 (v.natAbs:Int))]):=by
 by_cases h0:v < 0
 ·rw [show sgnV v=-1 from if_pos h0,show (v.natAbs:Int)=IntKind.i64.wrap (0 - v) by rw [wrap_i64 (by omega)];omega]
  refine AC.go Tryz.func249 Tryz.ntmps249 fun B W hr=>?_
  repeat' (first|refine pa ?_|(refine pb ?_ ?_<;>intro hg)|refine po ?_|fail)
  exact pfg
 ·rw [show sgnV v=1 from if_neg h0,show (v.natAbs:Int)=v by omega]
  refine AC.go Tryz.func249 Tryz.ntmps249 fun B W hr=>?_
  repeat' (first|refine pa ?_|(refine pb ?_ ?_<;>intro hg)|refine po ?_|fail)
  exact pfg
theorem Zo0 (v:Int):-1≤sgnV v∧sgnV v≤1:=by unfold sgnV;split<;>omega
structure MvX (l:Lv) (s step:Int) (n:Nat) (b:Bd) (k:Nat) (b1:Bd):Prop where
 le:k≤n
 eq:ZbW l s step n b=ZbW l s step (n - k) b1
 free:ZaG l b1.x b1.y s=false
structure MvY (l:Lv) (s step:Int) (n:Nat) (b:Bd) (k:Nat) (b1:Bd):Prop where
 le:k≤n
 eq:ZbH l s step n b=ZbH l s step (n - k) b1
 free:ZaG l b1.x b1.y s=false
section
variable {l:Lv} {s step:Int} {n k:Nat} {b b1:Bd}
theorem MvX.start (h:ZaG l b.x b.y s=false):MvX l s step n b 0 b:=⟨Nat.zero_le _,rfl,h⟩
theorem MvY.start (h:ZaG l b.x b.y s=false):MvY l s step n b 0 b:=⟨Nat.zero_le _,rfl,h⟩
theorem MvX.next (h:MvX l s step n b k b1) (hk:k < n) (hf:ZaG l (b1.x + step) b1.y s=false):MvX l s step n b (k + 1) { b1 with x:=b1.x + step }:=by
 refine ⟨hk,?_,hf⟩
 rw [h.eq,show n - k=(n - (k + 1)) + 1 by omega,ZbW,hf]
 rfl
theorem MvY.next (h:MvY l s step n b k b1) (hk:k < n) (hf:ZaG l b1.x (b1.y + step) s=false):MvY l s step n b (k + 1) { b1 with y:=b1.y + step }:=by
 refine ⟨hk,?_,hf⟩
 rw [h.eq,show n - k=(n - (k + 1)) + 1 by omega,ZbH,hf]
 rfl
theorem MvX.stop (h:MvX l s step n b k b1) (hk:k < n) (hf:ZaG l (b1.x + step) b1.y s=true):ZbW l s step n b=({ b1 with vx:=0 },true):=by
 rw [h.eq,show n - k=(n - (k + 1)) + 1 by omega,ZbW,if_pos hf]
theorem MvY.stop (h:MvY l s step n b k b1) (hk:k < n) (hf:ZaG l b1.x (b1.y + step) s=true):ZbH l s step n b=({ b1 with vy:=0 },true):=by
 rw [h.eq,show n - k=(n - (k + 1)) + 1 by omega,ZbH,if_pos hf]
theorem MvX.done (h:MvX l s step n b n b1):ZbW l s step n b=(b1,false):=by rw [h.eq,Nat.sub_self];rfl
theorem MvY.done (h:MvY l s step n b n b1):ZbH l s step n b=(b1,false):=by rw [h.eq,Nat.sub_self];rfl
end
theorem ZjS (l:Lv) (b:Bd) (hl:ZaZ l) (hk:0≤b.kind∧b.kind≤2) (hf:ZaG l b.x b.y (Zas b.kind)=false) (hx:-15≤b.vx∧b.vx≤15) (hy:-15≤b.vy∧b.vy≤15):AC Tryz.prog 242 [.agg [.t (.lst true 9 (Zai l))],.agg [.t (.int .i64 b.kind),.t (.int .i64 b.owner),.t (.int .i64 b.x),.t (.int .i64 b.y),.t (.int .i64 b.vx),.t (.int .i64 b.vy),.t (.int .i64 b.aim),.t (.int .i64 b.life),.t (.int .i64 b.timer)]] (.tup [.agg [.t (.int .i64 (Zbd l b).1.kind),.t (.int .i64 (Zbd l b).1.owner),.t (.int .i64 (Zbd l b).1.x),.t (.int .i64 (Zbd l b).1.y),.t (.int .i64 (Zbd l b).1.vx),.t (.int .i64 (Zbd l b).1.vy),.t (.int .i64 (Zbd l b).1.aim),.t (.int .i64 (Zbd l b).1.life),.t (.int .i64 (Zbd l b).1.timer)],.t (.bool (Zbd l b).2)]):=by
 have hs:=ZbE hk
 have z1:=Zci b.kind
 have hso:AC Tryz.prog 222 [.agg [.t (.lst true 9 (Zai l))],.t (.int .i64 b.x),.t (.int .i64 b.y),.t (.int .i64 (Zas b.kind))] (.t (.bool false)):=by
  have h:=ZcC l b.x b.y (Zas b.kind)
  rwa [show ZbU l b.x b.y (Zas b.kind)=false by unfold ZbU;rw [ZaU.2 hl,Zae.2 hs,hf];rfl] at h
 have i1:=Zae.2 hx;have i2:=Zae.2 hy
 have hd1:=ZfO b.vx hx
 have hsg1:=Zo0 b.vx
 generalize hst1:sgnV b.vx=st1 at hd1 hsg1
 generalize hsz:Zas b.kind=sz at hs z1 hso hf
 refine AC.go Tryz.func242 Tryz.ntmps242 fun B W hr=>?_
 repeat' (first|refine pa ?_|(refine pb ?_ ?_<;>intro hg)|(refine pz9 ?_;(first|refine Zaa z1 ?_|refine Zaa hso ?_|refine Zaa (Zaq _ _ _) ?_|refine Zaa hd1 ?_))|refine po ?_|fail)
 refine aW.joinF rfl (fun z:Bd×Bool=>[(7,.t (.bool z.2))]) [(6,_),(2,_),(3,_),(4,_)] (fun z:Bd×Bool=>[(3,1,.box 114 [.t (.int .i64 z.1.kind),.t (.int .i64 z.1.owner),.t (.int .i64 z.1.x),.t (.int .i64 z.1.y),.t (.int .i64 z.1.vx),.t (.int .i64 z.1.vy),.t (.int .i64 z.1.aim),.t (.int .i64 z.1.life),.t (.int .i64 z.1.timer)])]) [(2,_,_),(4,_,_)] (fun z:Bd×Bool=>z=ZbW l sz st1 b.vx.natAbs b) (b,false) (by (exact plei)) ?_ ?_
 ·refine aW.loopF rfl (fun q:Nat×Bd=>[(10,.t (.int .i64 (q.1:Nat)))]) [(9,_),(8,_),(7,_),(6,_),(4,_),(3,_),(2,_)] (fun q=>[(3,1,.box 114 [.t (.int .i64 q.2.kind),.t (.int .i64 q.2.owner),.t (.int .i64 q.2.x),.t (.int .i64 q.2.y),.t (.int .i64 q.2.vx),.t (.int .i64 q.2.vy),.t (.int .i64 q.2.aim),.t (.int .i64 q.2.life),.t (.int .i64 q.2.timer)])]) [(2,_,_),(4,_,_)] (fun q=>MvX l sz st1 b.vx.natAbs b q.1 q.2) (fun q=>b.vx.natAbs - q.1) (0,b) (MvX.start hf) (by (exact plei)) ?_
  rintro ⟨k,b1⟩ hI
  have hI:MvX l sz st1 b.vx.natAbs b k b1:=hI
  have hkn:=hI.le
  have hin:=Zef hI.free
  refine pln ?_
  have hsl:=Zhl l (b1.x + st1) b1.y sz hl hs
  by_cases hkl:k < b.vx.natAbs
  ·cases hv:ZaG l (b1.x + st1) b1.y sz with
   | true =>
    rw [hv] at hsl
    repeat' (first|refine pa ?_|(refine pb ?_ ?_<;>intro hg)|(refine pz9 ?_;(first|refine Zaa hsl ?_))|refine po ?_|fail)
    exact .inl ⟨rfl,({ b1 with vx:=0 },true),(hI.stop hkl hv).symm,by (exact ple)⟩
   | false =>
    rw [hv] at hsl
    repeat' (first|refine pa ?_|(refine pb ?_ ?_<;>intro hg)|(refine pz9 ?_;(first|refine Zaa hsl ?_))|refine po ?_|fail)
    exact ⟨(k + 1,{ b1 with x:=b1.x + st1 }),hI.next hkl hv,by show b.vx.natAbs - (k + 1) < b.vx.natAbs - k;omega,by (exact ple)⟩
  ·obtain rfl:k=b.vx.natAbs:=by omega
   repeat' (first|refine pa ?_|(refine pb ?_ ?_<;>intro hg)|(refine pz9 ?_;(first|refine Zaa hsl ?_))|refine po ?_|fail)
   exact .inl ⟨rfl,(b1,false),hI.done.symm,by (exact ple)⟩
 rintro ⟨c,sx⟩ hz
 have hz:(c,sx)=ZbW l sz st1 b.vx.natAbs b:=hz
 obtain ⟨r1,r2,r3,r4,r5,r6,r7,r8⟩:=Ze2 (l:=l) (s:=sz) (step:=st1) (n:=b.vx.natAbs) (b:=b)
 have hcf:=Ze1 (l:=l) (s:=sz) (step:=st1) (n:=b.vx.natAbs) (b:=b) hf
 rw [← hz] at r1 r2 r3 r4 r5 r6 r7 r8 hcf
 have hcy:-15≤c.vy∧c.vy≤15:=by have:c.vy=b.vy:=r4;omega
 have hd2:=ZfO c.vy hcy
 have hsg2:=Zo0 c.vy
 have hM:Zbd l b=((ZbH l sz (sgnV c.vy) c.vy.natAbs c).1,sx || (ZbH l sz (sgnV c.vy) c.vy.natAbs c).2):=by
  unfold Zbd
  rw [hsz,hst1,← hz]
 rw [hM]
 clear hM r1 r2 r3 r4 r5 r6 r7 r8
 generalize sgnV c.vy=st2 at hd2 hsg2 ⊢
 have hcf:ZaG l c.x c.y sz=false:=hcf
 refine pln ?_
 repeat' (first|refine pa ?_|(refine pb ?_ ?_<;>intro hg)|(refine pz9 ?_;(first|refine Zaa hd2 ?_))|refine po ?_|fail)
 refine aW.joinF rfl (fun z:Bd×Bool=>[(7,.t (.bool z.2))]) [(6,_),(2,_),(3,_),(4,_)] (fun z:Bd×Bool=>[(3,1,.box 114 [.t (.int .i64 z.1.kind),.t (.int .i64 z.1.owner),.t (.int .i64 z.1.x),.t (.int .i64 z.1.y),.t (.int .i64 z.1.vx),.t (.int .i64 z.1.vy),.t (.int .i64 z.1.aim),.t (.int .i64 z.1.life),.t (.int .i64 z.1.timer)])]) [(2,_,_),(4,_,_)] (fun z:Bd×Bool=>z=((ZbH l sz st2 c.vy.natAbs c).1,Bool.or sx (ZbH l sz st2 c.vy.natAbs c).2)) (c,sx) (by (exact plei)) ?_ ?_
 ·refine aW.loopF rfl (fun q:Nat×Bd=>[(11,.t (.int .i64 (q.1:Nat)))]) [(9,_),(8,_),(7,_),(6,_),(4,_),(3,_),(2,_)] (fun q=>[(3,1,.box 114 [.t (.int .i64 q.2.kind),.t (.int .i64 q.2.owner),.t (.int .i64 q.2.x),.t (.int .i64 q.2.y),.t (.int .i64 q.2.vx),.t (.int .i64 q.2.vy),.t (.int .i64 q.2.aim),.t (.int .i64 q.2.life),.t (.int .i64 q.2.timer)])]) [(2,_,_),(4,_,_)] (fun q=>MvY l sz st2 c.vy.natAbs c q.1 q.2) (fun q=>c.vy.natAbs - q.1) (0,c) (MvY.start hcf) (by (exact plei)) ?_
  rintro ⟨k,b1⟩ hI
  have hI:MvY l sz st2 c.vy.natAbs c k b1:=hI
  have hkn:=hI.le
  have hin:=Zef hI.free
  refine pln ?_
  have hsl:=Zhl l b1.x (b1.y + st2) sz hl hs
  by_cases hkl:k < c.vy.natAbs
  ·cases hv:ZaG l b1.x (b1.y + st2) sz with
   | true =>
    rw [hv] at hsl
    repeat' (first|refine pa ?_|(refine pb ?_ ?_<;>intro hg)|(refine pz9 ?_;(first|refine Zaa hsl ?_))|refine po ?_|fail)
    exact .inl ⟨rfl,({ b1 with vy:=0 },true),(by rw [hI.stop hkl hv];show _=(_,sx || true);rw [Bool.or_true]),by (exact ple)⟩
   | false =>
    rw [hv] at hsl
    repeat' (first|refine pa ?_|(refine pb ?_ ?_<;>intro hg)|(refine pz9 ?_;(first|refine Zaa hsl ?_))|refine po ?_|fail)
    exact ⟨(k + 1,{ b1 with y:=b1.y + st2 }),hI.next hkl hv,by show c.vy.natAbs - (k + 1) < c.vy.natAbs - k;omega,by (exact ple)⟩
  ·obtain rfl:k=c.vy.natAbs:=by omega
   repeat' (first|refine pa ?_|(refine pb ?_ ?_<;>intro hg)|(refine pz9 ?_;(first|refine Zaa hsl ?_))|refine po ?_|fail)
   exact .inl ⟨rfl,(b1,sx),(by rw [hI.done];show _=(_,sx || false);rw [Bool.or_false]),by (exact ple)⟩
 rintro ⟨d,sy⟩ hz
 have hz:(d,sy)=((ZbH l sz st2 c.vy.natAbs c).1,sx || (ZbH l sz st2 c.vy.natAbs c).2):=hz
 have e1:(ZbH l sz st2 c.vy.natAbs c).1=d:=(congrArg Prod.fst hz).symm
 have e2:(sx || (ZbH l sz st2 c.vy.natAbs c).2)=sy:=(congrArg Prod.snd hz).symm
 rw [e1,e2]
 refine pln ?_
 repeat' (first|refine pa ?_|(refine pb ?_ ?_<;>intro hg)|refine po ?_|fail)
 exact pfg
theorem Zk5 (v:Int):(v < 0∧sgnV v=-1∧(v.natAbs:Int)=-v)∨(¬ v < 0∧sgnV v=1∧(v.natAbs:Int)=v):=by unfold sgnV;split<;>omega
theorem ZlO (l:Lv) (b:Bd) (hl:ZaZ l) (hk:0≤b.kind∧b.kind≤2) (hf:ZaG l b.x b.y (Zas b.kind)=false) (hx:-15≤b.vx∧b.vx≤15) (hy:-15≤b.vy∧b.vy≤15):AC Tryz.prog 164 [.agg [.t (.lst true 9 (Zai l))],.agg [.t (.int .i64 b.kind),.t (.int .i64 b.owner),.t (.int .i64 b.x),.t (.int .i64 b.y),.t (.int .i64 b.vx),.t (.int .i64 b.vy),.t (.int .i64 b.aim),.t (.int .i64 b.life),.t (.int .i64 b.timer)]] (.tup [.agg [.t (.int .i64 (Zbd l b).1.kind),.t (.int .i64 (Zbd l b).1.owner),.t (.int .i64 (Zbd l b).1.x),.t (.int .i64 (Zbd l b).1.y),.t (.int .i64 (Zbd l b).1.vx),.t (.int .i64 (Zbd l b).1.vy),.t (.int .i64 (Zbd l b).1.aim),.t (.int .i64 (Zbd l b).1.life),.t (.int .i64 (Zbd l b).1.timer)],.t (.bool (Zbd l b).2)]):=by
 have hs:=ZbE hk
 have z1:=ZdL b.kind
 have hsg1:=Zo0 b.vx
 have hw1:b.vx < 0→IntKind.i64.wrap (0 - b.vx)=(b.vx.natAbs:Int):=fun h=>by rw [wrap_i64 (by omega)];omega
 have hc1:=Zk5 b.vx
 have hll:=hl.n12
 generalize hst1:sgnV b.vx=st1 at hsg1 hc1
 generalize hsz:Zas b.kind=sz at hs z1 hf
 obtain ⟨nx,hnx⟩:∃ nx:Nat,nx=b.vx.natAbs:=⟨_,rfl⟩
 have hM0:Zbd l b=((ZbH l sz (sgnV (ZbW l sz st1 nx b).1.vy) (ZbW l sz st1 nx b).1.vy.natAbs (ZbW l sz st1 nx b).1).1,(ZbW l sz st1 nx b).2 || (ZbH l sz (sgnV (ZbW l sz st1 nx b).1.vy) (ZbW l sz st1 nx b).1.vy.natAbs (ZbW l sz st1 nx b).1).2):=by
  unfold Zbd
  rw [hsz,hst1,← hnx]
 rw [← hnx] at hw1 hc1
 clear hst1
 refine AC.go Tryz.func164 Tryz.ntmps164 fun B W hr=>?_
 rcases hc1 with ⟨h0,e1,e2⟩|⟨h0,e1,e2⟩
 all_goals (
  repeat' (first|refine pa ?_|(refine pb ?_ ?_<;>intro hg)|(refine pz9 ?_;(first|refine Zaa z1 ?_))|refine po ?_|fail)
  refine aW.joinF rfl (fun z:Bd×Bool=>[(7,.t (.bool z.2))]) [(6,_),(2,_),(3,_),(4,_)] (fun z:Bd×Bool=>[(3,1,.box 114 [.t (.int .i64 z.1.kind),.t (.int .i64 z.1.owner),.t (.int .i64 z.1.x),.t (.int .i64 z.1.y),.t (.int .i64 z.1.vx),.t (.int .i64 z.1.vy),.t (.int .i64 z.1.aim),.t (.int .i64 z.1.life),.t (.int .i64 z.1.timer)])]) [(2,_,_),(4,_,_)] (fun z:Bd×Bool=>z=ZbW l sz st1 nx b) (b,false) (by (exact plei)) ?_ ?_
  ·refine aW.loopF rfl (fun q:Int×Int×Nat×Bd=>[(9,.t (.int .i64 q.1)),(8,.t (.int .i64 q.2.1))]) [(7,_),(6,_),(4,_),(3,_),(2,_)] (fun q=>[(3,1,.box 114 [.t (.int .i64 q.2.2.2.kind),.t (.int .i64 q.2.2.2.owner),.t (.int .i64 q.2.2.2.x),.t (.int .i64 q.2.2.2.y),.t (.int .i64 q.2.2.2.vx),.t (.int .i64 q.2.2.2.vy),.t (.int .i64 q.2.2.2.aim),.t (.int .i64 q.2.2.2.life),.t (.int .i64 q.2.2.2.timer)])]) [(2,_,_),(4,_,_)] (fun q=>q.2.1=st1∧q.1=(nx:Int) - q.2.2.1∧MvX l sz st1 nx b q.2.2.1 q.2.2.2) (fun q=>nx - q.2.2.1) (_,_,0,b) ?_ (by (exact plei)) ?_
   ·exact ⟨e1.symm,by first|(show IntKind.i64.wrap (0 - b.vx)=(nx:Int) - ((0:Nat):Int);rw [hw1 h0];omega)|(show b.vx=(nx:Int) - ((0:Nat):Int);omega),MvX.start hf⟩
   rintro ⟨v,s,k,b1⟩ hI
   obtain ⟨hs0,hv0,hI⟩:s=st1∧v=(nx:Int) - k∧MvX l sz st1 nx b k b1:=hI
   have hsb:-1≤s∧s≤1:=by omega
   have hkn:=hI.le
   have hin:=Zef hI.free
   rw [← hs0] at hI ⊢
   refine pln ?_
   have hsl:=Zdx l (b1.x + s) (b1.y) sz hs (by omega)
   by_cases hkl:k < nx
   ·cases hv:ZaG l (b1.x + s) (b1.y) sz with
    | true =>
     rw [hv] at hsl
     repeat' (first|refine pa ?_|(refine pb ?_ ?_<;>intro hg)|(refine pz9 ?_;(first|refine Zaa hsl ?_))|refine po ?_|fail)
     exact .inl ⟨rfl,({ b1 with vx:=0 },true),(hI.stop hkl hv).symm,by (exact ple)⟩
    | false =>
     rw [hv] at hsl
     repeat' (first|refine pa ?_|(refine pb ?_ ?_<;>intro hg)|(refine pz9 ?_;(first|refine Zaa hsl ?_))|refine po ?_|fail)
     exact ⟨(v - 1,s,k + 1,{ b1 with x:=b1.x + s }),⟨rfl,by show v - 1=(nx:Int) - ((k + 1:Nat):Int);omega,hI.next hkl hv⟩,by show nx - (k + 1) < nx - k;omega,by (exact ple)⟩
   ·obtain rfl:k=nx:=by omega
    repeat' (first|refine pa ?_|(refine pb ?_ ?_<;>intro hg)|refine po ?_|fail)
    exact .inl ⟨rfl,(b1,false),hI.done.symm,by (exact ple)⟩
  rintro ⟨c,sx⟩ hz
  have hz:(c,sx)=ZbW l sz st1 nx b:=hz
  rw [← hz] at hM0
  have hr:=(Ze2 (l:=l) (s:=sz) (step:=st1) (n:=nx) (b:=b)).2.2.2.1
  have hcf:=Ze1 (l:=l) (s:=sz) (step:=st1) (n:=nx) (b:=b) hf
  rw [← hz] at hr hcf
  have hr:c.vy=b.vy:=hr
  have hcf:ZaG l c.x c.y sz=false:=hcf
  have hM:Zbd l b=((ZbH l sz (sgnV c.vy) c.vy.natAbs c).1,sx || (ZbH l sz (sgnV c.vy) c.vy.natAbs c).2):=hM0
  rw [hM]
  have hw2:c.vy < 0→IntKind.i64.wrap (0 - c.vy)=(c.vy.natAbs:Int):=fun h=>by rw [wrap_i64 (by omega)];omega
  have hc2:=Zk5 c.vy
  clear hM hM0 hz hw1 h0 e1 e2
  generalize sgnV c.vy=st2 at hc2 ⊢
  generalize c.vy.natAbs=ny at hc2 hw2 ⊢
  refine pln ?_
  rcases hc2 with ⟨h0,e1,e2⟩|⟨h0,e1,e2⟩
  all_goals (
   repeat' (first|refine pa ?_|(refine pb ?_ ?_<;>intro hg)|refine po ?_|fail)
   refine aW.joinF rfl (fun z:Bd×Bool=>[(7,.t (.bool z.2))]) [(6,_),(2,_),(3,_),(4,_)] (fun z:Bd×Bool=>[(3,1,.box 114 [.t (.int .i64 z.1.kind),.t (.int .i64 z.1.owner),.t (.int .i64 z.1.x),.t (.int .i64 z.1.y),.t (.int .i64 z.1.vx),.t (.int .i64 z.1.vy),.t (.int .i64 z.1.aim),.t (.int .i64 z.1.life),.t (.int .i64 z.1.timer)])]) [(2,_,_),(4,_,_)] (fun z:Bd×Bool=>z=((ZbH l sz st2 ny c).1,Bool.or sx (ZbH l sz st2 ny c).2)) (c,sx) (by (exact plei)) ?_ ?_
   ·refine aW.loopF rfl (fun q:Int×Int×Nat×Bd=>[(9,.t (.int .i64 q.1)),(8,.t (.int .i64 q.2.1))]) [(7,_),(6,_),(4,_),(3,_),(2,_)] (fun q=>[(3,1,.box 114 [.t (.int .i64 q.2.2.2.kind),.t (.int .i64 q.2.2.2.owner),.t (.int .i64 q.2.2.2.x),.t (.int .i64 q.2.2.2.y),.t (.int .i64 q.2.2.2.vx),.t (.int .i64 q.2.2.2.vy),.t (.int .i64 q.2.2.2.aim),.t (.int .i64 q.2.2.2.life),.t (.int .i64 q.2.2.2.timer)])]) [(2,_,_),(4,_,_)] (fun q=>q.2.1=st2∧q.1=(ny:Int) - q.2.2.1∧MvY l sz st2 ny c q.2.2.1 q.2.2.2) (fun q=>ny - q.2.2.1) (_,_,0,c) ?_ (by (exact plei)) ?_
    ·exact ⟨e1.symm,by first|(show IntKind.i64.wrap (0 - c.vy)=(ny:Int) - ((0:Nat):Int);rw [hw2 h0];omega)|(show c.vy=(ny:Int) - ((0:Nat):Int);omega),MvY.start hcf⟩
    rintro ⟨v,s,k,b1⟩ hI
    obtain ⟨hs0,hv0,hI⟩:s=st2∧v=(ny:Int) - k∧MvY l sz st2 ny c k b1:=hI
    have hsb:-1≤s∧s≤1:=by omega
    have hkn:=hI.le
    have hin:=Zef hI.free
    rw [← hs0] at hI ⊢
    refine pln ?_
    have hsl:=Zdx l (b1.x) (b1.y + s) sz hs (by omega)
    by_cases hkl:k < ny
    ·cases hv:ZaG l (b1.x) (b1.y + s) sz with
     | true =>
      rw [hv] at hsl
      repeat' (first|refine pa ?_|(refine pb ?_ ?_<;>intro hg)|(refine pz9 ?_;(first|refine Zaa hsl ?_))|refine po ?_|fail)
      exact .inl ⟨rfl,({ b1 with vy:=0 },true),(by rw [hI.stop hkl hv];show _=(_,sx || true);rw [Bool.or_true]),by (exact ple)⟩
     | false =>
      rw [hv] at hsl
      repeat' (first|refine pa ?_|(refine pb ?_ ?_<;>intro hg)|(refine pz9 ?_;(first|refine Zaa hsl ?_))|refine po ?_|fail)
      exact ⟨(v - 1,s,k + 1,{ b1 with y:=b1.y + s }),⟨rfl,by show v - 1=(ny:Int) - ((k + 1:Nat):Int);omega,hI.next hkl hv⟩,by show ny - (k + 1) < ny - k;omega,by (exact ple)⟩
    ·obtain rfl:k=ny:=by omega
     repeat' (first|refine pa ?_|(refine pb ?_ ?_<;>intro hg)|refine po ?_|fail)
     exact .inl ⟨rfl,(b1,sx),(by rw [hI.done];show _=(_,sx || false);rw [Bool.or_false]),by (exact ple)⟩
   rintro ⟨d,sy⟩ hz
   have hz:(d,sy)=((ZbH l sz st2 ny c).1,sx || (ZbH l sz st2 ny c).2):=hz
   have e3:(ZbH l sz st2 ny c).1=d:=(congrArg Prod.fst hz).symm
   have e4:(sx || (ZbH l sz st2 ny c).2)=sy:=(congrArg Prod.snd hz).symm
   rw [e3,e4]
   refine pln ?_
   repeat' (first|refine pa ?_|(refine pb ?_ ?_<;>intro hg)|refine po ?_|fail)
   refine pfin ?_
   (exact pgiv)))
end Go.Proofs.YthfaongbpdnlnaaGreat
