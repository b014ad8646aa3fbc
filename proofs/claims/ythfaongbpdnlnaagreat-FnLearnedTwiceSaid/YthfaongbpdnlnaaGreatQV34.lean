/- What is proved: a peer that plays drawn rows stays what the rows say. Conditions: as each lemma says. -/
import Derived.Test.YthfaongbpdnlnaaGreatQPC
import Derived.Laws.StructEq
import Derived.Test.YthfaongbpdnlnaaGreatQT103
namespace Go.Proofs.YthfaongbpdnlnaaGreat.Ab
set_option maxHeartbeats 4000000
set_option maxRecDepth 20000
set_option linter.unusedSimpArgs false
set_option linter.unusedVariables false
open Go.RowKit
section
variable {P:Program} {B:Nat→Prop} {W:En} {Q:Exit→St→Prop} {st:St}
theorem aW.draw_k {os:List Nat} {id n:Nat} {l:List Oper} (hm:P.follows .mixedOrders=true) (hsz:l.toArray.size=n) (h:aA P B W l.toArray os n (Array.replicate n false) (Q .normal) st):aW P B W (.region id l.toArray true) Q st:=fun a w hs =>
 wp_region_any hm (by
  subst hsz
  have h1:=h.start hs.drawn
  refine ZiY ?_ h1
  intro e a w hq
  cases e with
  | normal=>exact hq
  | _=>exact hq.elim)
end
section
variable {P:Program} {B:Nat→Prop} {W:En} {st:St}
theorem Zco.free {o ep s:Nat} {fl d:Bool} {e:TypeId} {els:List (List T)} (hl:look st.objs o=some (ep,.row fl d e els)) (hx:Zcm st.tmps s=.hnd o ep) :
  Zco P B W st ⟨st.n,(s,.t (.lst fl e els)) :: st.tmps,(o,ep + 1,.gone) :: st.objs⟩:=fun a w ⟨pl,F,hs⟩=>by
 have hlo:look ((o,ep + 1,.gone) :: st.objs) o=some (ep + 1,.gone):=by rw [ZaB,if_pos rfl]
 obtain ⟨pl',F',h5,_,hFr,_⟩:=hs.many (w':=w) (objs':=(o,ep + 1,.gone) :: st.objs) (nv:=fun _=>.slice none 0 0) (nF:=fun _ _=>False) (Nw:=fun k=>k=o)
  (Kp.refl _ _) (fun _ _ _=>rfl)
  (fun k hk=>by rw [ZaB,if_neg fun e=>hk e.symm])
  (fun k hk=>by
   subst hk
   refine ⟨ep + 1,_,hlo,fun ep0 ob0' h0=>.inl ?_,fun h0=>(by rw [hl] at h0;cases h0)⟩
   rw [hl] at h0
   cases h0
   exact Nat.lt_succ_self _)
  (fun k b hk hf=>hf.elim)
  (fun k k' b hk hk' hne' h _=>h)
  (fun lk' pl' Fr' hFr hlp k e' b hk hlk=>by
   subst hk
   rw [hlo] at hlk
   cases hlk
   exact fun _ h=>h)
 refine ⟨pl',F',{ h5 with tmps:=fun i hi=>?_ }⟩
 show C2 P w _ _ _ (Zcm ((s,.t (.lst fl e els)) :: st.tmps) i) _
 rw [ZcH]
 split
 ·rename_i e
  subst e
  have h6:=hs.tmps _ hi
  rw [hx] at h6
  have h7:C0 P w (look st.objs) pl (Free B W.o (look st.objs) F w) (.hnd o ep) (a.tmps.getD s undef):=h6
  have hcv:=hs.cvt (vs:=[.hnd o ep]) (us:=[a.tmps.getD s undef]) (ts:=[.lst fl e els]) (ks:=[(o,ep)]) (d:=d) ⟨rfl,fun k x u hx hu=>by
   cases k with
   | zero=>cases hx;cases hu;exact h7
   | succ k=>simp at hx⟩ (by simp [cvt,hl]) (by simp)
  have h8:=hcv.rd 0 _ _ rfl rfl
  refine h8.mono (fun b hb=>?_) fun _ _=>rfl
  rcases hb with hb|⟨o',e',y,h1,h2,h3⟩
  ·exact hFr b (.inl hb) hb.2.1 fun _ _ h=>h
  ·simp at h1
   obtain ⟨rfl,rfl⟩:=h1
   exact hFr b (.inr (.inr ⟨_,_,rfl,h2,h3⟩)) (hs.range _ _ _ h2 h3).2 fun _ _ h=>h
 ·exact h5.tmps i hi
end
section
variable {P:Program} {rl:List ResultVar} {objs:List (Nat×Nat×Ob)} {e:Exit} {st:St}
theorem Zss {A B C:Type} {O:A×B×C→List (Nat×Nat×Ob)} {R:A×B×C→V} {Post:A×B×C→Prop} {a:A} {b:B} {c:C} (dd:Zbu P rl objs (O (a,b,c)) (R (a,b,c)) e st) (pp:Post (a,b,c)):Zsp P rl objs O R Post e st:=⟨_,pp,dd⟩
end
section
variable {P:Program} {w:World} {Fr Fr':Nat→Prop}
theorem R0.ro {F:Nat→Prop} {v:V} {u:Value} (hF:∀ b,Fr b→Fr' b) (hG:∀ b,F b→Fr' b) (h:R0 P w Fr F v u):R0 P w Fr' (fun _=>False) (roV0 v) u:=by
 cases v with
 | t x=>exact Rd.mono h hF fun _ _=>rfl
 | fr fl e els=>exact Ow.rd h hG
 | lit v=>exact h
 | _=>exact h
theorem R1.ro {F:Nat→Nat→Prop} {v:V} {u:Value} (hF:∀ b,Fr b→Fr' b) (hG:∀ k b,F k b→Fr' b) (h:R1 P w Fr F v u):R1 P w Fr' (fun _ _=>False) (roV1 v) u:=by
 cases v with
 | agg cs =>
  obtain ⟨us,h1,h2,h3⟩:=h
  refine ⟨us,h1,by rw [List.length_map];exact h2,fun k v x hv hx=>?_⟩
  rw [List.getElem?_map] at hv
  obtain ⟨v0,hv0,rfl⟩:=Option.map_eq_some_iff.1 hv
  exact R0.ro hF (hG k) (h3 k v0 x hv0 hx)
 | fr fl e els=>exact R0.ro (v:=.fr fl e els) hF (hG 0) h
 | t x=>exact R0.ro (v:=.t x) hF (hG 0) h
 | lit x=>exact h
 | _=>exact h
theorem R2.ro {F:Nat→Nat→Nat→Prop} {v:V} {u:Value} (hF:∀ b,Fr b→Fr' b) (hG:∀ j k b,F j k b→Fr' b) (h:R2 P w Fr F v u):R2 P w Fr' (fun _ _ _=>False) (roV2 v) u:=by
 cases v with
 | tup vs =>
  obtain ⟨us,h1,h2,h3⟩:=h
  refine ⟨us,h1,by rw [List.length_map];exact h2,fun k v x hv hx=>?_⟩
  rw [List.getElem?_map] at hv
  obtain ⟨v0,hv0,rfl⟩:=Option.map_eq_some_iff.1 hv
  exact R1.ro hF (hG k) (h3 k v0 x hv0 hx)
 | agg cs=>exact R1.ro (v:=.agg cs) hF (hG 0) h
 | fr fl e els=>exact R1.ro (v:=.fr fl e els) hF (hG 0) h
 | t x=>exact R1.ro (v:=.t x) hF (hG 0) h
 | lit x=>exact h
 | _=>exact h
theorem own_ro {r:V}:Zcs r=true→roV2 r=r:=by cases r<;>first|(intro _;rfl)|(intro h;cases h)
theorem own_ro' {r:V}:Zcs (roV2 r)=Zcs r:=by cases r<;>rfl
theorem AMP.ro {f:FuncId} {objs:List (Nat×Nat×Ob)} {aS:List V} {α:Type} {O:α→List (Nat×Nat×Ob)} {R:α→V} {Post:α→Prop} (h:AMP P f objs aS O R Post):AMP P f objs aS O (fun x=>roV2 (R x)) Post:=by
 refine ⟨h.1,h.2.1,fun w B args pl F hB hE hargs=>(h.2.2 w B args pl F hB hE hargs).mono ?_⟩
 rintro e w' ⟨x,u,pl',F',FF,hp,he,hk,hm⟩
 have hFr:∀ b,FrM B (En.o ⟨w,MSet objs F,objs,pl⟩) w' (look (O x)) F' FF b→FrM B (En.o ⟨w,MSet objs F,objs,pl⟩) w' (look (O x)) F' (fun _ _ _=>False) b:=fun b hb=>⟨hb.1,hb.2.1,hb.2.2.1,fun _ _ h=>h⟩
 have hG:∀ j k b,FF j k b→FrM B (En.o ⟨w,MSet objs F,objs,pl⟩) w' (look (O x)) F' (fun _ _ _=>False) b:=fun j k b hb=>⟨.inr (hm.rangeF j k b hb).1,(hm.rangeF j k b hb).2,fun o y ho hf=>hm.apartM o y j k b ho hb hf,fun _ _ h=>h⟩
 refine ⟨x,u,pl',F',fun _ _ _=>False,hp,he,hk,hm.lks,fun o ep ob ho=>?_,?_,hm.range,fun _ _ _ h=>h.elim,hm.apart,fun _ _ _ _ _ _ h=>h.elim,fun _ _ _ _ _ _ h=>h.elim⟩
 ·exact (hm.obs o ep ob ho).goes_weak (fun y u _ hc=>hc.weak hFr fun _ _=>rfl) (fun y u hr=>hr.mono hFr fun _ _=>rfl)
 ·have hr:=hm.res
  unfold R2m at hr ⊢
  rw [own_ro']
  split
  ·rename_i ho
   rw [if_pos ho] at hr
   show C0 _ _ _ _ _ (roV2 (R x)) u
   rw [own_ro ho]
   exact hr.weak hFr fun _ _=>rfl
  ·rename_i ho
   rw [if_neg ho] at hr
   exact hr.ro hFr hG
end
theorem pk10 {X Y:Prop} (h:Y) (r:Hld Y→X:=by intro h;(refine Zab (n:=10) ?_;(first|exact q3e25 h.out|exact q151a h.out|exact q984c h.out|exact Zvy h.out|exact q4d24 h.out|exact q4c13 h.out|exact q5079 h.out|exact qa508 h.out|exact q138e h.out|exact q3f53 h.out|exact q3559 h.out))):X:=r ⟨h⟩
theorem pk12 {X Y:Prop} (h:Y) (r:Hld Y→X:=by intro h;(refine Zab (n:=12) ?_;(first|exact qb2b4 h.out|exact q0db4 h.out|exact qf8cf h.out))):X:=r ⟨h⟩
end Go.Proofs.YthfaongbpdnlnaaGreat.Ab
namespace Go.Proofs.YthfaongbpdnlnaaGreat
set_option maxHeartbeats 4000000
set_option maxRecDepth 20000
set_option linter.unusedSimpArgs false
set_option linter.unusedVariables false
open Go.RowKit Ab
theorem Zu3 {ts:TS}:0≤Zbe ts:=by
 unfold Zbe
 split
 ·have:=(ZjD (t:=-1) (ts:=ts) (a:=((ts.getD 0 default).length:Int))).2 ⟨by omega,fun x _=>by omega⟩
  omega
 ·omega
theorem Zt5 (n : Int) : -1 ≤ signless n ∧ signless n ≤ 1099511627775 := by unfold signless; (repeat' split) <;> omega
theorem Zt4 {n:Int} (h:0≤signless n):signed (signless n)=n:=by
 unfold signless at *
 unfold signed
 repeat' split at *
 all_goals omega
theorem ZsY:∀ (xs:List Int) (a b acc o:_) ,ZcT xs=some o→Zbj (a++o++b) xs.length acc a.length=some (acc++xs,((a++o).length:Int))
 | [],a,b,acc,o,h=>by cases h;simp [Zbj]
 | x :: r,a,b,acc,o,h=>by
  unfold ZcT at h
  split at h
  ·cases h
  ·rename_i hx
   cases hr:ZcT r with
   | none=>rw [hr] at h;cases h
   | some q =>
    rw [hr] at h
    cases h
    have hs:=Zt5 x
    have hd:=Zek (n:=signless x) ⟨by omega,hs.2⟩ a (q++b)
    have ih:=ZsY r (a++Zaf (signless x)) b (acc++[x]) q hr
    have e:a++(Zaf (signless x)++q)++b=a++Zaf (signless x)++(q++b):=by simp
    rw [List.length_cons,Zbj,e,hd]
    simp only [Zt4 (Int.not_lt.1 hx)]
    have e2:a++Zaf (signless x)++(q++b)=a++Zaf (signless x)++q++b:=by simp
    have e3:(a.length:Int) + ((Zaf (signless x)).length:Int)=((a++Zaf (signless x)).length:Int):=by simp
    rw [e2,e3,ih]
    simp
theorem Zte {xs:List Int} {a b o:List UInt8} (hx:xs.length≤1099511627775) (h:ZcT xs=some o):Za6 (a++Zb2 xs++b) a.length=some (xs,((a++Zb2 xs).length:Int)):=by
 have hp:Zb2 xs=Zaf xs.length++o:=by unfold Zb2;rw [h];rfl
 have hd:=Zek (n:=(xs.length:Int)) ⟨by omega,by omega⟩ a (o++b)
 have hi:=ZsY xs (a++Zaf xs.length) b [] o h
 rw [hp]
 unfold Za6
 have e:a++(Zaf (xs.length:Int)++o)++b=a++Zaf xs.length++(o++b):=by simp
 rw [e,hd]
 have e2:a++Zaf (xs.length:Int)++(o++b)=a++Zaf xs.length++o++b:=by simp
 have e3:(a.length:Int) + ((Zaf (xs.length:Int)).length:Int)=((a++Zaf (xs.length:Int)).length:Int):=by simp
 simp only [Int.toNat_natCast]
 rw [e2,e3,hi]
 simp
theorem ZtQ:∀ a b:List UInt8,ZbB a (ZbB a b)=b
 | _,[]=>by simp [ZbB]
 | [],_ :: _=>by simp [ZbB]
 | x :: a,y :: b=>by
  rw [ZbB,ZbB,ZtQ a b]
  congr 1
  rw [UInt8.xor_assoc,UInt8.xor_self,UInt8.xor_zero]
theorem Zs1 {x:List UInt8} (h:x.length≤20000):ZaN (Zau x)=some x:=Zgk true h
theorem Zsx {base next:List UInt8} (h:next.length≤20000):Zar base (Zkl base next)=some next:=by
 have hd:=Zek (n:=(next.length:Int)) ⟨by omega,by omega⟩ [] (Zau (ZbB base next))
 unfold Zar Zkl
 rw [List.nil_append] at hd
 rw [show (0:Int)=(([]:List UInt8).length:Int) from rfl,hd]
 simp only [Int.toNat_natCast]
 rw [List.drop_left,Zs1 (by rw [ZcL];exact h)]
 simp only []
 rw [if_pos (by rw [ZcL]),ZtQ]
theorem ZsG:∀ bs:List Bd,ZbI (bs.flatMap bodyI)=bs
 | []=>rfl
 | b :: r=>by rw [List.flatMap_cons,Zjp,ZsG r]
theorem ZuT (w:Wd):Zb7 w.level (Zen w)=w:=by
 have e0:(Zen w).getD 2 0=(w.scores.length:Int):=rfl
 have e1:(Zen w).drop 3=w.scores++w.bodies.flatMap bodyI:=rfl
 unfold Zb7
 rw [e0,e1,Int.toNat_natCast,List.take_left,List.drop_left,ZsG]
 rfl
theorem Zu4 {w:Wd} (h:ZaV w):ZfL (Zen w):=by
 have h1:=ZnZ w
 have h2:=h.n
 have e0:(Zen w).getD 2 0=(w.scores.length:Int):=rfl
 refine ⟨by omega,?_,?_,?_,?_⟩<;>rw [e0]<;>omega
def BigP (x:Int):Prop:=-549755813888≤x∧x≤549755813887
theorem Zua:∀ {xs:List Int},(∀ x ∈ xs,BigP x)→∃ o,ZcT xs=some o
 | [],_=>⟨[],rfl⟩
 | x :: r,h=>by
  obtain ⟨o,ho⟩:=Zua (xs:=r) fun y hy=>h y (List.mem_cons_of_mem _ hy)
  have hx:=h x (List.mem_cons_self ..)
  have:¬ signless x < 0:=by unfold signless;unfold BigP at hx;split;omega;split<;>omega
  exact ⟨Zaf (signless x)++o,by rw [ZcT,if_neg this,ho];rfl⟩
theorem Zut {l:Lv} {x y s:Int} (h:ZaG l x y s=false):(0≤x∧x≤1000)∧0≤y∧y≤1000:=by
 have h1:=ZeQ.1 h
 unfold Zn1 at h1
 refine ⟨⟨?_,?_⟩,?_,?_⟩<;>(apply Classical.byContradiction;intro hn;exact h1 (.inl fun e=>by omega))
theorem Zs5 {α:Type} [Inhabited α] {xs:List α} {x:α} (h:x ∈ xs):∃ k,k < xs.length∧xs.getD k default=x:=by
 obtain ⟨k,hk,he⟩:=List.mem_iff_getElem.1 h
 exact ⟨k,hk,by rw [List.getD_eq_getElem?_getD,List.getElem?_eq_getElem hk];exact he⟩
theorem ZuZ {l:Lv} {n:Int} {b:Bd} (h:ZbF l n b) (hn:n≤4):∀ x ∈ bodyI b,BigP x:=by
 obtain ⟨a1,a2,a3,a4,a5,a6,a7,a8⟩:=h
 have a3:=Zut a3
 intro x hx
 unfold BigP
 simp only [bodyI,List.mem_cons,List.not_mem_nil,or_false] at hx
 rcases hx with rfl|rfl|rfl|rfl|rfl|rfl|rfl|rfl|rfl<;>omega
theorem Zuw {w:Wd} (h:ZaV w):∀ x ∈ Zen w,BigP x:=by
 have hn:=h.n
 intro x hx
 unfold Zen at hx
 rcases List.mem_append.1 hx with hx|hx
 ·rcases List.mem_append.1 hx with hx|hx
  ·have h1:=h.tick
   have h2:=h.seed
   unfold BigP
   simp only [List.mem_cons,List.not_mem_nil,or_false] at hx
   rcases hx with rfl|rfl|rfl<;>omega
  ·obtain ⟨k,hk,rfl⟩:=Zs5 hx
   have:=h.scores k hk
   unfold BigP
   omega
 ·obtain ⟨b,hb,hx⟩:=List.mem_flatMap.1 hx
  obtain ⟨k,hk,rfl⟩:=Zs5 hb
  exact ZuZ (h.bodies k hk) (by omega) x hx
theorem Zuv {w:Wd} (h:ZaV w):Zbp w=Zb2 (Zen w):=if_pos (Zax.2 h)
theorem Zs8 {w:Wd} (h:ZaV w):Za2 w.level (Zbp w)=some w:=by
 obtain ⟨o,ho⟩:=Zua (Zuw h)
 have hl:=ZnZ w
 have hn:=h.n
 have hm:=h.m
 have hu:=Zte (a:=[]) (b:=[]) (by omega) ho
 rw [List.nil_append,List.append_nil] at hu
 unfold Za2
 rw [Zuv h,show (0:Int)=(([]:List UInt8).length:Int) from rfl,hu]
 simp only []
 rw [ZuT,if_pos ⟨trivial,Zu4 h,Zax.2 h⟩]
theorem Zsz:∀ {f:Nat} {p:Pr},Zc0 p→Zc0 (Zki f p)
 | 0,p,h=>h
 | f + 1,p,h=>by
  unfold Zki
  cases hc:ZpE p with
  | none=>exact h
  | some q =>
   refine Zsz (f:=f) ?_
   unfold ZpE at hc
   split at hc
   ·cases hn:ZqN p with
    | none=>rw [hn] at hc;cases hc
    | some w =>
     rw [hn] at hc
     cases hc
     exact ZqV h w
   ·cases hc
theorem Zt2 {t s:List Int} {k:Int} (h1:ZaH t=true) (h2:ZaH (t++s)=true) (h0:0≤k) (hk:k < (t.length:Int)):ZaD (t++s) k=ZaD t k:=by
 have a1:¬ (ZaH (t++s)=false∨k < 0):=by rw [h2];simp;omega
 have a2:¬ (ZaH t=false∨k < 0):=by rw [h1];simp;omega
 have a3:k < ((t++s).length:Int):=by rw [List.length_append];omega
 unfold ZaD
 rw [if_neg a1,if_neg a2,if_pos a3,if_pos hk,List.getD_eq_getElem?_getD,List.getD_eq_getElem?_getD,List.getElem?_append_left (by omega)]
theorem Zuc {ts us:TS} {t:Int} (h1:Zan ts=true) (h2:Zan us=true) (h0:0≤t) (h:Zux ts us t):(rowV us t).1=(rowV ts t).1:=by
 unfold rowV
 rw [if_neg (by rw [h2];simp;omega),if_neg (by rw [h1];simp;omega)]
 refine List.ext_getElem (by rw [List.length_map,List.length_map];exact h.1) fun k hk1 hk2=>?_
 rw [List.length_map] at hk1 hk2
 rw [List.getElem_map,List.getElem_map]
 have e1:us[k]=us.getD k default:=(Zb6 hk1).symm
 have e2:ts[k]=ts.getD k default:=(Zb6 hk2).symm
 have o1:=ZfG h1 hk2
 have o2:=ZfG h2 hk1
 rw [e1,e2]
 rcases h.2 k hk2 with e|⟨e,s,he⟩
 ·rw [e]
 ·rw [he] at o2 ⊢
  exact Zt2 o1 o2 h0 e
theorem Zus {ts us:TS} (h1:Zan ts=true) (h2:Zan us=true) {b:Int} (hb:0≤b) {n:Nat} (h:∀ t,b≤t→t < b + (n:Int)→Zux ts us t):Zbr us b n=Zbr ts b n:=by
 induction n with
 | zero=>rfl
 | succ n ih =>
  rw [ZnO,ZnO,ih fun t h3 h4=>h t h3 (by omega),Zuc h1 h2 (by omega) (h _ (by omega) (by omega))]
theorem ZkG {ts:TS} (h:Zan ts=true) {t:Int} (ht:t < Zbe ts) {k:Nat} (hk:k < ts.length):t < ((ts.getD k default).length:Int):=by
 have h1:=ZjA h t
 rw [decide_eq_true ht] at h1
 exact ZeC.1 h1.symm _ (by rw [Zb6 hk];exact List.getElem_mem _)
theorem ZpV {ts:TS} (h:Zan ts=true) {t:Int} (ha:∀ k,k < ts.length→t < ((ts.getD k default).length:Int)):t < Zbe ts:=by
 have h1:=ZjA h t
 rw [ZeC.2 fun x hx=>by
  obtain ⟨k,hk,rfl⟩:=List.mem_iff_getElem.1 hx
  have:=ha k hk
  rwa [Zb6 hk] at this] at h1
 exact of_decide_eq_true h1
theorem Ext.known {ts us:TS} (h:Ext ts us) (h1:Zan ts=true) (h2:Zan us=true):Zbe ts≤Zbe us:=by
 apply Int.not_lt.1
 intro hc
 have hk:=ZpV h2 (t:=Zbe us) fun k hk=>by
  have hk1:k < ts.length:=h.1▸hk
  obtain ⟨s,he⟩:=h.2 k hk1
  have:=ZkG h1 hc hk1
  rw [he,List.length_append]
  omega
 omega
theorem Ext.same {ts us:TS} (h:Ext ts us) (h1:Zan ts=true) {t:Int} (ht:t < Zbe ts):Zux ts us t:=⟨h.1,fun _ hk=>.inr ⟨ZkG h1 ht hk,h.2 _ hk⟩⟩
structure Good (w0:Wd) (p:Pr):Prop where
 ok:Zic p
 w0ok:ZaV w0
 w0tick:w0.tick=0
 w0n:w0.scores.length=p.tracks.length
 w0level:w0.level=p.base.level
 base:p.base=runF p.ft p.fp p.fa w0 (Zbr p.tracks 0 p.base.tick.toNat)
 now:p.now=runF p.ft p.fp p.fa p.base p.used
 saves:∀ k,k < p.saves.length→Zba (Zbp p.base) (p.saves.take (k + 1))=some (Zbp (runF p.ft p.fp p.fa p.base (p.used.take k)))
 sums:∀ k,k < p.sums.length→p.sums.getD k default=Zgm (runF p.ft p.fp p.fa w0 (Zbr p.tracks 0 k))
def Zst (p:Pr):Prop:=∀ k,k < p.used.length→p.used.getD k default=(rowV p.tracks (p.base.tick + k)).1
theorem used_ok {p:Pr} (h:Zic p):∀ r ∈ p.used,ZbD r p.tracks.length=true:=fun r hr=>by
 obtain ⟨k,hk,rfl⟩:=List.mem_iff_getElem.1 hr
 have:=h.rows k hk
 rwa [Zb6 hk] at this
theorem ZuN {p:Pr} (h:Zic p):p.now.tick≤400:=by
 have h1:=h.mine
 have h2:=ZuM h
 omega
theorem Zt1 {w0:Wd} {p:Pr} (h:Good w0 p) (k:Nat) (hk:k≤p.used.length):ZaV (runF p.ft p.fp p.fa p.base (p.used.take k))∧(runF p.ft p.fp p.fa p.base (p.used.take k)).tick=p.base.tick + k∧(runF p.ft p.fp p.fa p.base (p.used.take k)).level=p.base.level∧(runF p.ft p.fp p.fa p.base (p.used.take k)).scores.length=p.tracks.length:=by
 have hu:=h.ok.used
 have hn:=ZuN h.ok
 have hl:(p.used.take k).length=k:=by rw [List.length_take];omega
 have:=ZoW (t:=p.ft) (p:=p.fp) (a:=p.fa) (rows:=p.used.take k) h.ok.base h.ok.nb (fun r hr=>used_ok h.ok r (List.mem_of_mem_take hr)) (by rw [hl];omega)
 rwa [hl] at this
theorem ZsC {w0:Wd} {p:Pr} {t:Int} (h:Good w0 p) (h1:p.base.tick≤t) (h2:t < p.now.tick):Zbn p t=some (runF p.ft p.fp p.fa p.base (p.used.take (t - p.base.tick).toNat)):=by
 have hs:=h.ok.saves
 have hu:=h.ok.used
 obtain ⟨g1,g2,g3,g4⟩:=Zt1 h (t - p.base.tick).toNat (by omega)
 unfold Zbn
 rw [if_pos ⟨Zbq.2 h.ok,h1,by omega⟩,h.saves _ (by omega)]
 show ZiT p t (Zbp _)=_
 unfold ZiT
 rw [← g3,Zs8 g1]
 show (if _ then some _ else none)=_
 rw [if_pos ⟨by rw [g2];omega,g4⟩]
noncomputable def Zsr (p:Pr):Wd:=runF p.ft p.fp p.fa p.base (p.used.take (p.used.length - 1))
theorem ZuH {w0:Wd} {p:Pr} (h:Good w0 p):Zr5 p=some (Zsr p):=by
 have hs:=h.ok.saves
 have hu:=h.ok.used
 unfold Zr5 Zsr
 split
 ·rename_i he
  have:p.used=[]:=List.eq_nil_of_length_eq_zero (by omega)
  rw [this]
  rfl
 ·rename_i he
  have ht:=h.ok.ticks (p.saves.length - 1) (by omega)
  rw [ht,ZsC h (by omega) (by omega)]
  rw [show (p.base.tick + ((p.saves.length - 1:Nat):Int) - p.base.tick).toNat=p.used.length - 1 by omega]
theorem ZsS {w0:Wd} {p:Pr} (h:Good w0 p) (hc:ZnB p=true):∃ q,ZpB p=some q∧q=Zq1 p (Zsr p)∧Good w0 q∧(Zst p→Zst q):=by
 have ha:ZpB p=some (Zq1 p (Zsr p)):=by
  unfold ZpB
  rw [if_pos hc,ZuH h]
  rfl
 have hs:=h.ok.saves
 have hu:=h.ok.used
 have hnt:=ZuN h.ok
 refine ⟨_,ha,rfl,⟨(Zqr ha).1,h.w0ok,h.w0tick,h.w0n,h.w0level,h.base,?_,fun k hk=>?_,h.sums⟩,fun hr k hk=>?_⟩
 ·show Zqy p=runF p.ft p.fp p.fa p.base (p.used++[Zpc p])
  rw [Zm1,← h.now]
  rfl
 ·have hk':k < (p.saves++[(p.now.tick,Zkl (Zbp (Zsr p)) (Zbp p.now))]).length:=hk
  rw [List.length_append] at hk'
  show Zba (Zbp p.base) ((p.saves++[(p.now.tick,Zkl (Zbp (Zsr p)) (Zbp p.now))]).take (k + 1))=some (Zbp (runF p.ft p.fp p.fa p.base ((p.used++[Zpc p]).take k)))
  simp only [List.length_cons,List.length_nil] at hk'
  rw [List.take_append_of_le_length (l₁:=p.used) (by omega)]
  by_cases hkl:k < p.saves.length
  ·rw [List.take_append_of_le_length (l₁:=p.saves) (by omega)]
   exact h.saves k hkl
  ·have hke:k=p.saves.length:=by omega
   rw [List.take_of_length_le (l:=p.saves++_) (by rw [List.length_append];simp;omega),List.take_of_length_le (l:=p.used) (by omega),← h.now,Zhz]
   have hb:Zba (Zbp p.base) p.saves=some (Zbp (Zsr p)):=by
    by_cases h0:p.saves.length=0
    ·have e1:p.saves=[]:=List.eq_nil_of_length_eq_zero h0
     have e2:p.used=[]:=List.eq_nil_of_length_eq_zero (by omega)
     unfold Zsr
     rw [e1,e2]
     rfl
    ·have:=h.saves (p.saves.length - 1) (by omega)
     rw [show p.saves.length - 1 + 1=p.saves.length by omega,List.take_length] at this
     rw [this,Zsr,show p.saves.length - 1=p.used.length - 1 by omega]
   rw [hb]
   show (Zar (Zbp (Zsr p)) (Zkl (Zbp (Zsr p)) (Zbp p.now))).bind _=_
   rw [Zsx (Nat.le_trans ZgG (by omega))]
   rfl
 ·have hk':k < (p.used++[Zpc p]).length:=hk
  rw [List.length_append] at hk'
  simp only [List.length_cons,List.length_nil] at hk'
  show (p.used++[Zpc p]).getD k default=(rowV p.tracks (p.base.tick + k)).1
  rw [Zd5]
  split
  ·rename_i hkl
   exact hr k hkl
  ·rename_i hkl
   have e1:k - p.used.length=0:=by omega
   rw [e1]
   show Zpc p=_
   unfold Zpc
   rw [show p.now.tick=p.base.tick + (k:Int) by omega]
theorem ZuJ {w0:Wd} {p:Pr} {t:Int} (h:Good w0 p) (h1:p.base.tick≤t) (h2:t < p.now.tick):∃ q,Zcv p t=some q∧Good w0 q∧q=ZhB p t (runF p.ft p.fp p.fa p.base (p.used.take (t - p.base.tick).toNat))∧q.now.tick=t:=by
 have hsv:=ZsC h h1 h2
 have hs:=h.ok.saves
 have hu:=h.ok.used
 obtain ⟨g1,g2,g3,g4⟩:=Zt1 h (t - p.base.tick).toNat (by omega)
 refine ⟨ZhB p t _,by unfold Zcv;rw [hsv];rfl,⟨Zme hsv,h.w0ok,h.w0tick,h.w0n,h.w0level,h.base,rfl,fun k hk=>?_,h.sums⟩,rfl,?_⟩
 ·have hk':k < (p.saves.take (t - p.base.tick).toNat).length:=hk
  rw [List.length_take] at hk'
  show Zba (Zbp p.base) ((p.saves.take _).take (k + 1))=some (Zbp (runF p.ft p.fp p.fa p.base ((p.used.take _).take k)))
  rw [List.take_take,List.take_take,Nat.min_eq_left (by omega),Nat.min_eq_left (by omega)]
  exact h.saves k (by omega)
 ·show (runF p.ft p.fp p.fa p.base (p.used.take (t - p.base.tick).toNat)).tick=t
  rw [g2];omega
theorem Kept.refl (p:Pr):Kept p p:=⟨rfl,rfl,rfl,rfl,rfl,rfl,rfl,rfl,rfl,rfl⟩
theorem Kept.trans {p q r:Pr} (h:Kept p q) (k:Kept q r):Kept p r:=⟨k.base.trans h.base,k.tracks.trans h.tracks,k.me.trans h.me,k.delay.trans h.delay,k.ahead.trans h.ahead,k.seed.trans h.seed,k.sums.trans h.sums,k.ft.trans h.ft,k.fp.trans h.fp,k.fa.trans h.fa⟩
theorem Zto (p:Pr) (w:Wd):Kept p (Zq1 p w):=⟨rfl,rfl,rfl,rfl,rfl,rfl,rfl,rfl,rfl,rfl⟩
theorem Zu0 (p:Pr) (t:Int) (w:Wd):Kept p (ZhB p t w):=⟨rfl,rfl,rfl,rfl,rfl,rfl,rfl,rfl,rfl,rfl⟩
theorem Ztn {w0:Wd} {T:Int}:∀ {f:Nat} {p:Pr},Good w0 p→p.now.tick≤T→T - p.base.tick≤p.ahead→T≤((p.tracks.getD p.me.toNat default).length:Int)→f=(T - p.now.tick).toNat →
  ∃ q,Zqm f T p=some q∧Good w0 q∧q.now.tick=T∧Kept p q∧(Zst p→Zst q)
 | 0,p,h,h1,h2,h3,hf=>⟨p,rfl,h,by omega,Kept.refl p,fun r=>r⟩
 | f + 1,p,h,h1,h2,h3,hf=>by
  have hu:=h.ok.used
  have hc:ZnB p=true:=by
   unfold ZnB
   rw [Zbq.2 h.ok,decide_eq_true (by omega),decide_eq_true (by omega)]
   rfl
  obtain ⟨q,a1,a2,a3,a4⟩:=ZsS h hc
  obtain ⟨_,b2,b3,b4,b5,b6,_,_⟩:=Zqr a1
  obtain ⟨r,c1,c2,c3,c4,c5⟩:=Ztn (T:=T) (f:=f) a3 (by omega) (by rw [b3,b6];omega) (by rw [b4,b5];exact h3) (by omega)
  refine ⟨r,?_,c2,c3,(a2▸Zto p (Zsr p):Kept p q).trans c4,fun hr=>c5 (a4 hr)⟩
  unfold Zqm
  rw [if_pos (by omega),a1]
  exact c1
theorem ZsZ {ts:TS} {b:Int} {us:TS}:∀ (n k:Nat),(∀ j,k≤j→j < k + n→us.getD j default=(rowV ts (b + j)).1)→Zpu ts b us n k=-1
 | 0,_,_=>rfl
 | n + 1,k,h=>by
  unfold Zpu
  rw [if_pos (h k (Nat.le_refl _) (by omega)).symm]
  exact ZsZ n (k + 1) fun j h1 h2=>h j (by omega) (by omega)
theorem Zsv {ts:TS} {b:Int} {us:TS} (hb:0≤b):∀ (n k j:Nat),k≤j→j < k + n→(Zpu ts b us n k < 0∨b + (j:Int) < Zpu ts b us n k)→us.getD j default=(rowV ts (b + j)).1
 | 0,k,j,h1,h2,_=>by omega
 | n + 1,k,j,h1,h2,h3=>by
  unfold Zpu at h3
  split at h3
  ·rename_i he
   by_cases hj:j=k
   ·rw [hj];exact he.symm
   ·exact Zsv hb n (k + 1) j (by omega) (by omega) h3
  ·omega
theorem Zta {p:Pr} (h:Zic p) (hr:Zst p):ZdR p=-1:=by
 unfold ZdR
 rw [if_pos (Zbq.2 h)]
 exact ZsZ _ _ fun j _ hj=>hr j (by omega)
theorem Zt7 {p:Pr} (h:Zic p) (hw:ZdR p < 0):Zst p:=fun k hk=>by
 have hb:=h.base.tick
 unfold ZdR at hw
 rw [if_pos (Zbq.2 h)] at hw
 exact Zsv hb.1 _ 0 k (Nat.zero_le _) (by omega) (.inl hw)
theorem ZtP {p:Pr} (h:Zic p) (hw:0≤ZdR p) {k:Nat} (hk:p.base.tick + (k:Int) < ZdR p):p.used.getD k default=(rowV p.tracks (p.base.tick + k)).1:=by
 have hb:=h.base.tick
 have hi:=Zrv h hw
 have hu:=h.used
 unfold ZdR at hw hk hi
 rw [if_pos (Zbq.2 h)] at hw hk hi
 exact Zsv hb.1 _ 0 k (Nat.zero_le _) (by omega) (.inr hk)
theorem ZtH {w0:Wd} {p q:Pr} (hp:Zic p) (h:Good w0 q):Good w0 (ZpG p q):=by
 have r1:=hp.rolls
 have r2:=hp.again
 by_cases hw:0≤ZdR p
 ·have hi:=Zrv hp hw
  exact ⟨⟨h.ok.tracks,h.ok.base,h.ok.now,h.ok.level,h.ok.nb,h.ok.nn,h.ok.fault,h.ok.me,h.ok.delay,h.ok.ahead,h.ok.seed,Ztq (by omega),Ztq (by omega),h.ok.lead,h.ok.used,h.ok.saves,h.ok.rows,h.ok.ticks,h.ok.known,h.ok.mine,h.ok.sums⟩,h.w0ok,h.w0tick,h.w0n,h.w0level,h.base,h.now,h.saves,h.sums⟩
 ·have hn:=hp.now.tick
  exact ⟨⟨h.ok.tracks,h.ok.base,h.ok.now,h.ok.level,h.ok.nb,h.ok.nn,h.ok.fault,h.ok.me,h.ok.delay,h.ok.ahead,h.ok.seed,Ztq (by omega),Ztq (by omega),h.ok.lead,h.ok.used,h.ok.saves,h.ok.rows,h.ok.ticks,h.ok.known,h.ok.mine,h.ok.sums⟩,h.w0ok,h.w0tick,h.w0n,h.w0level,h.base,h.now,h.saves,h.sums⟩
theorem ZtI (p q:Pr):Kept q (ZpG p q):=⟨rfl,rfl,rfl,rfl,rfl,rfl,rfl,rfl,rfl,rfl⟩
theorem ZtZ {w0:Wd} {p:Pr} (h:Good w0 p):∃ q,Zqk p=some q∧Good w0 q∧Zst q∧Kept p q∧q.now.tick=p.now.tick∧(Zst p→q=p):=by
 have hpo:=Zbq.2 h.ok
 by_cases hw:ZdR p < 0
 ·exact ⟨p,by unfold Zqk;rw [if_pos hpo,if_pos hw],h,Zt7 h.ok hw,Kept.refl p,rfl,fun _=>rfl⟩
 ·have hi:=Zrv h.ok (by omega)
  obtain ⟨q,a1,a2,a3,a4⟩:=ZuJ h hi.1 hi.2
  have hkq:Kept p q:=a3▸Zu0 p _ _
  have hl:=h.ok.lead
  have hrq:Zst q:=fun k hk=>by
   have hk':k < q.used.length:=hk
   rw [a3] at hk'
   replace hk':k < (p.used.take (ZdR p - p.base.tick).toNat).length:=hk'
   rw [List.length_take] at hk'
   rw [a3]
   show (p.used.take (ZdR p - p.base.tick).toNat).getD k default=(rowV p.tracks (p.base.tick + k)).1
   rw [getD_take (by omega)]
   exact ZtP h.ok (by omega) (by omega)
  obtain ⟨r,b1,b2,b3,b4,b5⟩:=Ztn (T:=p.now.tick) a2 (by omega) (by rw [hkq.base,hkq.ahead];omega) (by rw [hkq.tracks,hkq.me];exact h.ok.mine) rfl
  refine ⟨ZpG p r,?_,ZtH h.ok b2,fun k hk=>b5 hrq k hk,(hkq.trans b4).trans (ZtI p r),b3,fun hr=>absurd (Zta h.ok hr) (by omega)⟩
  unfold Zqk
  rw [if_pos hpo,if_neg hw,a1]
  show (Zqm (p.now.tick - q.now.tick).toNat p.now.tick q).map (ZpG p)=_
  rw [b1]
  rfl
theorem ZuG (w:Wd) (s:Sv) (r:List Sv):Zba (Zbp w) (ZpL w (s :: r))=Zba (Zbp w) r:=by
 show (Zar (Zbp w) (Zkl (Zbp w) (Zbp w))).bind _=_
 rw [Zsx (Nat.le_trans ZgG (by omega))]
 rfl
theorem Zu1 (w:Wd) (xs:List Sv) (k:Nat):(ZpL w xs).take (k + 1)=ZpL w (xs.take (k + 1)):=by cases xs<;>rfl
theorem ZuI {w0:Wd} {p:Pr} (h:Good w0 p) (hl:p.base.tick < p.now.tick):ZqN p=some (runF p.ft p.fp p.fa p.base (p.used.take 1)):=by
 have hu:=h.ok.used
 unfold ZqN
 split
 ·rename_i he
  rw [List.take_of_length_le (by omega),← h.now]
 ·rename_i he
  rw [ZsC h (by omega) (by omega),show (p.base.tick + 1 - p.base.tick).toNat=1 by omega]
theorem Zum {w0:Wd} {p:Pr} (h:Good w0 p) (hr:Zst p) (hg:ZqE p):∃ q,ZpE p=some q∧Good w0 q∧Zst q∧q.now=p.now∧q.tracks=p.tracks∧q.base.tick=p.base.tick + 1∧q.rolls=p.rolls∧q.again=p.again∧q.me=p.me∧q.ahead=p.ahead∧q.delay=p.delay∧q.seed=p.seed∧q.ft=p.ft∧q.fp=p.fp∧q.fa=p.fa:=by
 have hn:=ZuI h hg.1
 have hu:=h.ok.used
 have hs:=h.ok.saves
 have hbt:=h.ok.base.tick
 have hc:ZpE p=some (ZrB p (runF p.ft p.fp p.fa p.base (p.used.take 1))):=by
  unfold ZpE
  rw [if_pos hg,hn]
  rfl
 obtain ⟨c1,c2,c3,c4,_⟩:=Zqp h.ok hc
 have hlen:0 < p.used.length:=by have:=hg.1;omega
 have hu1:p.used.take 1=[(rowV p.tracks p.base.tick).1]:=by
  match hx:p.used,hlen with
  | x :: r,_ =>
   have:=hr 0 (by rw [hx];simp)
   rw [hx] at this
   replace this:x=(rowV p.tracks (p.base.tick + ((0:Nat):Int))).1:=this
   rw [show p.base.tick + ((0:Nat):Int)=p.base.tick by omega] at this
   rw [this]
   rfl
 have hsplit:p.used=p.used.take 1++p.used.drop 1:=(List.take_append_drop 1 p.used).symm
 obtain ⟨g1,g2,g3,g4⟩:=Zt1 h 1 (by omega)
 generalize hw:runF p.ft p.fp p.fa p.base (p.used.take 1)=w at *
 have hbn:((p.base.tick.toNat:Nat):Int)=p.base.tick:=by omega
 have hwb:w=runF p.ft p.fp p.fa w0 (Zbr p.tracks 0 (p.base.tick.toNat + 1)):=by
  rw [ZnO,Zm1,← h.base,show (0:Int) + ((p.base.tick.toNat:Nat):Int)=p.base.tick by omega,← hu1]
  exact hw.symm
 refine ⟨_,hc,⟨c1,h.w0ok,h.w0tick,h.w0n,h.w0level.trans g3.symm,?_,?_,fun k hk=>?_,fun k hk=>?_⟩,fun k hk=>?_,rfl,rfl,c2,rfl,rfl,rfl,rfl,rfl,rfl,rfl,rfl,rfl⟩
 ·show w=runF p.ft p.fp p.fa w0 (Zbr p.tracks 0 w.tick.toNat)
  rw [show w.tick.toNat=p.base.tick.toNat + 1 by omega]
  exact hwb
 ·show p.now=runF p.ft p.fp p.fa w (p.used.drop 1)
  rw [h.now]
  conv=>lhs;rw [hsplit,Zm1,hw]
 ·have hk':k < (ZpL w (p.saves.drop 1)).length:=hk
  rw [Zq0,List.length_drop] at hk'
  show Zba (Zbp w) ((ZpL w (p.saves.drop 1)).take (k + 1))=some (Zbp (runF p.ft p.fp p.fa w ((p.used.drop 1).take k)))
  rw [Zu1]
  have h0:=h.saves (k + 1) (by omega)
  have h1:=h.saves 1 (by omega)
  rw [hw] at h1
  match hx:p.saves,hk' with
  | a :: b :: r,hk' =>
   rw [hx] at h0 h1
   show Zba (Zbp w) (ZpL w (b :: r.take k))=_
   rw [ZuG]
   replace h0:Zba (Zbp p.base) ([a,b]++r.take k)=_:=h0
   replace h1:Zba (Zbp p.base) [a,b]=_:=h1
   rw [Zhz,h1] at h0
   replace h0:Zba (Zbp w) (r.take k)=_:=h0
   rw [h0]
   have:p.used.take (k + 1)=p.used.take 1++(p.used.drop 1).take k:=by
    rw [Nat.add_comm k 1,List.take_add]
   rw [this,Zm1,hw]
 ·have hk':k < (p.sums++[Zgm w]).length:=hk
  rw [List.length_append] at hk'
  simp only [List.length_cons,List.length_nil] at hk'
  have hsu:=h.ok.sums
  show (p.sums++[Zgm w]).getD k default=Zgm (runF p.ft p.fp p.fa w0 (Zbr p.tracks 0 k))
  rw [Zd5]
  split
  ·rename_i hkl
   exact h.sums k hkl
  ·rename_i hkl
   have e1:k - p.sums.length=0:=by omega
   have e2:k=p.base.tick.toNat + 1:=by omega
   rw [e1,e2,← hwb]
   rfl
 ·have hk':k < (p.used.drop 1).length:=hk
  rw [List.length_drop] at hk'
  show (p.used.drop 1).getD k default=(rowV p.tracks (w.tick + k)).1
  rw [Zrs,hr (k + 1) (by omega),g2]
  rw [show p.base.tick + ((k + 1:Nat):Int)=p.base.tick + ((1:Nat):Int) + (k:Int) by omega]
theorem Zno.refl (p:Pr):Zno p p:=⟨rfl,rfl,rfl,rfl,rfl,rfl,rfl,rfl,rfl,rfl,rfl⟩
theorem Zno.trans {p q r:Pr} (h:Zno p q) (k:Zno q r):Zno p r:=⟨k.now.trans h.now,k.tracks.trans h.tracks,k.rolls.trans h.rolls,k.again.trans h.again,k.me.trans h.me,k.ahead.trans h.ahead,k.delay.trans h.delay,k.seed.trans h.seed,k.ft.trans h.ft,k.fp.trans h.fp,k.fa.trans h.fa⟩
theorem ZsA {w0:Wd}:∀ {f:Nat} {p:Pr},Good w0 p→Zst p→(p.now.tick - p.base.tick).toNat≤f→Good w0 (Zki f p)∧Zst (Zki f p)∧Zno p (Zki f p)∧¬ ZqE (Zki f p)∧(¬ ZqE p→Zki f p=p)
 | 0,p,h,hr,hf=>⟨h,hr,Zno.refl p,fun hg=>by
   have hg1:p.base.tick < p.now.tick:=hg.1
   omega,fun _=>rfl⟩
 | f + 1,p,h,hr,hf=>by
  by_cases hg:ZqE p
  ·obtain ⟨q,a1,a2,a3,a4,a5,a6,a7,a8,a9,a10,a11,a12,a13,a14,a15⟩:=Zum h hr hg
   have e:Zki (f + 1) p=Zki f q:=by
    show (match ZpE p with|some q=>Zki f q|none=>p)=_
    rw [a1]
   have hl:=h.ok.lead
   obtain ⟨b1,b2,b3,b4,b5⟩:=ZsA (f:=f) a2 a3 (by rw [a4,a6];omega)
   rw [e]
   exact ⟨b1,b2,Zno.trans ⟨a4,a5,a7,a8,a9,a10,a11,a12,a13,a14,a15⟩ b3,b4,fun hn=>absurd hg hn⟩
  ·have e:Zki (f + 1) p=p:=by
    show (match ZpE p with|some q=>Zki f q|none=>p)=_
    have:ZpE p=none:=if_neg hg
    rw [this]
   rw [e]
   exact ⟨h,hr,Zno.refl p,hg,fun _=>rfl⟩
theorem ZsT {w0:Wd} {p:Pr} (h:Good w0 p) (hr:Zst p):Good w0 (confirmV p)∧Zst (confirmV p)∧Zno p (confirmV p)∧(confirmV p).base.tick=min p.now.tick (Zbe p.tracks)∧(p.base.tick=min p.now.tick (Zbe p.tracks)→confirmV p=p):=by
 obtain ⟨a1,a2,a3,a4,a5⟩:=ZsA (f:=(p.now.tick - p.base.tick).toNat) h hr (Nat.le_refl _)
 have e:confirmV p=Zki (p.now.tick - p.base.tick).toNat p:=if_pos (Zbq.2 h.ok)
 rw [e]
 refine ⟨a1,a2,a3,?_,fun hm=>a5 fun hg=>?_⟩
 ·have k1:=a1.ok.lead
  have k2:=a1.ok.known
  have k3:=a1.ok.base.tick
  rw [a3.now] at k1
  rw [a3.tracks] at k2
  have k4:¬ ((Zki (p.now.tick - p.base.tick).toNat p).base.tick < p.now.tick∧(Zki (p.now.tick - p.base.tick).toNat p).base.tick < Zbe p.tracks):=fun hh=>a4 ⟨by rw [a3.now];exact hh.1,by rw [a3.tracks];exact hh.2,by rw [Zta a1.ok a2];omega⟩
  omega
 ·have:=hg.1
  have:=hg.2.1
  omega
end Go.Proofs.YthfaongbpdnlnaaGreat
namespace Go.Proofs.YthfaongbpdnlnaaGreat.Ab
set_option maxHeartbeats 4000000
set_option maxRecDepth 20000
set_option linter.unusedSimpArgs false
set_option linter.unusedVariables false
open Go.RowKit
section
variable {P:Program} {B:Nat→Prop} {W:En} {o:Oper} {st:St} {KE:V→List (Nat×Nat×Ob)→Prop}
theorem OpS.store_hole {ty:TypeId} {x z:Operand} {i ep n off q:Nat} {zz z2:V} {e:TypeId} {els:List (List T)} {y:Ty} {v:V} {s:Nat} (ho:o.op=.store ty x z) (hx:st.ev x=.ptr i ep n off) (hl:look st.objs i=some (ep,.hole e els q zz)) (hy:Zac P ty=some y)
  (hz:st.ev z=v) (hc:ZaT v=[z2]) (hs:V.sto z2=true) {ye:Ty} (hye:Zac P e=some ye) (hsz:ye.size=s) (hq:q=n * s + off) (hsy:y.size=1) (hK:KE (.lit undef) [(i,ep,.hole e els q z2)]):OpS P B W o st KE:=by
 subst hz
 have hs':(ZaT (st.ev z)).all V.sto=true:=by rw [hc];simp [hs]
 refine OpS.chg (ks:=[]) hK (fun x e h=>by cases h) fun a w pl F h=>?_
 have h1:=h.ev x
 rw [hx] at h1
 obtain ⟨_,ep',ob,h2,h3,h4⟩:C0 P w (look st.objs) pl (Free B W.o (look st.objs) F w) (.ptr i ep n off) (a.eval x):=h1
 rw [hl] at h2
 cases h2
 obtain ⟨g,bb,hg,hu⟩:=h4 rfl
 obtain ⟨us,fs,s1,s2,s3,s4,s5,s6,s7,s8,s9⟩:=h.objs i _ _ hl
 have hes:P.cellsOf e=s:=by rw [ZeD hye,hsz]
 obtain ⟨vs,hv1,hv2,hv3⟩:=((h.ev z).c1 hs').cells hs'
 have hlen:vs.length=1:=by rw [hv2.1,hc];rfl
 have key:∃ cap cur fz,pl i=.slice (some ⟨g,bb,none⟩) els.length cap∧w.heap[g]?=some (.cells cur e fz)∧(fz=(0,0)∨cur.size≤fz.1)∧els.length≤cap∧cap≤maxLen∧bb + cap * P.cellsOf e≤cur.size∧(cur.toList.drop bb).take (els.length * P.cellsOf e)=us:=by
  rcases s1.2 with ⟨h0,h0'⟩|⟨g',off',cap,cur,fz,e1,rest⟩
  ·have h0:=s1.1
   rw [h0'] at h0
   omega
  ·rw [e1] at hg
   simp only [blk,Option.some.injEq,Prod.mk.injEq] at hg
   obtain ⟨rfl,rfl⟩:=hg
   exact ⟨cap,cur,fz,e1,rest⟩
 obtain ⟨cap,cur,fz,k1,k3,k4,k5,k6,k7,k8⟩:=key
 have hul:us.length=els.length * P.cellsOf e:=s1.1
 have hcap:bb + els.length * P.cellsOf e≤cur.size:=Nat.le_trans (Nat.add_le_add_left (Nat.mul_le_mul_right _ k5) _) k7
 have hqe:n * P.cellsOf e + off=q:=by rw [hes,hq]
 have hrun:=ZbQ P g (bb + q) e fz vs 0 cur w k3 k4 (by omega) hv3
 have hcur:(cur.toList.take (bb + q + 0)++vs++cur.toList.drop (bb + q + 0 + vs.length))=setRange cur.toList (bb + q) vs:=rfl
 rw [hcur] at hrun
 have htop:(pl i).ownBlock=some g:=by rw [k1];rfl
 have hFg:F i g:=(s8 g).2 (.inl htop)
 have k2:W.o g:=(h.range i _ g hl hFg).1
 have hu':a.eval x=.pointer (some ⟨g,bb + q,none⟩):=by rw [← hqe];exact hu
 have hother:∀ b,¬ (b=g)→(w.setRow g (setRange cur.toList (bb + q) vs).toArray).heap[b]?=w.heap[b]?:=fun b hb=>setRow_other w g _ b hb
 refine ⟨_,_,pl i,F i,undef,ZgA ho hy hu' (by rw [hv1];simp;omega) (by rw [hv1];exact hrun),.inr ⟨rfl,rfl⟩,below_setRow k2 _,fun b hb hf=>setRow_other w g _ b fun e=>hf _ hl (e▸hFg),fun ep0 ob0 h0=>?_,fun h0=>(by rw [hl] at h0;cases h0),fun b hb=>.inr (.inl ⟨_,hl,hb⟩),fun lk' pl' Fr' gg _ _ _=>⟨?_,rfl⟩⟩
 ·rw [hl] at h0;cases h0;exact .inr ⟨rfl,rfl,rfl,rfl⟩
 ·refine ⟨setRange us q vs,fs,?_,s2,by rw [ZaL _ _ _ (by omega)];exact s3,fun k y u hk hy hu=>?_,fun u hu=>?_,s6,s7,s8,by rw [ZaL _ _ _ (by omega)];exact s9⟩
  ·refine ⟨by rw [ZaL _ _ _ (by omega)];exact s1.1,.inr ⟨g,bb,cap,_,fz,k1,setRow_heap w g cur _ e fz k3,?_,k5,k6,?_,?_⟩⟩
   ·rcases k4 with k4|k4
    ·exact .inl k4
    ·exact .inr (by rw [List.size_toArray,ZaL _ _ _ (by simp;omega)];simpa using k4)
   ·rw [List.size_toArray,ZaL _ _ _ (by simp;omega)];simpa using k7
   ·rw [List.toList_toArray,Zgd _ _ _ _ (by simp;omega),Zge _ _ _ _ (by omega) (by simp;omega),k8]
  ·rw [Zby _ _ _ _ (by omega),if_neg (by omega)] at hu
   refine (s4 k y u hk hy hu).keep fun b hb=>hother b fun e=>?_
   exact s7 k b hk hb (e▸htop)
  ·rw [Zby _ _ _ _ (by omega),if_pos (by omega),Nat.sub_self] at hu
   exact C0.goes gg (hv2.2 0 z2 u (by rw [hc];rfl) hu)
end
theorem pxhst {X Y:Prop} (h:Y) (r:Hld Y→X:=by intro h;(refine Zab (n:=8) ?_;exact OpS.store_hole rfl rfl rfl (Tryz.ti rfl) rfl (by first|exact (show ZaT (V.hnd _ _)=[V.hnd _ _] from rfl)|exact rfl) rfl (Tryz.ti rfl) rfl (by first|(simp;done)|(simp;omega)) rfl h.out)):X:=r ⟨h⟩
end Go.Proofs.YthfaongbpdnlnaaGreat.Ab
namespace Go.Proofs.YthfaongbpdnlnaaGreat
set_option maxHeartbeats 4000000
set_option maxRecDepth 20000
set_option linter.unusedSimpArgs false
set_option linter.unusedVariables false
open Go.RowKit Ab
noncomputable def Zsg (p:Pr) (input:Int):Pr:=if ZoT p input then { p with tracks:=p.tracks.set p.me.toNat (ZtA p++[input]) } else p
theorem ZtM {ts:TS} {m:Nat} {x:Int} (hm:m < ts.length):(ts.set m (ts.getD m default++[x])).map trackC=(ts.map trackC).set m (((ts.map trackC).getD m []).set 0 (.lst true 3 (Zak (ts.getD m default)++[[.int .i64 x]]))):=by
 rw [List.map_set,getD_map hm]
 have h:Zak (ts.getD m default++[x])=Zak (ts.getD m default)++[[T.int .i64 x]]:=by simp [Zak,intC]
 rw [← h]
 rfl
theorem Zuu {ts:TS} {m:Nat} (hm:m < ts.length):(ts.map trackC).flatten[m]?=some (.lst true 3 (Zak (ts.getD m default))):=by
 rw [Zh2,List.getElem?_map,List.getElem?_eq_getElem hm,List.getD_eq_getElem?_getD,List.getElem?_eq_getElem hm]
 rfl
def cutAt:List UInt8→List UInt8→List (List UInt8)
 | cur,[]=>[cur]
 | cur,b :: r=>if b=47 then cur :: cutAt [] r else cutAt (cur++[b]) r
def text1:List UInt8:=[35,35,35,35,35,35,47,35,49,46,111,50,35,47,35,46,35,35,46,35,47,35,111,46,46,111,35,47,35,35,35,35,35,35]
def text2:List UInt8:=[35,35,35,35,35,35,35,35,35,35,47,35,49,46,46,111,46,46,46,50,35,47,35,46,46,35,35,46,35,35,46,35,47,35,111,46,46,51,46,46,111,52,35,47,35,35,35,35,35,35,35,35,35,35]
def text3:List UInt8:=[35,35,35,35,47,35,46,46,35,47,35,35,35,35]
def text4:List UInt8:=[35,35,35,35,35,35,35,35,47,35,49,46,50,46,111,111,35,47,35,35,35,35,35,35,35,35]
def text5:List UInt8:=[35,35,35,35,35,35,35,47,35,46,46,111,46,46,35,47,35,46,35,35,35,46,35,47,35,46,49,46,50,46,35,47,35,35,35,35,35,35,35]
def lv1:Lv:=cutAt [] text1
def lv2:Lv:=cutAt [] text2
def lv3:Lv:=cutAt [] text3
def lv4:Lv:=cutAt [] text4
def lv5:Lv:=cutAt [] text5
theorem ZsL {l:Lv} {n w:Nat} {R C:Nat→Nat} (hn:l.length=n) (hw:Zad l=w) (h:Looks l n w R C) (h3:3≤n) (h12:n≤12) (h4:4≤w) (h20:w≤20) {p q:Nat} (hp:p < n) (hq:q < w) (ho:Zam l p q ≠ 35):ZaZ l:=by
 subst hn hw
 refine ⟨h3,h12,h4,h20,fun r hr=>(h r hr).1,fun r c hr hc=>((h r hr).2 c hc).1,fun r c hr hc he=>((h r hr).2 c hc).2.1 he,fun r c r' c' hr hc hr' hc' e g1 g2=>?_,p,q,hp,hq,ho⟩
 have a1:=((h r hr).2 c hc).2.2 ⟨g1,g2⟩
 have a2:=((h r' hr').2 c' hc').2.2 ⟨by omega,by omega⟩
 rw [← e] at a2
 omega
theorem lv1_ok:ZaZ lv1:=ZsL (n:=5) (w:=6) (R:=fun _=>1) (C:=fun t=>if t=49 then 1 else 4) (by decide) (by decide) (by decide) (by decide) (by decide) (by decide) (by decide) (p:=1) (q:=1) (by decide) (by decide) (by decide)
theorem lv2_ok:ZaZ lv2:=ZsL (n:=5) (w:=10) (R:=fun t=>if t≤50 then 1 else 3) (C:=fun t=>if t=49 then 1 else if t=51 then 4 else 8) (by decide) (by decide) (by decide) (by decide) (by decide) (by decide) (by decide) (p:=1) (q:=1) (by decide) (by decide) (by decide)
theorem lv3_ok:ZaZ lv3:=ZsL (n:=3) (w:=4) (R:=fun _=>1) (C:=fun _=>1) (by decide) (by decide) (by decide) (by decide) (by decide) (by decide) (by decide) (p:=1) (q:=1) (by decide) (by decide) (by decide)
theorem lv4_ok:ZaZ lv4:=ZsL (n:=3) (w:=8) (R:=fun _=>1) (C:=fun t=>if t=49 then 1 else 3) (by decide) (by decide) (by decide) (by decide) (by decide) (by decide) (by decide) (p:=1) (q:=1) (by decide) (by decide) (by decide)
theorem lv5_ok:ZaZ lv5:=ZsL (n:=5) (w:=7) (R:=fun _=>3) (C:=fun t=>if t=49 then 2 else 4) (by decide) (by decide) (by decide) (by decide) (by decide) (by decide) (by decide) (p:=3) (q:=2) (by decide) (by decide) (by decide)
theorem Zv5 {X Y:Prop} (h:Y) (r:Hld Y→X:=by intro h;exact pdr [13,16] 11 (by (apply pct 11 2047 0;(focus (intro hd6;(apply pct 11 1023 1;(focus (intro hd5;(apply pct 11 767 2;(focus (intro hd4;(apply pct 11 511 2;(focus (intro hd3;(apply pct 11 703 3;(focus (intro hd2;(apply pct 11 255 3;(focus (intro hd1;(refine pt0_ 0 ?_<;>refine pt0_ 1 ?_<;>refine pt0_ 2 ?_<;>refine pt0_ 3 ?_<;>refine pt7_ 4 ?_<;>refine pt7_ 5 ?_<;>refine pt7_ 7 ?_<;>(refine pq2 6 9 ?_ ?_;(focus ((refine pop ?_;(refine z9 ?_;(refine pz3 hcw ?_)))<;>(exact ptm hd1)));(focus ((refine pop ?_;refine pk3 ?_)<;>(exact ptm hd2)))))));(case main=>((refine pq2 8 9 ?_ ?_;(focus ((refine pop ?_;refine pk5 ?_)<;>(exact ptm hd3)));(focus ((refine pop ?_;refine pk3 ?_)<;>(exact ptm hd4)))))))));(case main=>((refine pq1 6 ?_;(focus ((refine pop ?_;(refine z9 ?_;(refine pz3 hcw ?_)))<;>(exact ptw hd4)))))))));(case main=>((refine pq1 9 ?_;(focus ((refine pop ?_;refine pk3 ?_)<;>(exact ptm hd5)))))))));(case main=>((refine pq1 8 ?_;(focus ((refine pop ?_;refine pk5 ?_)<;>(exact ptw hd5)))))))));(case main=>((refine pq1 10 ?_;(focus ((refine pop ?_;refine pk8 ?_)<;>(exact ptm hd6)))))))));(case main=>((refine ZaI ?_;exact ZaJ))))) h.out):X:=r ⟨h⟩
theorem T90d3 {X Y:Prop} (h:Y) (r:Hld Y→X:=by intro h;exact pdr [] 9 (by (apply pct 9 511 0;(focus (intro hd9;(apply pct 9 127 2;(focus (intro hd8;(apply pct 9 63 3;(focus (intro hd7;(apply pct 9 61 4;(focus (intro hd6;(apply pct 9 31 4;(focus (intro hd5;(apply pct 9 29 5;(focus (intro hd4;(apply pct 9 15 5;(focus (intro hd3;(apply pct 9 13 6;(focus (intro hd2;(apply pct 9 7 6;(focus (intro hd1;(refine ZaC 0 ?_<;>refine pt0_ 2 ?_<;>(refine pq2 1 3 ?_ ?_;(focus ((refine pop ?_;refine pk7 ?_)<;>(exact ptm hd1)));(focus ((refine pop ?_;refine pk13 ?_)<;>(exact ptm hd2)))))));(case main=>((refine pq1 3 ?_;(focus ((refine pop ?_;refine pk13 ?_)<;>(exact ptm hd3)))))))));(case main=>((refine pq2 1 4 ?_ ?_;(focus ((refine pop ?_;refine pk7 ?_)<;>(exact ptw hd3)));(focus ((refine pop ?_;refine pk5 ?_)<;>(exact ptm hd4)))))))));(case main=>((refine pq1 4 ?_;(focus ((refine pop ?_;refine pk5 ?_)<;>(exact ptm hd5)))))))));(case main=>((refine pq2 1 5 ?_ ?_;(focus ((refine pop ?_;refine pk7 ?_)<;>(exact ptw hd5)));(focus ((refine pop ?_;(first|refine ZaX ?_|refine pk6 ?_))<;>(exact ptm hd6)))))))));(case main=>((refine pq1 5 ?_;(focus ((refine pop ?_;(first|refine ZaX ?_|refine pk6 ?_))<;>(exact ptm hd7)))))))));(case main=>((refine pq1 1 ?_;(focus ((refine pop ?_;refine pk7 ?_)<;>(exact ptw hd7)))))))));(case main=>((refine pq1 6 ?_;(focus ((refine pop ?_;refine pk20 ?_)<;>(exact ptm hd8)))))))));(case main=>(refine ZaC 7 ?_<;>(refine pq1 8 ?_;(focus ((refine pop ?_;refine pk8 ?_)<;>(exact ptm hd9)))))))));(case main=>((refine ZaI ?_;exact ZaJ))))) h.out):X:=r ⟨h⟩
def zeroPr:Pr:=⟨0,0,0,0,[],⟨[],0,0,[],[]⟩,⟨[],0,0,[],[]⟩,[],[],[],0,0,0,0,0⟩
noncomputable def Zup (l:Lv) (n seed me delay ahead ft fp fa:Int):Pr:=if ZsV l n seed me delay ahead ft fp fa then ZsD l n seed me delay ahead ft fp fa else zeroPr
theorem ZuR (k d:Nat):(List.replicate (k + 1) (List.replicate d (0:Int))).map trackC=(List.replicate k (List.replicate d (0:Int))).map trackC++[[T.lst true 3 (List.replicate ((d:Int)).toNat [T.int .i64 0])]]:=by
 rw [List.replicate_succ',List.map_append,Int.toNat_natCast]
 simp [trackC,ints,Zak,intC]
theorem Zuq (l:Lv) (n seed:Int):(ZeI l n seed).level.length≤1048576∧(ZeI l n seed).scores.length≤1048576∧(ZeI l n seed).bodies.length≤1048576:=by
 unfold ZeI
 split
 ·rename_i h
  have hw:ZaV (newV l n.toNat seed):=ZtK h.1 (by have:=h.2.1;omega) h.2.2
  have a1:=hw.level.n12
  have a2:=hw.n
  have a3:=hw.m
  exact ⟨by omega,by omega,by omega⟩
 ·exact ⟨Nat.zero_le _,Nat.zero_le _,Nat.zero_le _⟩
theorem Ext.refl (ts:TS):Ext ts ts:=⟨rfl,fun _ _=>⟨[],by rw [List.append_nil]⟩⟩
theorem Zs6 {w0:Wd} {p:Pr} {us:TS} (h:Good w0 p) (he:Ext p.tracks us) (hok:Zan us=true):Good w0 { p with tracks:=us }:=by
 have hb:=h.ok.base.tick
 have hk:=h.ok.known
 have hsu:=h.ok.sums
 have hrows:∀ n:Nat,(n:Int)≤Zbe p.tracks→Zbr us 0 n=Zbr p.tracks 0 n:=fun n hn=>Zus h.ok.tracks hok (Int.le_refl _) fun t h1 h2=>he.same h.ok.tracks (by omega)
 have hmine:(p.tracks.getD p.me.toNat default).length≤(us.getD p.me.toNat default).length:=by
  have hme:=h.ok.me
  obtain ⟨s,hs⟩:=he.2 p.me.toNat (by omega)
  rw [hs,List.length_append]
  omega
 refine ⟨⟨hok,h.ok.base,h.ok.now,h.ok.level,h.ok.nb.trans he.1.symm,h.ok.nn.trans he.1.symm,?_,?_,h.ok.delay,h.ok.ahead,h.ok.seed,h.ok.rolls,h.ok.again,h.ok.lead,h.ok.used,h.ok.saves,fun k hk=>?_,h.ok.ticks,Int.le_trans hk (he.known h.ok.tracks hok),?_,hsu⟩,h.w0ok,h.w0tick,h.w0n.trans he.1.symm,h.w0level,?_,h.now,h.saves,fun k hk=>?_⟩
 ·show ZcX p.ft p.fp p.fa us.length=true
  rw [he.1];exact h.ok.fault
 ·show 0≤p.me∧p.me≤(us.length:Int) - 1
  rw [he.1];exact h.ok.me
 ·show ZbD (p.used.getD k default) us.length=true
  rw [he.1];exact h.ok.rows k hk
 ·show p.now.tick≤((us.getD p.me.toNat default).length:Int)
  have:=h.ok.mine
  omega
 ·show p.base=runF p.ft p.fp p.fa w0 (Zbr us 0 p.base.tick.toNat)
  rw [hrows _ (by omega)]
  exact h.base
 ·have hk':k < p.sums.length:=hk
  show p.sums.getD k default=Zgm (runF p.ft p.fp p.fa w0 (Zbr us 0 k))
  rw [hrows k (by omega)]
  exact h.sums k hk'
theorem ZuP {p:Pr} {input:Int} (hp:Zic p):Ext p.tracks (Zsg p input).tracks∧Zan (Zsg p input).tracks=true∧Zsg p input={ p with tracks:=(Zsg p input).tracks }:=by
 have hme:=hp.me
 unfold Zsg
 split
 ·rename_i h
  obtain ⟨_,h2,h3,h4⟩:=h
  have ht:=ZfG hp.tracks (k:=p.me.toNat) (by omega)
  refine ⟨ZuF (by omega) [input],ZsX hp.tracks (by omega) ?_,rfl⟩
  obtain ⟨t1,t2⟩:=Zso.1 ht
  refine Zso.2 ⟨by rw [List.length_append];simp;omega,fun x hx=>?_⟩
  rcases List.mem_append.1 hx with hx|hx
  ·exact t2 x hx
  ·rw [List.mem_singleton.1 hx];exact h2
 ·exact ⟨Ext.refl _,hp.tracks,rfl⟩
theorem Zun {w0:Wd} {p:Pr} {input:Int} (h:Good w0 p):Good w0 (Zsg p input)∧(Zst p→Zst (Zsg p input)):=by
 obtain ⟨h1,h2,h3⟩:=ZuP (input:=input) h.ok
 refine ⟨by rw [h3];exact Zs6 h h1 h2,fun hr=>?_⟩
 have hu:=h.ok.used
 have hm:=h.ok.mine
 have hb:=h.ok.base.tick
 have hme:=h.ok.me
 by_cases hc:ZoT p input
 ·have e:Zsg p input={ p with tracks:=p.tracks.set p.me.toNat (ZtA p++[input]) }:=if_pos hc
  rw [e] at h2 ⊢
  intro k hk
  have hk':k < p.used.length:=hk
  show p.used.getD k default=(rowV (p.tracks.set p.me.toNat (ZtA p++[input])) (p.base.tick + k)).1
  rw [hr k hk']
  refine (Zuc h.ok.tracks h2 (by omega) ⟨List.length_set,fun j hj=>?_⟩).symm
  show (p.tracks.set p.me.toNat (ZtA p++[input])).getD j default=_∨_
  rw [ZsJ (by omega)]
  split
  ·rename_i ej
   refine .inr ⟨by rw [← ej];omega,[input],?_⟩
   rw [← ej]
   rfl
  ·exact .inl rfl
 ·have e:Zsg p input=p:=if_neg hc
  rw [e]
  exact hr
theorem Zul {w0:Wd} {p:Pr} {x:PkV} (h:Good w0 p) (h1:x.fr ≠ p.me) (h2:(Zsk p x).2=true):∃ q,Zsj p x=some q∧Good w0 q∧Zst q∧q.tracks=(Zsk p x).1∧q.now.tick=p.now.tick∧q.base.tick=min p.now.tick (Zbe (Zsk p x).1)∧q.me=p.me∧q.ahead=p.ahead∧q.delay=p.delay∧q.seed=p.seed∧q.ft=p.ft∧q.fp=p.fp∧q.fa=p.fa:=by
 obtain ⟨e1,e2,_,_,_,_⟩:=Ztb h.ok h2
 have hg:=Zs6 h e1 e2
 obtain ⟨r,a1,a2,a3,a4,a5,_⟩:=ZtZ hg
 obtain ⟨b1,b2,b3,b4,_⟩:=ZsT a2 a3
 refine ⟨confirmV r,?_,b1,b2,b3.tracks.trans a4.tracks,?_,?_,b3.me.trans a4.me,b3.ahead.trans a4.ahead,b3.delay.trans a4.delay,b3.seed.trans a4.seed,b3.ft.trans a4.ft,b3.fp.trans a4.fp,b3.fa.trans a4.fa⟩
 ·unfold Zsj
  rw [if_pos ⟨Zbq.2 h.ok,h1,h2⟩,a1]
  rfl
 ·rw [b3.now];exact a5
 ·rw [b4,a5,a4.tracks]
theorem Zu2 {l:Lv} {n seed me delay ahead ft fp fa:Int} (h:ZsV l n seed me delay ahead ft fp fa):Good (ZeI l n seed) (ZsD l n seed me delay ahead ft fp fa)∧Zst (ZsD l n seed me delay ahead ft fp fa):=by
 obtain ⟨h1,h2,h3⟩:=h
 have hw:ZeI l n seed=newV l n.toNat seed:=if_pos h1
 have hwp:ZaV (ZeI l n seed):=by rw [hw];exact ZtK h1.1 (by have:=h1.2.1;omega) h1.2.2
 have ht0:(ZeI l n seed).tick=0:=by rw [hw];rfl
 have hpo:=Zbq.1 h3
 have hn:(ZeI l n seed).scores.length=(ZsD l n seed me delay ahead ft fp fa).tracks.length:=hpo.nb
 refine ⟨⟨hpo,hwp,ht0,hn,rfl,?_,rfl,fun k hk=>absurd hk (Nat.not_lt_zero _),fun k hk=>?_⟩,fun k hk=>absurd hk (Nat.not_lt_zero _)⟩
 ·show ZeI l n seed=runF ft fp fa (ZeI l n seed) (Zbr _ 0 (ZeI l n seed).tick.toNat)
  rw [ht0]
  rfl
 ·have hk':k < 1:=hk
  have:k=0:=by omega
  subst this
  rfl
theorem ZtN {α:Type} [Inhabited α] {n k:Nat} {x:α} (h:k < n):(List.replicate n x).getD k default=x:=by simp [h]
theorem Zs7 {l:Lv} {n seed me delay ahead ft fp fa:Int} (h:Zer l n seed) (hm:0≤me∧me < n) (hd:0≤delay∧delay≤5) (ha:1≤ahead∧ahead≤8) (hf:ZcX ft fp fa n=true):ZsV l n seed me delay ahead ft fp fa:=by
 have hw:ZeI l n seed=newV l n.toNat seed:=if_pos h
 have hn:=h.2.1
 have hwp:ZaV (ZeI l n seed):=by rw [hw];exact ZtK h.1 (by omega) h.2.2
 have ht0:(ZeI l n seed).tick=0:=by rw [hw];rfl
 have hsc:(ZeI l n seed).scores.length=n.toNat:=by rw [hw];exact List.length_replicate
 have htl:(ZsD l n seed me delay ahead ft fp fa).tracks.length=n.toNat:=List.length_replicate
 refine ⟨h,hd,Zbq.2 ⟨?_,hwp,hwp,rfl,hsc.trans htl.symm,hsc.trans htl.symm,?_,?_,hd,ha,h.2.2,?_,?_,?_,?_,?_,fun k hk=>absurd hk (Nat.not_lt_zero _),fun k hk=>absurd hk (Nat.not_lt_zero _),?_,?_,?_⟩⟩
 ·refine Ztd (by rw [htl];omega) fun k hk=>?_
  rw [htl] at hk
  show ZaH ((List.replicate n.toNat (List.replicate delay.toNat (0:Int))).getD k default)=true
  rw [ZtN hk]
  refine Zso.2 ⟨by rw [List.length_replicate];omega,fun x hx=>?_⟩
  rw [List.eq_of_mem_replicate hx]
  omega
 ·rw [htl,show ((n.toNat:Nat):Int)=n by omega]
  exact hf
 ·rw [htl]
  show 0≤me∧me≤((n.toNat:Nat):Int) - 1
  omega
 ·exact ⟨Int.le_refl _,by show (0:Int)≤1000000;omega⟩
 ·exact ⟨Int.le_refl _,by show (0:Int)≤1000000;omega⟩
 ·show 0≤(ZeI l n seed).tick - (ZeI l n seed).tick∧(ZeI l n seed).tick - (ZeI l n seed).tick≤ahead
  omega
 ·show ((0:Nat):Int)=(ZeI l n seed).tick - (ZeI l n seed).tick
  omega
 ·show ((0:Nat):Int)=(ZeI l n seed).tick - (ZeI l n seed).tick
  omega
 ·show (ZeI l n seed).tick≤Zbe _
  rw [ht0]
  exact Zu3
 ·show (ZeI l n seed).tick≤_
  rw [ht0]
  exact Int.natCast_nonneg _
 ·show ((1:Nat):Int)=(ZeI l n seed).tick + 1
  rw [ht0]
  rfl
structure Zsw (m:Nat) (p:Pr):Prop where
 new:Zer p.base.level p.tracks.length p.seed
 good:Good (newV p.base.level p.tracks.length p.seed) p
 right:Zst p
 short:∀ k,k < p.tracks.length→(p.tracks.getD k default).length≤m
def Zsm (xs:List Int):List (List T):=xs.map fun x=>[T.int .u8 x]
theorem Zvt (xs:List Int):AC Tryz.prog 14 [.t (.lst true 5 (Zsm xs))] (.t (.bool (decide (1048576 < (xs.length:Int))))):=by
 have hel:(Zsm xs).length=xs.length:=List.length_map _
 refine AC.go Tryz.func14 Tryz.ntmps14 fun B W hr=>?_
 repeat' (first|refine pa ?_|(refine pb ?_ ?_<;>intro hg)|refine po ?_|fail)
 exact pfr
end Go.Proofs.YthfaongbpdnlnaaGreat
namespace Go.Proofs.YthfaongbpdnlnaaGreat.Ab
set_option maxHeartbeats 4000000
set_option maxRecDepth 20000
set_option linter.unusedSimpArgs false
set_option linter.unusedVariables false
open Go.RowKit
def ZsK (P:Program):List Field→Nat→Bool
 | [],_=>true
 | f :: fs,k=>(match P.underlying f.type with|some (.int .i64)=>true|_=>false) && Nat.beq f.offset k && !(f.name == "_") && ZsK P fs (k + 1)
theorem ZsI {P:Program} (w:World) (d:Nat) {us vs:Array Value}:∀ (fs:List Field) (k:Nat) (cs ds:List Int),ZsK P fs k=true→cs.length=fs.length→ds.length=fs.length →
  (∀ (j:Nat) (c:Int),cs[j]?=some c→us[k + j]?=some (.int .i64 c))→(∀ (j:Nat) (c:Int),ds[j]?=some c→vs[k + j]?=some (.int .i64 c))→(Op.eqFields (d + 1) us vs fs).run P w=.ok (decide (cs=ds)) w
 | [],k,[],[],_,_,_,_,_=>by simp [Op.eqFields]
 | f :: fs,k,c :: cs,e :: ds,hf,hc,hd,hu,hv=>by
  unfold ZsK at hf
  simp only [Bool.and_eq_true] at hf
  obtain ⟨⟨⟨h1,h2⟩,h3⟩,h4⟩:=hf
  have h2:=Nat.eq_of_beq_eq_true h2
  have hn:f.name ≠ "_":=by
   intro e
   rw [e] at h3
   exact absurd h3 (by decide)
  have ht:P.underlying f.type=some (.int .i64):=by
   revert h1
   split
   ·intro _;assumption
   ·intro h;cases h
  have ha:(Go.isAgg f.type).run P w=.ok false w:=by
   unfold Go.isAgg
   rw [Sem.run_bind,run_underlying ht,Result.andThen_ok]
   rfl
  have p1:(part f.type us f.offset).run P w=.ok (.int .i64 c) w:=by
   unfold part
   rw [Sem.run_bind,ha,Result.andThen_ok]
   have:=hu 0 c rfl
   rw [Nat.add_zero,← h2] at this
   simp [this]
  have p2:(part f.type vs f.offset).run P w=.ok (.int .i64 e) w:=by
   unfold part
   rw [Sem.run_bind,ha,Result.andThen_ok]
   have:=hv 0 e rfl
   rw [Nat.add_zero,← h2] at this
   simp [this]
  unfold Op.eqFields
  rw [if_pos hn,Sem.run_bind,p1,Result.andThen_ok,Sem.run_bind,p2,Result.andThen_ok,Sem.run_bind,run_equalIn_int w d f.type .i64 .i64 c e ht,Result.andThen_ok]
  by_cases hce:c=e
  ·subst hce
   have ih:=ZsI w d fs (k + 1) cs ds h4 (by simpa using hc) (by simpa using hd) (fun j x hj=>by have:=hu (j + 1) x hj;rwa [show k + (j + 1)=k + 1 + j by omega] at this) fun j x hj=>by have:=hv (j + 1) x hj;rwa [show k + (j + 1)=k + 1 + j by omega] at this
   simp [ih]
  ·have:¬ (c :: cs=e :: ds):=fun h=>hce (List.cons.inj h).1
   simp [hce,this]
section
variable {P:Program} {B:Nat→Prop} {W:En} {o:Oper} {st:St} {KE:V→List (Nat×Nat×Ob)→Prop}
def intV (n:Int):V:=.t (.int .i64 n)
def cmpI (op:BinOp) (cs ds:List Int):Option Bool :=
 match op with
 | .eql=>some (decide (cs=ds)) | .neq=>some (!decide (cs=ds))|_=>none
theorem Zt8 {w:World} {lk:Nat→Option (Nat×Ob)} {pl:Nat→Value} {Fr:Nat→Prop} {cs:List Int} {u:Value} (h:C2 P w lk pl Fr (.agg (cs.map intV)) u):∃ us:Array Value,u=.agg us∧∀ (j:Nat) (c:Int),cs[j]?=some c→us[j]?=some (.int .i64 c):=by
 obtain ⟨us,h1,h2,h3⟩:=h
 refine ⟨us.toArray,h1,fun j c hj=>?_⟩
 have hl:j < us.length:=by rw [h2,List.length_map];exact (List.getElem?_eq_some_iff.1 hj).1
 have h4:Rd P w Fr (.int .i64 c) us[j]:=h3 j (intV c) us[j] (by rw [List.getElem?_map,hj];rfl) (List.getElem?_eq_getElem hl)
 have h5:us[j]=.int .i64 c:=by
  generalize us[j]=u at h4
  cases h4
  rfl
 rw [List.getElem?_toArray,List.getElem?_eq_getElem hl,h5]
theorem OpS.cmp_ints {op:BinOp} {t t':TypeId} {x y:Operand} {xs ys:List V} {cs ds:List Int} {b:Bool} {fs:Array Field} (hK:KE (.t (.bool b)) []) (ho:o.op=.binOp op t x y t':=by exact rfl) (hx:st.ev x=.agg xs:=by exact rfl) (hy:st.ev y=.agg ys:=by exact rfl)
  (hxs:xs=cs.map intV:=by exact (show _=List.map intV [_,_,_,_,_,_,_,_,_] from rfl)) (hys:ys=ds.map intV:=by exact (show _=List.map intV [_,_,_,_,_,_,_,_,_] from rfl)) (hfs:P.fieldsOf t=fs:=by exact rfl) (ht:P.underlying t=some (.struct fs):=by exact rfl) (hp:P.stoodInHeld t=false:=by exact rfl) (hm:P.eqGuardType P.depth t=false:=by kernel_rfl)
  (hf:ZsK P fs.toList 0=true:=by exact rfl) (hc:cs.length=fs.toList.length:=by exact rfl) (hd:ds.length=fs.toList.length:=by exact rfl) (hb:cmpI op cs ds=some b:=by exact rfl):OpS P B W o st KE :=
 OpS.pure_ hK fun a w pl F hs=>by
  refine ⟨.bool b,?_,Rd.bool⟩
  unfold execOp
  rw [ho]
  have h1:=hs.ev x
  have h2:=hs.ev y
  rw [hx,hxs] at h1
  rw [hy,hys] at h2
  obtain ⟨us,e1,g1⟩:=Zt8 h1
  obtain ⟨vs,e2,g2⟩:=Zt8 h2
  have hq:(Op.equalIn 10000 t (.agg us) (.agg vs)).run P w=.ok (decide (cs=ds)) w:=by
   rw [run_equalIn_agg w 9999 t us vs (by rw [hfs];exact ht) hp,hfs]
   exact ZsI w 9998 fs.toList 0 cs ds hf hc hd (fun j c hj=>by rw [Nat.zero_add];exact g1 j c hj) fun j c hj=>by rw [Nat.zero_add];exact g2 j c hj
  refine Zap ?_
  rw [e1,e2,Sem.run_bind,run_eqGuard_agg w op t x y us vs hm,Result.andThen_ok]
  cases op<;>simp only [cmpI,Option.some.injEq,reduceCtorEq] at hb<;>subst hb
  ·rw [run_eql_struct,hq,Result.andThen_ok]
  ·rw [run_neq_struct,hq,Result.andThen_ok]
end
theorem pxeqs {X Y:Prop} (h:Y) (r:Hld Y→X:=by intro h;(refine Zab (n:=10) ?_;exact OpS.cmp_ints h.out)):X:=r ⟨h⟩
end Go.Proofs.YthfaongbpdnlnaaGreat.Ab
namespace Go.Proofs.YthfaongbpdnlnaaGreat
set_option maxHeartbeats 4000000
set_option maxRecDepth 20000
set_option linter.unusedSimpArgs false
set_option linter.unusedVariables false
open Go.RowKit Ab
theorem Ztv (w:Wd) (hb:w.bodies.length≤1048576):AC Tryz.prog 25 [.agg [.t (.lst true 9 (Zai w.level)),.t (.int .i64 w.tick),.t (.int .i64 w.seed),.t (ints 3 w.scores),.t (.lst true 114 (w.bodies.map bodyC))],.agg [.t (.lst true 9 (Zai w.level)),.t (.int .i64 w.tick),.t (.int .i64 w.seed),.t (ints 3 w.scores),.t (.lst true 114 (w.bodies.map bodyC))]] (.t (.bool true)):=by
 have hli:=ZrI w.scores w.scores
 have hlv:=ZgV w.level w.level
 rw [decide_eq_true rfl] at hli hlv
 have hbl:(w.bodies.map bodyC).length=w.bodies.length:=List.length_map _
 refine AC.go Tryz.func25 Tryz.ntmps25 fun B W hr=>?_
 repeat' (first|refine pa ?_|(refine pb ?_ ?_<;>intro hg)|(refine z9 ?_;(first|refine Zaa hli ?_|refine Zaa hlv ?_))|refine po ?_|fail)
 refine aW.loopF rfl (fun q:Nat=>[(5,.t (.int .i64 q))]) [(2,_),(3,_)] (fun q=>[]) [(2,_,_),(3,_,_)] (fun q=>q≤w.bodies.length) (fun q=>w.bodies.length - q) 0 (Nat.zero_le _) (by (exact plei)) ?_
 intro k hk
 have hk:k≤w.bodies.length:=hk
 refine pln ?_
 by_cases hkn:k < w.bodies.length
 ·repeat' (first|refine pa ?_|(refine pb ?_ ?_<;>intro hg)|refine pxeqs ?_|refine po ?_|((apply pdq 11;(focus exact pdp);(focus ((apply pct 11 2047 0;(focus (intro hd1;(refine ZaC 0 ?_<;>refine pt7_ 1 ?_<;>refine pt0_ 2 ?_<;>refine Za7 3 ?_<;>refine pt7_ 4 ?_<;>refine ZaC 5 ?_<;>refine pt7_ 6 ?_<;>refine pt0_ 7 ?_<;>refine Za7 8 ?_<;>refine pt7_ 9 ?_<;>(refine pq1 10 ?_;(focus ((refine pop ?_;(first|refine pxeqs ?_|refine pk10 ?_))<;>(exact ptm hd1)))))));(case main=>((refine ZaI ?_;exact ZaJ))))))))|fail)
  exact ⟨k + 1,by show k + 1≤w.bodies.length;omega,by show w.bodies.length - (k + 1) < w.bodies.length - k;omega,by (exact ple)⟩
 ·repeat' (first|refine pa ?_|(refine pb ?_ ?_<;>intro hg)|refine po ?_|((apply pdq 11;(focus exact pdp);(focus ((apply pct 11 2047 0;(focus (intro hd1;(refine ZaC 0 ?_<;>refine pt7_ 1 ?_<;>refine pt0_ 2 ?_<;>refine Za7 3 ?_<;>refine pt7_ 4 ?_<;>refine ZaC 5 ?_<;>refine pt7_ 6 ?_<;>refine pt0_ 7 ?_<;>refine Za7 8 ?_<;>refine pt7_ 9 ?_<;>(refine pq1 10 ?_;(focus ((refine pop ?_;refine pk10 ?_)<;>(exact ptm hd1)))))));(case main=>((refine ZaI ?_;exact ZaJ))))))))|fail)
  exact pfr
def andN (a:Int):Nat:=(BitVec.ofInt 64 a &&& BitVec.ofInt 64 255).toNat
theorem ZuC (a:Int):andN a≤255:=by
 unfold andN
 rw [BitVec.toNat_and]
 exact Nat.and_le_right
theorem and_255 (a:Int):bits .and .i64 a 255=(andN a:Int):=by
 have h:=ZuC a
 have e2:bits .and .i64 a 255=IntKind.i64.wrap ((andN a:Nat):Int):=rfl
 rw [e2]
 exact wrap_i64 (by omega)
theorem ZuX (a:Int):IntKind.i64.wrap (((BitVec.ofInt IntKind.i64.bits a &&& BitVec.ofInt IntKind.i64.bits 255).toNat:Nat):Int)=(andN a:Int):=and_255 a
theorem Zt9 (a:Int):0≤IntKind.i64.wrap (((BitVec.ofInt IntKind.i64.bits a &&& BitVec.ofInt IntKind.i64.bits 255).toNat:Nat):Int)∧IntKind.i64.wrap (((BitVec.ofInt IntKind.i64.bits a &&& BitVec.ofInt IntKind.i64.bits 255).toNat:Nat):Int)≤255:=by
 rw [ZuX]
 have:=ZuC a
 omega
theorem Zug (xs:List Int) (hxl:xs.length≤1048576):AMP Tryz.prog 59 [] [.t (.lst true 5 (Zsm xs))] (α:=Int) (fun h=>[(31,1,.box 145 [.t (.lst true 5 (Zsm xs)),.t (.int .i64 (0:Nat)),.t (.int .i64 h)])]) (fun _=>.ptr 31 1 0 0) (fun _=>True):=by
 have hel:(Zsm xs).length=xs.length:=List.length_map _
 refine AMP.go Tryz.func59 Tryz.ntmps59 fun B W hr=>?_
 repeat' (first|refine pa ?_|(refine pb ?_ ?_<;>intro hg)|refine po ?_|fail)
 refine aW.loopF rfl (fun q:Nat×Int=>[(4,.t (.int .i64 q.1)),(3,.t (.int .i64 q.2))]) [(0,_)] (fun q=>[]) [] (fun q=>q.1≤4000) (fun q=>4000 - q.1) (0,_) (by show 0≤4000;omega) (by (exact plei)) ?_
 rintro ⟨k,h⟩ hk
 have hk:k≤4000:=hk
 refine pln ?_
 repeat' (first|refine pa ?_|(refine pb ?_ ?_<;>intro hg)|refine po ?_|fail)
 ·exact ⟨(k + 1,_),by show k + 1≤4000;omega,by show 4000 - (k + 1) < 4000 - k;omega,by (exact ple)⟩
 ·refine ⟨h,trivial,?_⟩
  (show Zbu _ _ _ _ _ _ _;refine Zbu.intro (by exact pU12) (vs:=[.ptr _ _ _ _]) rfl rfl rfl (by exact pU3) rfl rfl (.inl ⟨rfl,rfl,rfl⟩))
 ·refine ⟨h,trivial,?_⟩
  (show Zbu _ _ _ _ _ _ _;refine Zbu.intro (by exact pU12) (vs:=[.ptr _ _ _ _]) rfl rfl rfl (by exact pU3) rfl rfl (.inl ⟨rfl,rfl,rfl⟩))
theorem ZtS (xs:List Int) (hxl:xs.length≤1048576) (i:Nat) (h:Int):AMP Tryz.prog 141 [(0,0,.box 145 [.t (.lst true 5 (Zsm xs)),.t (.int .i64 i),.t (.int .i64 h)])] [.ptr 0 0 0 0] (α:=Nat×Int×Int) (fun x=>[(0,0,.box 145 [.t (.lst true 5 (Zsm xs)),.t (.int .i64 x.1),.t (.int .i64 x.2.1)])]) (fun x=>.t (.int .i64 x.2.2)) (fun x=>0≤x.2.2∧x.2.2≤255):=by
 have hel:(Zsm xs).length=xs.length:=List.length_map _
 refine AMP.go Tryz.func141 Tryz.ntmps141 fun B W hr=>?_
 repeat' (first|refine pa ?_|(refine pb ?_ ?_<;>intro hg)|refine po ?_|((apply pdq 13;(focus exact pdp);(focus ((refine pt0_ 0 ?_<;>refine pt9_ 1 ?_<;>refine ZaC 2 ?_<;>refine pt7_ 3 ?_<;>refine Zbh 4 ?_<;>refine pt0_ 5 ?_<;>refine pt9_ 6 ?_<;>refine ZaC 7 ?_<;>refine pt7_ 8 ?_<;>refine Zbh 9 ?_<;>refine Zbh 10 ?_<;>refine Zbh 11 ?_<;>refine pt1_ 12 ?_<;>(refine ZaI ?_;exact ZaJ))))))|((apply pdq 10;(focus exact pdp);(focus ((refine pt0_ 0 ?_<;>refine pt9_ 1 ?_<;>refine ZaC 2 ?_<;>refine pt7_ 3 ?_<;>refine pt0_ 4 ?_<;>refine pt9_ 5 ?_<;>refine ZaC 6 ?_<;>refine pt7_ 7 ?_<;>refine Ziv 8 ?_<;>refine Zbh 9 ?_<;>(refine ZaI ?_;exact ZaJ))))))|((apply pdq 15;(focus exact pdp);(focus ((apply pct 15 4095 3;(focus (intro hd1;(refine pt0_ 0 ?_<;>refine pt0_ 1 ?_<;>refine pt9_ 2 ?_<;>refine ZaC 3 ?_<;>refine pt7_ 4 ?_<;>refine pt0_ 5 ?_<;>refine pt9_ 6 ?_<;>refine ZaC 7 ?_<;>refine pt7_ 8 ?_<;>refine Za7 9 ?_<;>refine pt7_ 10 ?_<;>(refine pq1 11 ?_;(focus ((refine pop ?_;refine pk12 ?_)<;>(exact ptm hd1)))))));(case main=>(refine Zbh 12 ?_<;>refine Zbh 13 ?_<;>refine pt1_ 14 ?_<;>(refine ZaI ?_;exact ZaJ))))))))|fail)
 ·(show Zsp _ _ _ _ _ _ _ _;apply Zss (a:=i + 1);(case dd=>(dsimp only;(show Zbu _ _ _ _ _ _ _;refine ZgD ?_;first|exact .inl ⟨rfl,rfl,rfl⟩|refine .inr ⟨rfl,?_,(by exact pU2),rfl⟩);exact .inl rfl));case pp=>exact Zt9 _)
 ·(show Zsp _ _ _ _ _ _ _ _;apply Zss (a:=i);(case dd=>(dsimp only;(show Zbu _ _ _ _ _ _ _;refine ZgD ?_;first|exact .inl ⟨rfl,rfl,rfl⟩|refine .inr ⟨rfl,?_,(by exact pU2),rfl⟩);exact .inl rfl));case pp=>exact Zt9 _)
theorem ZuD {a:Int} {n:Int} (h0:0≤a) (h:0 < n):a.tmod n=((a.toNat % n.toNat:Nat):Int):=by
 rw [Int.tmod_eq_emod_of_nonneg h0]
 obtain ⟨k,rfl⟩:=Int.eq_ofNat_of_zero_le (show 0≤n by omega)
 obtain ⟨m,rfl⟩:=Int.eq_ofNat_of_zero_le h0
 rfl
theorem ZuY {n:Int} (m:Nat) (h:0 < n):((m % n.toNat:Nat):Int) < n:=by
 have:=Nat.mod_lt m (show 0 < n.toNat by omega)
 omega
theorem Zsb (xs:List Int) (hxl:xs.length≤1048576) (i:Nat) (h n:Int) (hn:0 < n):AMP Tryz.prog 61 [(0,0,.box 145 [.t (.lst true 5 (Zsm xs)),.t (.int .i64 i),.t (.int .i64 h)])] [.ptr 0 0 0 0,.t (.int .i64 n)] (α:=Nat×Int×Nat) (fun x=>[(0,0,.box 145 [.t (.lst true 5 (Zsm xs)),.t (.int .i64 x.1),.t (.int .i64 x.2.1)])]) (fun x=>.t (.int .i64 (x.2.2:Nat))) (fun x=>(x.2.2:Int) < n):=by
 refine AMP.go Tryz.func61 Tryz.ntmps61 fun B W hr=>?_
 repeat' (first|refine pa ?_|(refine pb ?_ ?_<;>intro hg)|(refine z9 ?_;((refine Zp4 (m:=[(0,_,_)]) (ZtS _ hxl _ _) (fun b hb=>?_);refine pmk ?_)))|refine po ?_|fail)
 all_goals (show Zsp _ _ _ _ _ _ _ _;apply Zss;(case dd=>(dsimp only;(show Zbu _ _ _ _ _ _ _;refine ZgD ?_;first|exact .inl ⟨rfl,rfl,rfl⟩|refine .inr ⟨rfl,?_,(by exact pU2),rfl⟩);exact .inl (congrArg (T.int .i64) (ZuD (by omega) hn))));case pp=>exact ZuY _ hn)
theorem Zti (xs:List Int) (hxl:xs.length≤1048576) (i:Nat) (h:Int) (ys:List Int) (hy:0 < ys.length):AMP Tryz.prog 239 [(0,0,.box 145 [.t (.lst true 5 (Zsm xs)),.t (.int .i64 i),.t (.int .i64 h)])] [.ptr 0 0 0 0,.t (ints 3 ys)] (α:=Nat×Int×Int) (fun x=>[(0,0,.box 145 [.t (.lst true 5 (Zsm xs)),.t (.int .i64 x.1),.t (.int .i64 x.2.1)])]) (fun x=>.t (.int .i64 x.2.2)) (fun x=>x.2.2 ∈ ys):=by
 refine AMP.go Tryz.func239 Tryz.ntmps239 fun B W hr=>?_
 repeat' (first|refine pa ?_|(refine pb ?_ ?_<;>intro hg)|(refine z9 ?_;((refine Zp4 (m:=[(0,_,_)]) (Zsb _ hxl _ _ (ys.length:Int) (by omega)) (fun b hb=>?_);refine pmk ?_)))|refine po ?_|fail)
 all_goals (show Zsp _ _ _ _ _ _ _ _;apply Zss;(case dd=>(dsimp only;(show Zbu _ _ _ _ _ _ _;refine ZgD ?_;first|exact .inl ⟨rfl,rfl,rfl⟩|refine .inr ⟨rfl,?_,(by exact pU2),rfl⟩);exact .inl rfl));case pp=>exact Zdi (by omega))
theorem Zsc (xs:List Int) (hxl:xs.length≤1048576) (i:Nat) (h:Int):AMP Tryz.prog 205 [(0,0,.box 145 [.t (.lst true 5 (Zsm xs)),.t (.int .i64 i),.t (.int .i64 h)])] [.ptr 0 0 0 0] (α:=Nat×Int×Int) (fun x=>[(0,0,.box 145 [.t (.lst true 5 (Zsm xs)),.t (.int .i64 x.1),.t (.int .i64 x.2.1)])]) (fun x=>.t (.int .i64 x.2.2)) (fun x=>0≤x.2.2∧x.2.2≤15):=by
 refine AMP.go Tryz.func205 Tryz.ntmps205 fun B W hr=>?_
 repeat' (first|(first|refine pc ?_|(refine pbc ?_ ?_<;>intro hg))|(((first|refine pl ?_|(refine pbl ?_ ?_<;>intro hg)))<;>(first|(first|(refine z9 ?_;((refine Zp4 (m:=[(0,_,_)]) (Zsb _ hxl _ _ 16 (by decide)) (fun b hb=>?_);refine pmk ?_)))|refine po ?_)|(fail_if_success (show OpS _ _ _ _ _ _))))|fail)
 refine aL.ghost (Zco.free (o:=6) (ep:=1) (s:=6) rfl rfl) ?_
 repeat' (first|refine pa ?_|(refine pb ?_ ?_<;>intro hg)|(refine z9 ?_;((refine Zp4 (m:=[(0,_,_)]) (Zti _ hxl _ _ [0,1,2,2,6,8,10,12,9,(b.2.2:Int)] (Nat.zero_lt_succ _)) (fun e he=>?_);refine pmk ?_)))|refine po ?_|fail)
 have hr2:0≤e.2.2∧e.2.2≤15:=by
  simp only [List.mem_cons,List.not_mem_nil,or_false] at he
  omega
 (show Zsp _ _ _ _ _ _ _ _;apply Zss;(case dd=>(dsimp only;(show Zbu _ _ _ _ _ _ _;refine ZgD ?_;first|exact .inl ⟨rfl,rfl,rfl⟩|refine .inr ⟨rfl,?_,(by exact pU2),rfl⟩);exact .inl rfl));case pp=>exact hr2)
def in15 (zs:List Int):Prop:=∀ y ∈ zs,0≤y∧y≤15
def rowsOf (n:Nat) (ts:TS):Prop:=∀ t ∈ ts,t.length=n∧in15 t
theorem Zuy {X Y:Prop} (h:Y) (r:Hld Y→X:=by intro h;exact pdr [] 10 (by (apply pct 10 1023 0;(focus (intro hd5;(apply pct 10 255 2;(focus (intro hd4;(apply pct 10 127 3;(focus (intro hd3;(apply pct 10 125 4;(focus (intro hd2;(apply pct 10 63 4;(focus (intro hd1;(refine ZaC 0 ?_<;>refine pt0_ 2 ?_<;>refine pt0_ 3 ?_<;>refine pt0_ 4 ?_<;>refine ZkV 5 ?_<;>(refine pq2 1 6 ?_ ?_;(focus ((refine pop ?_;refine pk7 ?_)<;>(exact ptm hd1)));(focus ((refine pop ?_;refine pk6 ?_)<;>(exact ptm hd2)))))));(case main=>((refine pq1 6 ?_;(focus ((refine pop ?_;refine pk6 ?_)<;>(exact ptm hd3)))))))));(case main=>((refine pq1 1 ?_;(focus ((refine pop ?_;refine pk7 ?_)<;>(exact ptw hd3)))))))));(case main=>((refine pq1 7 ?_;(focus ((refine pop ?_;refine pk20 ?_)<;>(exact ptm hd4)))))))));(case main=>(refine ZaC 8 ?_<;>(refine pq1 9 ?_;(focus ((refine pop ?_;refine pk8 ?_)<;>(exact ptm hd5)))))))));(case main=>((refine ZaI ?_;exact ZaJ))))) h.out):X:=r ⟨h⟩
theorem Ztr (l:List (List UInt8)) (x:List UInt8):Zai (l++[x])=Zai l++[[T.str x]]:=by simp [Zai,strC]
def Zs3 (s:List UInt8) (k a:Nat) (rows:List (List UInt8)):Prop:=(k≤s.length∧a≤k∧rows.length≤k∧rows++cutAt ((s.take k).drop a) (s.drop k)=cutAt [] s)∨(k=s.length + 1∧rows.length≤k∧rows=cutAt [] s)
theorem Zs3.end_ {s:List UInt8} {a:Nat} {rows:List (List UInt8)} (h:Zs3 s s.length a rows):Zs3 s (s.length + 1) (s.length + 1) (rows++[(s.take s.length).drop a]):=by
 rcases h with ⟨h1,h2,h3,h4⟩|⟨h1,_⟩
 ·refine .inr ⟨rfl,by rw [List.length_append];simp;omega,?_⟩
  rw [List.drop_length] at h4
  exact h4
 ·omega
theorem Zs3.cut {s:List UInt8} {k a:Nat} {rows:List (List UInt8)} (h:Zs3 s k a rows) (hk:k < s.length) (hb:s.getD k 0=47):Zs3 s (k + 1) (k + 1) (rows++[(s.take k).drop a]):=by
 rcases h with ⟨h1,h2,h3,h4⟩|⟨h1,_⟩
 ·refine .inl ⟨hk,Nat.le_refl _,by rw [List.length_append];simp;omega,?_⟩
  have hd:s.drop k=s.getD k 0 :: s.drop (k + 1):=by rw [List.getD_eq_getElem?_getD,List.getElem?_eq_getElem hk];exact List.drop_eq_getElem_cons hk
  rw [hd,cutAt,if_pos hb] at h4
  rw [List.append_assoc,show (s.take (k + 1)).drop (k + 1)=[] from List.drop_of_length_le (by rw [List.length_take];omega)]
  exact h4
 ·omega
theorem Zs3.go {s:List UInt8} {k a:Nat} {rows:List (List UInt8)} (h:Zs3 s k a rows) (hk:k < s.length) (hb:¬ s.getD k 0=47):Zs3 s (k + 1) a rows:=by
 rcases h with ⟨h1,h2,h3,h4⟩|⟨h1,_⟩
 ·refine .inl ⟨hk,by omega,by omega,?_⟩
  have hg:s.getD k 0=s[k]:=by rw [List.getD_eq_getElem?_getD,List.getElem?_eq_getElem hk];rfl
  have hd:s.drop k=s.getD k 0 :: s.drop (k + 1):=by rw [hg];exact List.drop_eq_getElem_cons hk
  rw [hd,cutAt,if_neg hb] at h4
  rw [List.take_succ_eq_append_getElem hk,List.drop_append_of_le_length (by rw [List.length_take];omega),← hg]
  exact h4
 ·omega
theorem Zub {s:List UInt8} {k a:Nat}:(s.take k).drop a=List.take ((k:Int).toNat - (a:Int).toNat) (List.drop (a:Int).toNat s):=by
 rw [Int.toNat_natCast,Int.toNat_natCast]
 exact List.drop_take
theorem Ztf (s:List UInt8) (hs:s.length≤1000) (hok:Zbc (cutAt [] s)=true):AC Tryz.prog 139 [.t (.str s)] (.tup [.agg [.fr true 9 (Zai (cutAt [] s))],.t (.bool true)]):=by
 have hLv:=Zfs (cutAt [] s)
 rw [hok] at hLv
 refine AC.go Tryz.func139 Tryz.ntmps139 fun B W hr=>?_
 repeat' (first|refine pa ?_|(refine pb ?_ ?_<;>intro hg)|refine po ?_|(refine Zuy ?_)|fail)
 refine aW.nilcell (o:=4) (i:=500) (k:=0) true 9 rfl rfl rfl rfl rfl ?_
 refine aW.loopF rfl (fun q:Nat×Nat×Nat×List (List UInt8)=>[(6,.t (.int .i64 q.1)),(5,.t (.int .i64 q.2.1))]) [(0,_),(2,_),(3,_),(4,_)] (fun q=>[(4,1,.box 26 [.hnd 500 q.2.2.1]),(500,q.2.2.1,.row true true 9 (Zai q.2.2.2))]) [(2,_,_)] (fun q=>q.1≤s.length + 1∧Zs3 s q.1 q.2.1 q.2.2.2) (fun q=>s.length + 1 - q.1) (0,0,1,[]) ⟨Nat.zero_le _,.inl ⟨Nat.zero_le _,Nat.le_refl _,Nat.le_refl _,rfl⟩⟩ (by (exact plei)) ?_
 rintro ⟨k,a,ep,rows⟩ hI
 obtain ⟨hk0,hcut⟩:k≤s.length + 1∧Zs3 s k a rows:=hI
 have hrl:(Zai rows).length=rows.length:=Zbs rows
 have hkr:rows.length≤k:=by rcases hcut with h|h<;>omega
 have hak:k≤s.length→a≤k:=fun h=>by rcases hcut with h|h<;>omega
 refine pln ?_
 by_cases hk:k≤s.length
 ·have hak:=hak hk
  by_cases he:k=s.length
  ·subst he
   repeat' (first|refine pa ?_|(refine pb ?_ ?_<;>intro hg)|refine po ?_|(refine Zuy ?_)|fail)
   exact ⟨(s.length + 1,s.length + 1,ep + 1,_),⟨Nat.le_refl _,hcut.end_⟩,by show s.length + 1 - (s.length + 1) < s.length + 1 - s.length;omega,by rw [Ztr,Zub];(exact ple)⟩
  ·have hlt:k < s.length:=by omega
   by_cases hb0:(((s.getD ((k:Int).toNat) 0).toNat:Nat):Int)=47
   ·have hb:s.getD k 0=47:=by
     rw [Int.toNat_natCast] at hb0
     exact UInt8.toNat_inj.1 (by have:(47:UInt8).toNat=47:=rfl;omega)
    repeat' (first|refine pa ?_|(refine pb ?_ ?_<;>intro hg)|refine po ?_|(refine Zuy ?_)|fail)
    exact ⟨(k + 1,k + 1,ep + 1,_),⟨by show k + 1≤s.length + 1;omega,hcut.cut hlt hb⟩,by show s.length + 1 - (k + 1) < s.length + 1 - k;omega,by rw [Ztr,Zub];(exact ple)⟩
   ·have hb:¬ s.getD k 0=47:=fun e=>hb0 (by rw [Int.toNat_natCast,e];rfl)
    repeat' (first|refine pa ?_|(refine pb ?_ ?_<;>intro hg)|refine po ?_|(refine Zuy ?_)|fail)
    exact ⟨(k + 1,a,ep,_),⟨by show k + 1≤s.length + 1;omega,hcut.go hlt hb⟩,by show s.length + 1 - (k + 1) < s.length + 1 - k;omega,by (exact ple)⟩
 ·have hall:rows=cutAt [] s:=by rcases hcut with h|h;omega;exact h.2.2
  subst hall
  repeat' (first|refine pa ?_|(refine pb ?_ ?_<;>intro hg)|(refine z9 ?_;(refine Zaa hLv ?_))|refine po ?_|(refine Zuy ?_)|fail)
  exact pfg
def Ztc:List (List UInt8):=[text1,text2,text3,text4,text5]
theorem ZuS {j:Nat} (hj:j < 5):(Ztc.getD j default).length≤1000∧ZaZ (cutAt [] (Ztc.getD j default)):=by
 match j,hj with
 | 0,_=>exact ⟨by decide,lv1_ok⟩
 | 1,_=>exact ⟨by decide,lv2_ok⟩
 | 2,_=>exact ⟨by decide,lv3_ok⟩
 | 3,_=>exact ⟨by decide,lv4_ok⟩
 | 4,_=>exact ⟨by decide,lv5_ok⟩
theorem Ztw:AC Tryz.prog 140 [] (.fr true 9 (Zai Ztc)):=by
 refine AC.go Tryz.func140 Tryz.ntmps140 fun B W hr=>?_
 repeat' (first|refine pa ?_|(refine pb ?_ ?_<;>intro hg)|refine po ?_|fail)
 refine pfin ?_
 exact rfl
theorem ZtF (xs:List Int) (hxl:xs.length≤1048576) (i:Nat) (h:Int):AMP Tryz.prog 60 [(0,0,.box 145 [.t (.lst true 5 (Zsm xs)),.t (.int .i64 i),.t (.int .i64 h)])] [.ptr 0 0 0 0] (α:=Nat×Int×Lv) (fun x=>[(0,0,.box 145 [.t (.lst true 5 (Zsm xs)),.t (.int .i64 x.1),.t (.int .i64 x.2.1)])]) (fun x=>.agg [.fr true 9 (Zai x.2.2)]) (fun x=>ZaZ x.2.2):=by
 have hls:=Ztw
 have htx:Ztc.length=5:=rfl
 have hok:∀ j,j < 5→(Ztc.getD j default).length≤1000∧ZaZ (cutAt [] (Ztc.getD j default)):=fun j hj=>ZuS hj
 generalize Ztc=ts at hls htx hok
 have htl:=Zbs ts
 refine AMP.go Tryz.func60 Tryz.ntmps60 fun B W hr=>?_
 repeat' (first|(first|refine pc ?_|(refine pbc ?_ ?_<;>intro hg))|(((first|refine pl ?_|(refine pbl ?_ ?_<;>intro hg)))<;>(first|(first|(refine z9 ?_;(first|refine Zc5 hls ?_|(refine Zp4 (m:=[(0,_,_)]) (Zsb _ hxl _ _ 5 (by decide)) (fun b hb=>?_);refine pmk ?_)))|refine po ?_)|(fail_if_success (show OpS _ _ _ _ _ _))))|fail)
 have hj:b.2.2 < 5:=by omega
 obtain ⟨q1,q2⟩:=hok _ hj
 have hp:=Ztf (ts.getD b.2.2 default) q1 (ZaU.2 q2)
 repeat' (first|refine pa ?_|(refine pb ?_ ?_<;>intro hg)|(refine z9 ?_;(refine pz3 hp ?_))|refine po ?_|fail)
 (show Zsp _ _ _ _ _ _ _ _;apply Zss;(case dd=>(dsimp only;(show Zbu _ _ _ _ _ _ _;refine ZgD ?_;first|exact .inl ⟨rfl,rfl,rfl⟩|refine .inr ⟨rfl,?_,(by exact pU2),rfl⟩);(exact pgiv)));case pp=>exact q2)
theorem Zs4 (xs:List Int) (hxl:xs.length≤1048576) (i:Nat) (h:Int):AMP Tryz.prog 60 [(0,0,.box 145 [.t (.lst true 5 (Zsm xs)),.t (.int .i64 i),.t (.int .i64 h)])] [.ptr 0 0 0 0] (α:=Nat×Int×Lv) (fun x=>[(0,0,.box 145 [.t (.lst true 5 (Zsm xs)),.t (.int .i64 x.1),.t (.int .i64 x.2.1)])]) (fun x=>.agg [.t (.lst true 9 (Zai x.2.2))]) (fun x=>ZaZ x.2.2):=(ZtF xs hxl i h).ro
def Fits (rows:TS) (ts:TS):Prop:=∀ j,j < ts.length→(ts.getD j default).length≤rows.length∧∀ t,t < (ts.getD j default).length→(ts.getD j default).getD t 0=(rows.getD t default).getD j 0
structure ZvI (w:Wd) (rows:TS) (p:Pr):Prop where
 good:Good w p
 right:Zst p
 fault:p.ft=0∧p.fp=0∧p.fa=0
 delay:p.delay=0
 rok:rowsOf p.tracks.length rows
 few:rows.length≤92
 fits:Fits rows p.tracks
 mine:((p.tracks.getD p.me.toNat default).length:Int)≤p.now.tick + 1
def ZvA (rows:TS) (n j f u:Nat):PkV:=⟨j,0,f,(List.range (u - f)).map fun k:Nat=>(rows.getD (f + k) default).getD j 0,List.replicate n 0,0,0,0,0⟩
theorem Zur {p:Pr} {y:Int} (h:Zc0 p):Zc0 (Zsg p y):=by
 unfold Zsg
 split<;>exact h
theorem ZsH {p:Pr} (h:Zc0 p):Zc0 (confirmV p):=by
 unfold confirmV
 split
 ·exact Zsz h
 ·exact h
theorem Zuo {p q:Pr} {x:PkV} (h:Zc0 p) (hl:Zsj p x=some q):Zc0 q:=by
 unfold Zsj at hl
 split at hl
 ·cases hr:Zqk { p with tracks:=(Zsk p x).1 } with
  | none=>rw [hr] at hl;cases hl
  | some r =>
   rw [hr] at hl
   cases hl
   exact ZsH (Zs9 (p:={ p with tracks:=(Zsk p x).1 }) h hr)
 ·cases hl
structure Zvz (w:Wd) (rows:TS) (n me:Nat) (p:Pr):Prop where
 roll:ZvI w rows p
 dl:Zc0 p
 tn:p.tracks.length=n
 mine:p.me=(me:Int)
end Go.Proofs.YthfaongbpdnlnaaGreat
